/- Part 5 of a proof: what the last part needs. No condition. -/
import Derived.Test.YtdhbaclieillgaaGreatDoorZd
import Derived.ChangeSlices
import Derived.ChangeSame
import Derived.JoinedOf
import Derived.JoinedAt
import Derived.Handed
import Derived.Below
import Derived.Carry
import Derived.OpenShut
import Derived.ChangeKeysEq
import Derived.Deep.Slices
import Derived.OpenVars
import Derived.LaidMore
import Derived.MakeChecks
import Derived.Test.YtdhbaclieillgaaGreatDoorY
set_option maxHeartbeats 1000000
set_option linter.all false
set_option linter.unusedSectionVars false
set_option linter.unusedVariables false
set_option linter.unusedSimpArgs false
namespace Go.TX.F
open Go Go.AE Go.TX List
variable{m:aG}{i:Ins}
def aoH(m:aG)(h:MSh m):SL.F () (m,()) (λy=>y=m10 m):=by
 obtain⟨c,d,a,b⟩:=h;dsimp only [SL,gm];simp (disch:=omega) only [RR,MRB,nil_append,length_nil];exact⟨ah,ah,ah,ah⟩
def aoI(m:aG)(h:Int):SY.F () (m.pc,m.save,m.bG,m.waits,m.halt,m.ins,m.count,h,m.regs,m.mem,m.outs,()) (λy=>y=mB {m with halt:=h}):=by
 dsimp only [SY,gm]
def aoJ{p1 f1}(a:Y10 p1 f1)(m:aG)(n:Int)(h:0<=m.count/\m.count<=1000000):Tc.F (p1,f1,()) (m.pc,m.save,m.bG,m.waits,m.halt,m.ins,m.count,n,m.regs,m.mem,m.outs,()) (λy=>y=mB {m with pc:=n%65536,count:=m.count+1}):=by
 dsimp only [Tc,gm];simp (disch:=omega) only [RR,a]
abbrev afG(a : Int × Int × Bool × Bool × Int × List Int × Int × Int × List Int × List Int × List Int × Unit -> Bool)(b : Int × Int × Bool × Bool × Int × List Int × Int × Int × List Int × List Int × List Int × Unit -> Int × Int × Bool × Bool × Int × List Int × Int × List Int × List Int × List Int × Unit) : Prop := ∀ (m : aG) (n : Int), (0 <= m.count /\ m.count <= 1000000) -> a (m.pc, m.save, m.bG, m.waits, m.halt, m.ins, m.count, n, m.regs, m.mem, m.outs, ()) = true /\ b (m.pc, m.save, m.bG, m.waits, m.halt, m.ins, m.count, n, m.regs, m.mem, m.outs, ()) = mB { m with pc := n % 65536, count := m.count + 1 }
def aoK{p1 f1}(e:afG p1 f1)(m:aG)(d v:Int)(h:MOK m)(b:0<=d)(g:d<=3):Te.F (p1,f1,()) (m.pc,m.save,m.bG,m.waits,m.halt,m.ins,m.count,d,v,m.regs,m.mem,m.outs,()) (λy=>y=mB {m with regs:=m.regs.set d.toNat v,pc:=(m.pc+1)%65536,count:=m.count+1}):=by
 have a:=h.r4;have c:=h.ct;have f:0<=m.pc/\m.pc<=65535:=h.pc;obtain⟨P,H⟩:=e {m with regs:=m.regs.set d.toNat v} (m.pc+1) c;dsimp only at H P;dsimp only [Te,gm];simp (disch:=omega) only [RR,H,P,a,b];omega
def dbl(v:Int)(j:Nat):(v*2^j%65536+v*2^j%65536)%65536=v*2^ (j+1)%65536:=by
 rw [Int.pow_succ,<-Int.mul_assoc];omega
def aoL{p1 f1}(b:Y10 p1 f1)(v k:Int)(h:Wo v)(c:0<=k)(f:k<=15):Tf.F (p1,f1,()) (v,k,()) (λy=>y=(v*2^k.toNat%65536,())):=by
 dsimp only [Tf,gm];simp (disch:=omega) only [RR];refine au (λ(y:Int×ni)=>y.1=k/\0<=y.2.2.1/\y.2.2.1<=k/\y.2.1=v*2^y.2.2.1.toNat%65536) (λy=>(k-y.2.2.1).toNat) ⟨rfl,by simp,c,by have:=h.1;have:=h.2;dsimp only;rw [show Int.toNat 0=0 from rfl,Int.pow_zero];omega⟩ ?_;rintro⟨(z:Int),(a:Int),(i:Int),⟨⟩⟩ hI;dsimp only at hI ⊢;obtain⟨rfl,e,d,rfl⟩:=hI;by_cases g:i<z
 .simp (disch:=omega) only [RR,b,g];exact⟨⟨ah,ah,by rw [show(i+1).toNat=i.toNat+1 by omega];exact dbl v i.toNat⟩,ah⟩
 .simp (disch:=omega) only [RR,b,g];rw [show i=z by omega]
def IR:(∀i:Ins,cu .ins 0 i=i.op)/\(∀i:Ins,cu .ins 1 i=i.d)/\(∀i:Ins,cu .ins 2 i=i.a)/\(∀i:Ins,cu .ins 3 i=i.k):=⟨λ_=>rfl,λ_=>rfl,λ_=>rfl,λ_=>rfl⟩
def Z8{u:aG}(h:exec m i=u):mB u=mB (exec m i):=by rw [h]
def gF(h:¬((i.op=9\/i.op=10)/\64<=adr m i)){u:aG}(e:eff m i=u){n:Int}(f:nxt m i=n):mB {u with pc:=n,count:=m.count+1}=mB (exec m i):=by
 refine Z8 ?_;unfold exec;rw [if_neg h,e,f]
def ef0(e:i.op=0):eff m i=(if i.k=0 then {m with halt:=1}else if i.k=1 then {m with bG:=true}else {m with bG:=decide (i.k=2)}):=by
 unfold eff;(iterate 7 rw [if_neg ah]);rw [if_pos e]
def ef1(e:i.op=1):eff m i={m with regs:=m.regs.set i.d.toNat i.k}:=by unfold eff;rw [if_pos e]
def ef2(e:i.op=2):eff m i={m with regs:=m.regs.set i.d.toNat ((m.regs).getD (i.a).toNat default)}:=by unfold eff;rw [if_neg ah,if_pos e]
def ef8(e:i.op=8):eff m i={m with regs:=m.regs.set i.d.toNat (((m.regs).getD (i.a).toNat default)*2^i.k.toNat%65536)}:=by unfold eff;(iterate 2 rw [if_neg ah]);rw [if_pos e]
def ef9(e:i.op=9):eff m i={m with regs:=m.regs.set i.d.toNat ((m.mem).getD (adr m i).toNat default)}:=by unfold eff;(iterate 3 rw [if_neg ah]);rw [if_pos e]
def au5(e:i.op=10):eff m i={m with mem:=m.mem.set (adr m i).toNat ((m.regs).getD (i.d).toNat default)}:=by unfold eff;(iterate 4 rw [if_neg ah]);rw [if_pos e]
def au6(e:i.op=14):eff m i={m with outs:=m.outs++ [((m.regs).getD (i.d).toNat default)]}:=by unfold eff;(iterate 5 rw [if_neg ah]);rw [if_pos e]
def atg(e:i.op=15):eff m i={m with regs:=m.regs.set i.d.toNat (m.ins.getD 0 default),ins:=m.ins.drop 1}:=by unfold eff;(iterate 6 rw [if_neg ah]);rw [if_pos e]
def efj(e:11<=i.op/\i.op<=13):eff m i=m:=by unfold eff;(iterate 8 rw [if_neg ah]);rw [if_pos ah]
def efd(e:3<=i.op/\i.op<=7):eff m i={m with regs:=m.regs.set i.d.toNat (wdo (i.op-2) ((m.regs).getD (i.a).toNat default) ((m.regs).getD (i.k).toNat default))}:=by unfold eff;(iterate 9 rw [if_neg ah])
def nxp(h:(i.op=0->i.k≠1)/\¬(11<=i.op/\i.op<=13)):nxt m i=(m.pc+1)%65536:=by unfold nxt;rw [if_neg (λq=>h.1 q.1 q.2),if_neg (λq=>h.2 ah),if_neg ah]
def n9(h:¬(i.op=9\/i.op=10)):¬((i.op=9\/i.op=10)/\64<=adr m i):=λq=>h q.1
abbrev aoM(b : Int × Int × Bool × Bool × Int × List Int × Int × Int × List Int × List Int × List Int × Unit -> Bool)(a : Int × Int × Bool × Bool × Int × List Int × Int × Int × List Int × List Int × List Int × Unit -> Int × Int × Bool × Bool × Int × List Int × Int × List Int × List Int × List Int × Unit) : Prop := ∀ (m : aG) (h : Int), b (m.pc, m.save, m.bG, m.waits, m.halt, m.ins, m.count, h, m.regs, m.mem, m.outs, ()) = true /\ a (m.pc, m.save, m.bG, m.waits, m.halt, m.ins, m.count, h, m.regs, m.mem, m.outs, ()) = mB { m with halt := h }
abbrev aoN(a : Int × Int × Bool × Bool × Int × List Int × Int × Int × Int × List Int × List Int × List Int × Unit -> Bool)(b : Int × Int × Bool × Bool × Int × List Int × Int × Int × Int × List Int × List Int × List Int × Unit -> Int × Int × Bool × Bool × Int × List Int × Int × List Int × List Int × List Int × Unit) : Prop := ∀ (m : aG) (d v : Int), MOK m -> 0 <= d -> d <= 3 -> a (m.pc, m.save, m.bG, m.waits, m.halt, m.ins, m.count, d, v, m.regs, m.mem, m.outs, ()) = true /\ b (m.pc, m.save, m.bG, m.waits, m.halt, m.ins, m.count, d, v, m.regs, m.mem, m.outs, ()) = mB { m with regs := m.regs.set d.toNat v, pc := (m.pc + 1) % 65536, count := m.count + 1 }
theorem aoO{p1 f1 p2 f2 p3 f3 p4 f4}(t:Y10 p1 f1)(p:aoM p2 f2)(j:afG p3 f3)(k:aoN p4 f4)(m:aG)(i:Ins)(h:MOK m)(n:bP i)(f:i.op=9\/i.op=10):Tg.F (p1,f1,p2,f2,p3,f3,p4,f4,()) (m.pc,m.save,m.bG,m.waits,m.halt,m.ins,m.count,i,m.regs,m.mem,m.outs,()) (λy=>y=mB (exec m i)):=by
 obtain⟨_,⟨a,b⟩,⟨z,F⟩,C,_,_,_,_,_,B,_⟩:=n;have G:=B ah;have w:=h.r4;have x:=h.m64;have c:=h.ct;have D:0<=m.pc/\m.pc<=65535:=h.pc;have l:=λmem=>(j {m with mem:=mem} (m.pc+1) c).2
 have d:=λmem=>(j {m with mem:=mem} (m.pc+1) c).1
 dsimp only at l d;have A:=λv=>(k m i.d v h a b).2
 have s:=λv=>(k m i.d v h a b).1
 have E:0<=((m.regs).getD (i.a).toNat default)/\((m.regs).getD (i.a).toNat default)<=65535:=h.rw.at i.a;dsimp only [Tg,gm];simp (disch:=omega) only [RR,IR,t,p,l,d,A,s,w,x,a,z,nX];have r:(((m.regs).getD (i.a).toNat default)+i.k)%65536=adr m i:=rfl;rw [r];have o:0<=adr m i:=by unfold adr;omega
 refine⟨ah,ah,λg=>Z8 (by unfold exec;rw [if_pos ⟨f,g⟩]),λg=>⟨λe=>⟨ah,ah,ah,ah,?_⟩,λe=>⟨ah,ah,ah,ah,ah,ah,?_⟩⟩⟩
 .exact gF (u:={m with regs:=m.regs.set i.d.toNat ((m.mem).getD (adr m i).toNat default)}) (λq=>by omega) (ef9 e) (nxp ah)
 .exact gF (u:={m with mem:=m.mem.set (adr m i).toNat ((m.regs).getD (i.d).toNat default)}) (λq=>by omega) (au5 (f.resolve_left e)) (nxp ah)
def aoP{p1 f1 p2 f2}(p:afG p1 f1)(d:aoN p2 f2)(m:aG)(i:Ins)(h:MOK m)(w:bP i)(k:i.op=14\/i.op=15)(hn:m.ins.length<1000000000)(G:m.outs.length<900000000):Ti.F (p1,f1,p2,f2,()) (m.pc,m.save,m.bG,m.waits,m.halt,m.ins,m.count,i,m.regs,m.mem,m.outs,()) (λy=>y=mB (exec m i)):=by
 obtain⟨_,⟨b,f⟩,⟨H,I⟩,E,_⟩:=w;have A:=h.r4;have B:=h.m64;have c:=h.ct;have F:0<=m.pc/\m.pc<=65535:=h.pc;have t:=λo=>(p {m with outs:=o} (m.pc+1) c).2
 have n:=λo=>(p {m with outs:=o} (m.pc+1) c).1
 dsimp only at t n;have mk:∀l:List Int,l=m.ins\/l=m.ins.drop 1->MOK {m with ins:=l}:=λl D=> {h with iw:=by rcases D with rfl | rfl;exact h.iw;exact h.iw.drop 1}
 have C:=λv=>(d m i.d v h b f).2
 have z:=λv=>(d m i.d v h b f).1
 have q:=λv=>(d {m with ins:=m.ins.drop 1} i.d v (mk _ (Or.inr rfl)) b f).2
 have s:=λv=>(d {m with ins:=m.ins.drop 1} i.d v (mk _ (Or.inr rfl)) b f).1
 dsimp only at q s;have x:drop (Int.toNat 1) (take (Int.toNat (m.ins.length:Int)) m.ins)=m.ins.drop 1:=by rw [show Int.toNat (m.ins.length:Int)=m.ins.length by omega,take_of_length_le (Nat.le_refl _)];rfl
 dsimp only [Ti,gm];simp (disch:=omega) only [RR,IR,t,n,C,z,q,s,x,A,B,b,length_cons,length_nil,nX];have n9:¬((i.op=9\/i.op=10)/\64<=adr m i):=n9 ah;have j:nxt m i=(m.pc+1)%65536:=nxp ah;refine⟨λe=>⟨ah,ah,ah,?_⟩,λe=>⟨λg=>⟨ah,g,ah,ah,ah,?_⟩,λg=> ?_⟩⟩
 .exact gF (u:={m with outs:=m.outs++ [((m.regs).getD (i.d).toNat default)]}) n9 (au6 e) j
 .exact gF (u:={m with regs:=m.regs.set i.d.toNat (m.ins.getD 0 default),ins:=m.ins.drop 1}) n9 (atg (k.resolve_left e)) j
 .have e0:m.ins=[]:=by
   cases hm:m.ins with
   | nil=>rfl
   | cons a r=>rw [hm]at g;simp only [length_cons]at g;omega
  have:=gF (u:={m with regs:=m.regs.set i.d.toNat (m.ins.getD 0 default),ins:=m.ins.drop 1}) n9 (atg (k.resolve_left e)) j;rw [e0]at this;rw [<-this,e0];rfl
def aoQ{p1 f1 p2 f2}(s:aoM p1 f1)(a:afG p2 f2)(m:aG)(i:Ins)(h:MOK m)(k:i.op=0):Td.F (p1,f1,p2,f2,()) (m.pc,m.save,m.bG,m.waits,m.halt,m.ins,m.count,i.k,m.regs,m.mem,m.outs,()) (λy=>i.k<=3->0<=i.k->y=mB (exec m i)):=by
 have c:=h.ct;have v:0<=m.pc/\m.pc<=65535:=h.pc;have x:0<=m.save/\m.save<=65535:=h.sv;obtain⟨r,t⟩:=s m 1;have j:=λb n=>(a {m with bG:=b} n c).2
 have o:=λb n=>(a {m with bG:=b} n c).1
 have q:=λn=>(a {m with halt:=1} n c).2
 have g:=λn=>(a {m with halt:=1} n c).1
 dsimp only at j o q g;have n9:¬((i.op=9\/i.op=10)/\64<=adr m i):=n9 ah;have d:=ef0 (m:=m) k;have f:i.k≠1->nxt m i=(m.pc+1)%65536:=λe=>nxp ⟨λ_=>e,ah⟩
 dsimp only [Td,gm];simp (disch:=omega) only [RR,t,r,j,o,q,g];refine⟨λe _ _=> ?_,λe=>⟨λp _ _=> ?_,λp=>⟨λl _ _=> ?_,λl w z=> ?_⟩⟩⟩
 .rw [show m.save%65536=m.save by omega];exact gF (u:={m with bG:=true}) n9 (by rw [d,if_neg ah,if_pos e]) (by unfold nxt;rw [if_pos ⟨k,e⟩])
 .exact gF (u:={m with bG:=true}) n9 (by rw [d,if_neg ah,if_neg ah,p];rfl) (f ah)
 .exact gF (u:={m with bG:=false}) n9 (by rw [d,if_neg ah,if_neg ah,l];rfl) (f ah)
 .exact gF (u:={m with halt:=1}) n9 (by rw [d,if_pos ah]) (f ah)
def aju{a b:Int}(c:Wo a)(d:Wo b):(M9 1 a b=true↔a=b)/\(M9 2 a b=true↔a<b):=by
 rw [afx,afy,xg,xg,aL (show 0<=a/\a<=65535 from c),aL (show 0<=b/\b<=65535 from d)];simp
def aoR{p1 f1 p2 f2 p5 f5}{D:l6->Bool}{G:l6->fA}{J:l6->Bool}{E:l6->fA}{s:ni->Bool}{L:ni->dY}{F:Xn->Bool}{C:Xn->fA}(P:Y24 p1 f1)(x:afG p2 f2)(R:∀(m:aG) (i:Ins),MOK m->bP i->(i.op=14\/i.op=15)->m.ins.length<1000000000->m.outs.length<900000000->D (m.pc,m.save,m.bG,m.waits,m.halt,m.ins,m.count,i,m.regs,m.mem,m.outs,())=true/\G (m.pc,m.save,m.bG,m.waits,m.halt,m.ins,m.count,i,m.regs,m.mem,m.outs,())=mB (exec m i))(Y:∀(m:aG) (i:Ins),MOK m->bP i->(i.op=9\/i.op=10)->J (m.pc,m.save,m.bG,m.waits,m.halt,m.ins,m.count,i,m.regs,m.mem,m.outs,())=true/\E (m.pc,m.save,m.bG,m.waits,m.halt,m.ins,m.count,i,m.regs,m.mem,m.outs,())=mB (exec m i))(H:aoN p5 f5)(S:∀(v k:Int),Wo v->0<=k->k<=15->s (v,k,())=true/\L (v,k,())=(v*2^k.toNat%65536,()))(A:∀(m:aG) (i:Ins),MOK m->i.op=0->F (m.pc,m.save,m.bG,m.waits,m.halt,m.ins,m.count,i.k,m.regs,m.mem,m.outs,())=true/\(i.k<=3->0<=i.k->C (m.pc,m.save,m.bG,m.waits,m.halt,m.ins,m.count,i.k,m.regs,m.mem,m.outs,())=mB (exec m i)))(m:aG)(i:Ins)(h:MOK m)(t:bP i)(hn:m.ins.length<1000000000)(O:m.outs.length<900000000):Tj.F (p1,f1,p2,f2,D,G,J,E,p5,f5,s,L,F,C,()) (m.pc,m.save,m.bG,m.waits,m.halt,m.ins,m.count,i,m.regs,m.mem,m.outs,()) (λy=>y=mB (exec m i)):=by
 have l:=t;obtain⟨⟨Z,o1⟩,⟨d,B⟩,⟨j,a1⟩,b,M,r1,r2,V,Q,K,_⟩:=t;have f:=h.r4;have c:=h.ct;have pw:0<=m.pc/\m.pc<=65535:=h.pc;have p:=h.rw.at i.a;have W:=h.rw.at i.d;obtain⟨I,w⟩:=aju W p;have U:0<=((m.regs).getD (i.a).toNat default)/\((m.regs).getD (i.a).toNat default)<=65535:=p;have o:=λv=>(H m i.d v h d B).2
 have r:=λv=>(H m i.d v h d B).1
 have N:=λn=>(x m n c).2
 have T:=λn=>(x m n c).1
 dsimp only [Tj,gm];rcases(by omega:i.op=0\/i.op=1\/i.op=2\/(3<=i.op/\i.op<=7)\/i.op=8\/(i.op=9\/i.op=10)\/i.op=11\/i.op=12\/i.op=13\/(i.op=14\/i.op=15))with e | e | e | e | e | e | e | e | e | e
 case inr.inr.inr.inl=>
  have a:∀z:Int,z<3\/7<z->¬i.op=z:=λz g q=>by omega
  have kk:=V e;simp (disch:=omega) only [RR,IR,a 0 ah,a 1 ah,a 2 ah,a 8 ah,a 9 ah,a 10 ah,a 11 ah,a 12 ah,a 13 ah,a 14 ah,a 15 ah,P,o,r,f,d,j,b];refine⟨ah,ah,ah,ah,?_⟩;rw [show i.op-3+1=i.op-2 by omega];exact gF (u:={m with regs:=m.regs.set i.d.toNat (wdo (i.op-2) ((m.regs).getD (i.a).toNat default) ((m.regs).getD (i.k).toNat default))}) (n9 ah) (efd e) (nxp ah)
 case inr.inr.inr.inr.inr.inl=>
  rcases e with e | e<;>simp (disch:=omega) only [RR,IR,e,Int.reduceEq,Y m i h l ah,f,d,j,b]
  all_goals exact⟨ah,ah⟩
 case inr.inr.inr.inr.inr.inr.inr.inr.inr=>
  rcases e with e | e<;>simp (disch:=omega) only [RR,IR,e,Int.reduceEq,R m i h l ah hn O,f,d,j,b]
  all_goals exact⟨ah,ah⟩
 case inl=>
  simp (disch:=omega) only [RR,IR,e,Int.reduceEq,(A m i h e).1,f,d,j,b];exact⟨ah,ah,(A m i h e).2 (M e).2.2 b⟩
 case inr.inr.inr.inr.inl=>
  simp (disch:=omega) only [RR,IR,e,Int.reduceEq,S _ _ p b (Q e),o,r,f,d,j,b];exact⟨ah,ah,gF (u:={m with regs:=m.regs.set i.d.toNat (((m.regs).getD (i.a).toNat default)*2^i.k.toNat%65536)}) (n9 ah) (ef8 e) (nxp ah)⟩
 all_goals simp (disch:=omega) only [RR,IR,e,Int.reduceEq,o,r,N,T,f,d,j,b]
 .exact⟨ah,ah,gF (u:={m with regs:=m.regs.set i.d.toNat i.k}) (n9 ah) (ef1 e) (nxp ah)⟩
 .exact⟨ah,ah,gF (u:={m with regs:=m.regs.set i.d.toNat ((m.regs).getD (i.a).toNat default)}) (n9 ah) (ef2 e) (nxp ah)⟩
 .have ef:eff m i=m:=efj ah;have X:=K ah;refine⟨ah,ah,ah,ah,λg=> ?_,λg=> ?_⟩
  .rw [show i.k%65536=i.k by omega];exact gF (u:=m) (n9 ah) ef (by unfold nxt;rw [if_neg ah,if_pos ⟨Or.inl e,by rw [e];exact I.2 g⟩])
  .exact gF (u:=m) (n9 ah) ef (by unfold nxt;rw [if_neg ah,if_neg (λq=>g (I.1 (by have:=q.2;rw [e]at this;exact this))),if_neg ah])
 .have ef:eff m i=m:=efj ah;have X:=K ah;refine⟨ah,ah,ah,ah,λg=> ?_,λg=> ?_⟩
  .rw [show i.k%65536=i.k by omega];exact gF (u:=m) (n9 ah) ef (by unfold nxt;rw [if_neg ah,if_pos ⟨Or.inr e,by rw [e];exact w.2 g⟩])
  .exact gF (u:=m) (n9 ah) ef (by unfold nxt;rw [if_neg ah,if_neg (λq=>g (w.1 (by have:=q.2;rw [e]at this;exact this))),if_neg ah])
 .have ef:eff m i=m:=efj ah;rw [show((m.regs).getD (i.a).toNat default)%65536=((m.regs).getD (i.a).toNat default) by omega];exact⟨ah,ah,gF (u:=m) (n9 ah) ef (by unfold nxt;rw [if_neg ah,if_neg ah,if_pos e];rfl)⟩
def smp(m:aG)(b:Bool):aG:=if(m.waits || b)=true/\m.bG=true then {m with waits:=false,bG:=false,save:=m.pc,pc:=48}else {m with waits:=m.waits || b}
def aoS(m:aG)(b:Bool):SX.F () (m.pc,m.save,m.bG,m.waits,m.halt,m.ins,m.count,b,m.regs,m.mem,m.outs,()) (λy=>y=mB (smp m b)):=by
 dsimp only [SX,gm];unfold smp;cases hw:m.waits<;>cases hb:b<;>cases hl:m.bG<;>simp
def aoT(l:List Int)(n:Int)(h:l.length<1000000000):SN.F () (l,n,()) (λy=>y=(bp (n∈l),())):=by
 dsimp only [SN,gm];simp (disch:=omega) only [RR];refine au (λ(y:Eo)=>y.1=l/\y.2.1=n/\0<=y.2.2.1/\y.2.2.1<=l.length/\n∉l.take y.2.2.1.toNat) (λy=>(l.length-y.2.2.1).toNat) ⟨rfl,rfl,by simp,by simp,by simp⟩ ?_;rintro⟨(l:List Int),(n:Int),(i:Int),⟨⟩⟩ hI;dsimp only at hI ⊢;obtain⟨rfl,rfl,b,c,a⟩:=hI;simp (disch:=omega) only [RR];refine⟨λg=>⟨b,g,λe=> ?_,λe=>⟨⟨ah,ah,λq=> ?_⟩,ah⟩⟩,λg=> ?_⟩
 .rw [aL (by rw [<-e];exact dh b g)]
 .rw [show(i+1).toNat=i.toNat+1 by omega,take_succ_eq_append_getElem ah,mem_append,mem_singleton,<-getD_lt (d:=default) (show i.toNat<l.length by omega)]at q;exact q.elim a (λz=>e z.symm)
 .rw [take_of_length_le ah]at a;rw [aV a]
end Go.TX.F
namespace Go.TX.F
open Go Go.AE Go.TX List
def fm(i:Ins):Bool:=if i.op=0 then decide (i.d=0)&&decide (i.a=0)&&decide (i.k<=3)else if i.op=1 then decide (i.a=0)else if i.op=2 then decide (i.k=0)else if 3<=i.op/\i.op<=7 then decide (i.k<4)else if i.op=8 then decide (i.k<16)else if i.op=13 then decide (i.d=0)&&decide (i.k=0)else if i.op=14\/i.op=15 then decide (i.a=0)&&decide (i.k=0)else true
def au7(b:Bool):bp (b=true)=b:=by
 cases b with
 | true=>exact aL rfl
 | false=>exact aV (by decide)
def aoU(i:Ins):(inB i.op 0 15&&inB i.d 0 3&&inB i.a 0 3&&inB i.k 0 255&&fm i)=bp (bP i):=by
 have h:((0<=i.op/\i.op<=15)/\(0<=i.d/\i.d<=3)/\(0<=i.a/\i.a<=3)/\(0<=i.k/\i.k<=255)/\fm i=true)↔bP i:=by
  unfold bP fm;split
  .simp only [Bool.and_eq_true,decide_eq_true_eq];omega
  split
  .simp only [decide_eq_true_eq];omega
  split
  .simp only [decide_eq_true_eq];omega
  split
  .simp only [decide_eq_true_eq];omega
  split
  .simp only [decide_eq_true_eq];omega
  split
  .simp only [Bool.and_eq_true,decide_eq_true_eq];omega
  split
  .simp only [Bool.and_eq_true,decide_eq_true_eq];omega
  .simp only [eq_self,and_true];omega
 rw [<-kQ h];simp only [xg,iU,Bool.and_assoc,au7]
def Hy(i:Ins):Sn.F () (i,()) (λy=>y=(fm i,())):=by
 dsimp only [Sn,gm];rcases(by omega:(i.op=0\/i.op=1\/i.op=2\/i.op=3\/i.op=4\/i.op=5\/i.op=6\/i.op=7\/i.op=8\/i.op=13\/i.op=14\/i.op=15)\/(¬(0<=i.op/\i.op<=8)/\¬(13<=i.op/\i.op<=15)))with(e | e | e | e | e | e | e | e | e | e | e | e) | ⟨n1,n2⟩
 case inr=>
  have n:∀z:Int,(0<=z/\z<=8)\/(13<=z/\z<=15)->¬i.op=z:=λz g q=>by omega
  have a:¬(3<=i.op/\i.op<=7):=λq=>by omega
  simp (disch:=omega) only [RR,IR,n];unfold fm;simp (disch:=omega) only [n,a,if_false,or_self]
 all_goals simp (disch:=omega) only [RR,IR,e,Int.reduceEq]
 all_goals unfold fm
 all_goals simp [e]
def Ju{p1 f1}{b:Ins×Unit->Bool}{a:Ins×Unit->mQ}(d:Y1 p1 f1)(c:∀i,b (i,())=true/\a (i,())=(fm i,()))(i:Ins):Sq.F (p1,f1,b,a,()) (i,()) (λy=>y=(bp (bP i),())):=by
 dsimp only [Sq,gm];simp (disch:=omega) only [RR,IR,d,c];rw [aoU]
noncomputable def tkI (w:Int):Int×Int×Int×Int×mQ:=if bp (Wo w/\bP (eH w))=true then((eH w).op,(eH w).d,(eH w).a,(eH w).k,true,())else(0,0,0,0,false,())
theorem aoV{p1 f1 p2 f2}(c:XL p1 f1)(b:Y9 p2 f2)(w:Int):SQ.F (p1,f1,p2,f2,()) (w,()) (λy=>y=tkI w):=by
 dsimp only [SQ,gm];simp (disch:=omega) only [RR,c,b,xg];by_cases h:Wo w
 .obtain⟨w0,w1⟩:=id h;have e:∀x y z u:Int,Co.mk .ins (x,y,z,u,())=⟨x,y,z,u⟩:=λ_ _ _ _=>rfl
  have q:∀n:Int,0<n->0<=w/n/\w/n<=65535:=λn hn=>⟨Int.ediv_nonneg w0 ah,Int.le_trans (Int.ediv_le_self _ w0) w1⟩
  have i:=q 4096 (by decide);have d:=q 1024 (by decide);have f:=q 256 (by decide);rw [aL (show 0<=w/\w<=65535 from h)];simp (disch:=omega) only [RR,e,Int.tdiv_eq_ediv_of_nonneg,Int.tmod_eq_emod_of_nonneg];have a:(⟨w/4096,w/1024%4,w/256%4,w%256⟩:Ins)=eH w:=rfl;unfold tkI;by_cases k:bP (eH w)
  .rw [a,aL k,aL ⟨h,k⟩];simp;rfl
  .rw [a,aV k,aV (λg=>k g.2)];simp
 .rw [aV (show¬(0<=w/\w<=65535)from h)];unfold tkI;rw [aV (λg=>h g.1)];simp
noncomputable def gH (i:Ins):Int:=if bp (bP i)=true then Df i else 0
def yR(i:Ins):Wo (gH i):=by
 unfold gH;split
 .rename_i h;obtain⟨⟨d,b⟩,⟨a,g⟩,⟨f,e⟩,c,h⟩:=aH.1 h;unfold Df Wo;omega
 .exact wo0
def aoW{p1 f1}(a:XL p1 f1)(i:Ins):Sv.F (p1,f1,()) (i,()) (λy=>y=(gH i,())):=by
 dsimp only [Sv,gm];simp (disch:=omega) only [RR,IR,a];unfold gH Df;refine⟨λh=>by rw [h];rfl,λh=> ?_⟩;rw [if_pos h];obtain⟨⟨d,e⟩,⟨b,k⟩,⟨j,f⟩,c,h⟩:=aH.1 h;have g:i.k<=255:=by omega
 simp (disch:=omega) only [w64]
abbrev aoX(b : Ins × Unit -> Bool)(a : Ins × Unit -> Int × Unit) : Prop := ∀ i, b (i, ()) = true /\ a (i, ()) = (gH i, ())
def aoY{p1 f1}(c:aoX p1 f1)(l:List Ins)(g:l.length<1000000):Sw.F (p1,f1,()) (l,()) (λy=>y=(l.map gH,())):=by
 dsimp only [Sw,gm];simp (disch:=omega) only [RR,length_nil];refine au (λ(y:List Ins×Int×bf)=>y.1=l/\0<=y.2.1/\y.2.1<=l.length/\y.2.2.1=(l.take y.2.1.toNat).map gH) (λy=>(l.length-y.2.1).toNat) ⟨rfl,by simp,by simp,by simp⟩ ?_;rintro⟨(l:List Ins),(i:Int),(o:List Int),⟨⟩⟩ hI;dsimp only at hI ⊢;obtain⟨rfl,b,e,rfl⟩:=hI;simp (disch:=omega) only [RR,c,length_map,length_cons,length_nil];have f:=length_take_le' i.toNat l;refine⟨λa=>⟨ah,ah,ah,⟨ah,ah,?_⟩,ah⟩,λa=>by rw [take_of_length_le ah]⟩;rw [<-bq (d:=default) b a rfl,map_append];rfl
def aoZ{l:List Int}(h:Wos l){n:Int}(w:Wo n):Wos (n::l):=λx a=>(mem_cons.1 a).elim (λe=>e▸w) (h x)
noncomputable def jS (w i:List Int):aG:=if bp (w.length<=64/\Wos w/\Wos i)=true then⟨[0,0,0,0],0,w++replicate (64-w.length) 0,0,false,false,0,i,[],0⟩else Qa
def Z9{w i:List Int}(h:w.length<=64)(c:Wos w)(b:Wos i):MOK (jS w i):=by
 unfold jS;rw [aL ⟨h,c,b⟩,if_pos rfl];have z:∀n:Nat,Wos (replicate n 0):=λn x a=>by rw [eq_of_mem_replicate a];exact wo0
 exact⟨rfl,z 4,by show(w++replicate (64-w.length) 0).length=64;rw [length_append,length_replicate];omega,λx a=>(mem_append.1 a).elim (c x) (z _ x),wo0,wo0,b,λx a=>(by cases a),⟨show(0:Int)<=0 by decide,show(0:Int)<=4 by decide⟩,⟨show(0:Int)<=0 by decide,show(0:Int)<=1000000 by decide⟩⟩
def ao0{p1 f1}(d:aow p1 f1)(w i:List Int)(v:w.length<1000000)(u:i.length<1000000):Sj.F (p1,f1,()) (w,i,()) (λy=>y=((jS w i).pc,(jS w i).save,(jS w i).bG,(jS w i).waits,(jS w i).halt,(jS w i).count,(jS w i).regs,(jS w i).mem,(jS w i).ins,())):=by
 obtain⟨P,Q⟩:=d w ah;obtain⟨s,p⟩:=d i ah;dsimp only [Sj,gm];simp (disch:=omega) only [RR,P,s,Q,p,nX,nil_append,length_nil];by_cases c:w.length<=64/\Wos w/\Wos i
 .have e:jS w i=⟨[0,0,0,0],0,w++replicate (64-w.length) 0,0,false,false,0,i,[],0⟩:=by unfold jS;rw [aL c,if_pos rfl]
  obtain⟨x,o,m⟩:=c;rw [e,aL o,aL m];refine⟨λq=>absurd q (by simp;omega),λ_=>⟨ah,?_⟩⟩;have n:(w++replicate (64-w.length) (0:Int)).length=64:=by rw [length_append,length_replicate];omega
  have b:∀k:Nat,k<64->(w++replicate (64-w.length) (0:Int))[k]? =some (if k<w.length then w.getD k default else 0):=λk hk=>by
   by_cases g:k<w.length
   .rw [if_pos g,getElem?_append_left g,getElem?_eq_getElem g,getD_lt g]
   .rw [if_neg g,getElem?_append_right ah,getElem?_replicate,if_pos ah]
  generalize w++replicate (64-w.length) (0:Int)=M at n b;refine au (λ(y:List Int×Int×Int×Int×Bool×Bool×Int×Int×Int×Int×Bool×Bool×Int×Int×eu)=>y.1=w/\0<=y.2.1/\y.2.1<=64/\y.2.2.2.2.2.2.2.2=(0,0,false,false,0,0,[0,0,0,0],M.take y.2.1.toNat,i,())) (λy=>(64-y.2.1).toNat) ⟨rfl,by simp,by simp,rfl⟩ ?_;rintro⟨(w:List Int),(k:Int),u1,u2,u3,u4,u5,u6,v1,v2,v3,v4,v5,v6,r,l,j,⟨⟩⟩ hI;dsimp only at hI ⊢;obtain⟨rfl,t,z,a⟩:=hI;simp only [Prod.mk.injEq,and_true]at a;obtain⟨rfl,rfl,rfl,rfl,rfl,rfl,rfl,rfl,rfl⟩:=a;have A:(M.take k.toNat).length<=64:=by rw [length_take];omega
  have h:k<64->M.take (k+1).toNat=M.take k.toNat++ [if k.toNat<w.length then w.getD k.toNat default else 0]:=λg=>by
   rw [show(k+1).toNat=k.toNat+1 by omega,take_add_one,b _ ah];rfl
  simp (disch:=omega) only [RR,length_cons,length_nil];refine⟨λg=>⟨λf=>⟨t,f,ah,⟨ah,ah,?_⟩,ah⟩,λf=>⟨ah,⟨ah,ah,?_⟩,ah⟩⟩,λg=> ?_⟩
  .rw [h g,if_pos ah]
  .rw [h g,if_neg ah]
  .rw [take_of_length_le ah]
 .have e:jS w i=Qa:=by unfold jS;rw [aV c,if_neg (by decide)]
  rw [e];refine⟨λ_=>rfl,λg=>absurd ⟨ah,aH.1 g.1.2,aH.1 g.2⟩ c⟩
variable{m:aG}
theorem Hz(m:aG)(b:Bool):stepM m b=(if 64<=(smp m b).pc then {smp m b with halt:=4}else if bp (bP (eH (((smp m b).mem).getD ((smp m b).pc).toNat default)))=false then {smp m b with halt:=2}else exec (smp m b) (eH (((smp m b).mem).getD ((smp m b).pc).toNat default))):=rfl
def afH(h:MOK m)(b:Bool):MOK (smp m b):=by
 unfold smp;split
 .exact {h with sv:=h.pc,pc:=⟨show(0:Int)<=48 by decide,show(48:Int)<=65535 by decide⟩}
 .exact {h with}
def XM(m:aG)(b:Bool):(smp m b).ins=m.ins/\(smp m b).outs=m.outs/\(smp m b).count=m.count:=by unfold smp;split<;>exact⟨rfl,rfl,rfl⟩
def ao1(h:MOK m){i:Ins}(a:bP i):Wo (nxt m i):=by
 obtain⟨_,_,_,b,_,_,_,_,_,d,_⟩:=a;unfold nxt;split
 .exact h.sv
 split
 .rename_i c;exact⟨b,by have:=d ah;omega⟩
 split
 .exact h.rw.at _
 .unfold Wo;omega
def ajv(m:aG)(i:Ins):(eff m i).count=m.count/\(eff m i).ins.length<=m.ins.length/\(eff m i).outs.length<=m.outs.length+1:=by
 unfold eff
 repeat' split
 all_goals refine⟨rfl,?_,?_⟩
 all_goals first | exact Nat.le_refl _ | exact Nat.le_succ _ | (simp only [length_append,length_cons,length_nil];omega) | (simp only [length_drop];omega)
def oK(h:MOK m){i:Ins}(a:bP i)(c:m.count<1000000):MOK (exec m i):=by
 unfold exec;split
 .exact {h with ha:=⟨show(0:Int)<=3 by decide,show(3:Int)<=4 by decide⟩}
 .have:=h.ct;exact {aoE h a with pc:=ao1 h a,ct:=⟨show 0<=m.count+1 by omega,show m.count+1<=1000000 by omega⟩}
def ajw(m:aG)(i:Ins):(exec m i).ins.length<=m.ins.length/\(exec m i).outs.length<=m.outs.length+1:=by
 unfold exec;split
 .exact⟨Nat.le_refl _,Nat.le_succ _⟩
 .exact(ajv m i).2
def HV(h:MOK m)(c:m.count<1000000)(b:Bool):MOK (stepM m b):=by
 have s:=afH h b;rw [Hz];split
 .exact {s with ha:=⟨show(0:Int)<=4 by decide,show(4:Int)<=4 by decide⟩}
 split
 .exact {s with ha:=⟨show(0:Int)<=2 by decide,show(2:Int)<=4 by decide⟩}
 .rename_i g;exact oK s (aH.1 (by simpa using g)) (by rw [(XM m b).2.2];exact c)
def HZ(m:aG)(b:Bool):(stepM m b).ins.length<=m.ins.length/\(stepM m b).outs.length<=m.outs.length+1:=by
 obtain⟨a,c,_⟩:=XM m b;rw [Hz];split
 .exact⟨by rw [<-a];exact Nat.le_refl _,by rw [<-c];exact Nat.le_succ _⟩
 split
 .exact⟨by rw [<-a];exact Nat.le_refl _,by rw [<-c];exact Nat.le_succ _⟩
 .rw [<-a,<-c];exact ajw _ _
noncomputable def stS (m:aG) (b:Bool):aG:=if bp (MOK m)=true then(if m.halt≠0\/m.count=1000000 then m else stepM m b)else Qa
abbrev afI(b : Int × Unit -> Bool)(a : Int × Unit -> Int × Int × Int × Int × Bool × Unit) : Prop := ∀ w, b (w, ()) = true /\ a (w, ()) = tkI w
def ao2{p1 f1 p2 f2 p3 f3 p5 f5}{j:l6->Bool}{e:l6->fA}{d:wm->Bool}{l:wm->fA}(x:afI p1 f1)(n:XK p2 f2)(z:afz p3 f3)(G:∀(m:aG) (i:Ins),MOK m->bP i->m.ins.length<1000000000->m.outs.length<900000000->j (m.pc,m.save,m.bG,m.waits,m.halt,m.ins,m.count,i,m.regs,m.mem,m.outs,())=true/\e (m.pc,m.save,m.bG,m.waits,m.halt,m.ins,m.count,i,m.regs,m.mem,m.outs,())=mB (exec m i))(f:aoM p5 f5)(C:∀(m:aG) (b:Bool),d (m.pc,m.save,m.bG,m.waits,m.halt,m.ins,m.count,b,m.regs,m.mem,m.outs,())=true/\l (m.pc,m.save,m.bG,m.waits,m.halt,m.ins,m.count,b,m.regs,m.mem,m.outs,())=mB (smp m b))(m:aG)(b:Bool)(h:MSh m)(v:m.outs.length<900000000):Tk.F (p1,f1,p2,f2,p3,f3,j,e,p5,f5,d,l,()) (m,b,()) (λy=>y=mB (stS m b)):=by
 obtain⟨r,o⟩:=C m b;dsimp only [Tk,gm];simp (disch:=omega) only [RR,MRB,x,n m h,z m h,r,o];unfold stS;refine⟨λg=>by rw [if_neg (by rw [g];decide)];rfl,λg=> ?_⟩;have ok:=aH.1 g;have s:=afH ok b;obtain⟨u,p,_⟩:=XM m b;have D:=s.m64;have H:0<=(smp m b).pc/\(smp m b).pc<=65535:=s.pc;have E:=(λa=>(f (smp m b) a).1);have B:=(λa=>(f (smp m b) a).2);rw [if_pos g];refine⟨λq=>by rw [if_pos q],λq=> ?_⟩;rw [if_neg ah,Hz];have A:=s.mw.at (smp m b).pc;simp only [E,B];refine⟨λq=>⟨trivial,by rw [if_pos q]⟩,λq=>⟨ah,ah,ah,ah,?_⟩⟩;rw [if_neg ah];by_cases k:bP (eH (((smp m b).mem).getD ((smp m b).pc).toNat default))
 .have t:tkI (((smp m b).mem).getD ((smp m b).pc).toNat default)=((eH (((smp m b).mem).getD ((smp m b).pc).toNat default)).op,(eH (((smp m b).mem).getD ((smp m b).pc).toNat default)).d,(eH (((smp m b).mem).getD ((smp m b).pc).toNat default)).a,(eH (((smp m b).mem).getD ((smp m b).pc).toNat default)).k,true,()):=by unfold tkI;rw [aL ⟨A,k⟩,if_pos rfl]
  rw [t,aL k,if_neg (by decide)];obtain⟨w,F⟩:=G (smp m b) _ s k (by rw [u];exact h.2.2.1) (by rw [p];exact v);exact⟨λc=>(by cases c),λ_=>⟨w,F⟩⟩
 .have t:tkI (((smp m b).mem).getD ((smp m b).pc).toNat default)=(0,0,0,0,false,()):=by unfold tkI;rw [aV (λq=>k q.2),if_neg (by decide)]
  rw [t,aV k,if_pos rfl];exact⟨λ_=>⟨trivial,rfl⟩,λc=>(by cases c)⟩
noncomputable def Dh (q:List Int):Nat->aG->aG
 | 0,m=>m
 | k+1,m=>if m.halt=0/\m.count<1000000 then Dh q k (stepM m (bp (m.count∈q)))else m
def aac(q:List Int):∀(k:Nat) {m:aG},MOK m->MOK (Dh q k m)
 | 0,m,h=>h
 | k+1,m,h=>by
  unfold Dh;split
  .rename_i c;exact aac q k (HV h c.2 _)
  .exact h
def aad(q:List Int):∀(k:Nat) (m:aG),(Dh q k m).ins.length<=m.ins.length/\(Dh q k m).outs.length<=m.outs.length+k
 | 0,m=>⟨Nat.le_refl _,Nat.le_refl _⟩
 | k+1,m=>by
  unfold Dh;split
  .have a:=aad q k (stepM m (bp (m.count∈q)));have b:=HZ m (bp (m.count∈q));omega
  .omega
noncomputable def rZ (q:List Int) (n:Int) (m:aG):aG:=if bp (MOK m/\n<=400)=true then Dh q n.toNat m else Qa
abbrev ath(c : aG × Bool × Unit -> Bool)(a : aG × Bool × Unit -> Int × Int × Bool × Bool × Int × List Int × Int × List Int × List Int × List Int × Unit) : Prop := ∀ m b, MSh m -> m.outs.length < 900000000 -> c (m, b, ()) = true /\ a (m, b, ()) = mB (stS m b)
abbrev ajx(b : List Int × Int × Unit -> Bool)(a : List Int × Int × Unit -> Bool × Unit) : Prop := ∀ l n, l.length < 1000000000 -> b (l, n, ()) = true /\ a (l, n, ()) = (bp (n ∈ l), ())
theorem ao3{p1 f1 p2 f2 p3 f3 p4 f4}(p:XK p1 f1)(f:ath p2 f2)(r:afz p3 f3)(s:ajx p4 f4)(m:aG)(q:List Int)(n:Int)(h:MSh m)(j:q.length<1000000000)(u:m.outs.length<800000000):Tm.F (p1,f1,p2,f2,p3,f3,p4,f4,()) (m,q,n,()) (λy=>y=mB (rZ q n m)):=by
 dsimp only [Tm,gm];simp (disch:=omega) only [RR,MRB,p m h,r m h];refine⟨λg=> ?_,λg=> ?_⟩
 .unfold rZ;rw [iU,if_neg]
  .rfl
  .rcases g with g | g
   .rw [g];simp
   .rw [aV (show¬n<=400 by omega)];simp
 have ok:=aH.1 g.1;have e:rZ q n m=Dh q n.toNat m:=by unfold rZ;rw [aL ⟨ok,ah⟩,if_pos rfl]
 rw [e];have v:n<=400:=by omega
 refine au (λ(y:List Int×Int×Int×Int×Int×Bool×Bool×Int×Int×fA)=>∃(x:aG) (k:Nat),y.1=q/\y.2.1=n/\y.2.2.1=k/\k<=n.toNat/\y.2.2.2.2.2.2.2.2.2=mB x/\MOK x/\x.ins.length<=m.ins.length/\x.outs.length<=m.outs.length+k/\Dh q (n.toNat-k) x=Dh q n.toNat m) (λy=>(n-y.2.2.1).toNat)
  ⟨m,0,rfl,rfl,rfl,ah,rfl,ok,Nat.le_refl _,Nat.le_refl _,rfl⟩ ?_
 rintro⟨(q:List Int),(n:Int),(i:Int),u1,u2,u3,u4,u5,u6,v1,v2,v3,v4,v5,v6,v7,v8,v9,v10,⟨⟩⟩ ⟨x,k,hI⟩;dsimp only at hI ⊢;obtain⟨rfl,rfl,rfl,A,d,a,w,t,b⟩:=hI;simp only [Prod.mk.injEq,and_true]at d;obtain⟨rfl,rfl,rfl,rfl,rfl,rfl,rfl,rfl,rfl,rfl⟩:=d;have o:MSh x:=⟨by rw [a.r4];decide,by rw [a.m64];decide,by have:=h.2.2.1;omega,ah⟩;have mK:Co.mk .ay (x.regs,x.pc,x.mem,x.save,x.bG,x.waits,x.halt,x.ins,x.outs,x.count,())=x:=rfl;simp (disch:=omega) only [RR,mK,s _ _ j,f x _ o ah];refine⟨λg=> ?_,λg=> ?_⟩
 .have e:stS x (bp (x.count∈q))=stepM x (bp (x.count∈q)):=by unfold stS;rw [aL a,if_pos rfl,if_neg ah]
  rw [e];have l:=HZ x (bp (x.count∈q));refine⟨⟨stepM x (bp (x.count∈q)),k+1,rfl,ah,rfl,HV a ah _,ah,ah,?_⟩,ah⟩;rw [<-b,show n.toNat-k=(n.toNat- (k+1))+1 by omega]
  conv=>rhs;unfold Dh
  rw [if_pos ah]
 .rw [<-b];by_cases c:(k:Int)<n
  .rw [show n.toNat-k=(n.toNat- (k+1))+1 by omega];unfold Dh;rw [if_neg (λz=>by rw [decide_eq_true c,decide_eq_true z.1,decide_eq_true z.2]at g;cases g)]
  .rw [show n.toNat-k=0 by omega];rfl
end Go.TX.F
namespace Go.TX.F
open Go Go.AE Go.TX List
def ao4{p1 f1}(c:Y38 p1 f1)(b:List Int)(p:Int)(a:Bt b)(d:0<=p)(o:p<900000000):Sd.F (p1,f1,()) (b,p,()) (λ(y:qj)=>y.1=b/\p<=y.2.1/\y.2.1<=p+10/\y.2.2.1.length<=5):=by
 obtain⟨j,m,i,n⟩:=(c 5 b p a d ah).2;dsimp only [Sd,gm];simp (disch:=omega) only [RR,(c 5 b p a d ah).1,j,m,length_nil];refine au (λ(y:Int×qj)=>0<=y.1/\y.1<=5/\y.2.1=b/\p<=y.2.2.1/\y.2.2.1+y.1<=p+6/\(y.2.2.2.1.length:Int)+y.1<=5) (λy=>y.1.toNat) ⟨i,by dsimp only;omega,rfl,by dsimp only;omega,by dsimp only;omega,by dsimp only [length_nil];omega⟩ ?_;rintro⟨(k:Int),(e:List Int),(q:Int),(l:List Int),⟨⟩⟩ hI;dsimp only at hI ⊢;obtain⟨u,t,rfl,k3,r,s⟩:=hI;obtain⟨f,h,_,_⟩:=(c 50 e q a ah ah).2;simp (disch:=omega) only [RR,(c 50 e q a ah ah).1,f,h,length_cons,length_nil,length_append];exact⟨λg=>⟨ah,⟨ah,ah,ah,ah,ah⟩,ah⟩,λg=>⟨ah,ah,ah⟩⟩
def ao5{p1 f1}(e:Y38 p1 f1)(t:Int)(b:List Int)(p:Int)(a:Bt b)(f:0<=t/\t<=1000)(d:0<=p)(c:p<900000000):SF.F (p1,f1,()) (t,b,p,()) (λ(y:lX)=>y.1=b/\p<=y.2.1/\y.2.1<=p+500/\y.2.2.1.length<=10):=by
 have R:=pkS a e;have P:=λn p d c=>(e n b p a d c).1
 dsimp only [SF,gm];simp (disch:=omega) only [RR,R,P,length_cons,length_nil];exact⟨ah,ah,ah⟩
def ao6{p1 f1 p2 f2}(e:Y71 p1 f1)(c:Y38 p2 f2)(t:Int)(b:List Int)(p:Int)(a:Bt b)(o:0<=t/\t<=1000)(f:0<=p)(d:p<700000000):SE.F (p1,f1,p2,f2,()) (t,b,p,()) (λ(y:lX)=>y.1=b/\p<=y.2.1/\y.2.1<=p+500/\y.2.2.1.length<=10):=by
 have R:=pkS a c;have P:=λn p f d=>(c n b p a f d).1
 obtain⟨_,_,j,u⟩:=(c 4 b (p+1+1) a ah ah).2;dsimp only [SE,gm];simp (disch:=omega) only [RR,R,P,length_cons,length_nil,length_append];refine au (λ(y:Int×Int×lX)=>0<=y.2.1/\y.2.1<=4/\y.2.2.1=b/\p<=y.2.2.2.1/\y.2.2.2.1+50*y.2.1<=p+300/\(y.2.2.2.2.1.length:Int)+y.2.1<=7) (λy=>y.2.1.toNat) ⟨j,by dsimp only;omega,rfl,by dsimp only;omega,by dsimp only;omega,by dsimp only [length_cons,length_nil];omega⟩ ?_;rintro⟨(t:Int),(k:Int),(h:List Int),(q:Int),(l:List Ins),⟨⟩⟩ hI;dsimp only at hI ⊢;obtain⟨z,x,rfl,k3,v,w⟩:=hI;obtain⟨i,r,m,s⟩:=(e h q a ah ah).2;simp (disch:=omega) only [RR,(e h q a ah ah).1,i,length_cons,length_nil,length_append];refine⟨λg=>⟨λ_=>⟨ah,⟨ah,ah,ah,ah,ah⟩,ah⟩,λ_=>⟨ah,⟨ah,ah,ah,ah,ah⟩,ah⟩⟩,λg=>⟨ah,ah,ah,ah⟩⟩
structure ImD(b:List Int)(p:Int)(y:qj):Prop where
 b:y.1=b
 lo:p<=y.2.1
 hi:y.2.1<=p+8000
 len:y.2.2.1.length<=64
 w:Wos y.2.2.1
abbrev ao7(b : List Ins × Unit -> Bool)(a : List Ins × Unit -> List Int × Unit) : Prop := ∀ l, l.length < 1000000 -> b (l, ()) = true /\ a (l, ()) = (l.map gH, ())
def ao8{p1 f1 p2 f2 p4 f4 p5 f5 p7 f7 p8 f8 p9 f9}{I:Int×l7->Bool}{f:Int×l7->lX}{S:Int×l7->Bool}{w:Int×l7->lX}(T:ao7 p1 f1)(G:aoX p2 f2)(V:∀t b p,Bt b->(0<=t/\t<=1000)->0<=p->p<700000000->I (t,b,p,())=true/\(f (t,b,p,())).1=b/\p<=(f (t,b,p,())).2.1/\(f (t,b,p,())).2.1<=p+500/\(f (t,b,p,())).2.2.1.length<=10)(N:Y71 p4 f4)(A:Y70 p5 f5)(J:∀t b p,Bt b->(0<=t/\t<=1000)->0<=p->p<900000000->S (t,b,p,())=true/\(w (t,b,p,())).1=b/\p<=(w (t,b,p,())).2.1/\(w (t,b,p,())).2.1<=p+500/\(w (t,b,p,())).2.2.1.length<=10)(U7:Y39 p7 f7)(e:Y38 p8 f8)(E:Y40 p9 f9)(b:List Int)(p:Int)(a:Bt b)(L:0<=p)(O:p<600000000):SG.F (p1,f1,p2,f2,I,f,p4,f4,p5,f5,S,w,p7,f7,p8,f8,p9,f9,()) (b,p,()) (λy=>ImD b p y):=by
 have R:=pkS a e;have P:=λn p L O=>(e n b p a L O).1
 obtain⟨_,_,a3,a4⟩:=(e 5 b (p+1) a ah ah).2;dsimp only [SG,gm];simp (disch:=omega) only [RR,R,P,length_cons,length_nil,length_append];refine⟨λ_=>⟨ah,?_⟩,λ_=> ?_⟩
 all_goals refine au (λ(y:Int×lX)=>0<=y.1/\y.1<=5/\y.2.1=b/\p<=y.2.2.1/\y.2.2.1+550*y.1<=p+2800/\(y.2.2.2.1.length:Int)<=44) (λy=>y.1.toNat) ⟨by dsimp only;omega,by dsimp only;omega,rfl,by dsimp only;omega,by dsimp only;omega,by simp⟩ ?_
 all_goals
  rintro⟨(k:Int),(d:List Int),(q:Int),(l:List Ins),⟨⟩⟩ hI;dsimp only at hI ⊢;obtain⟨k1,k2,rfl,k3,k4,k5⟩:=hI;obtain⟨_,_,d3,d4⟩:=(e 8 d (q+1) a ah ah).2;simp (disch:=omega) only [RR,R,P,length_cons,length_nil,length_append];refine⟨λg=>⟨λ_=> ?_,λ_=>⟨λ_=> ?_,λ_=> ?_⟩⟩,λg=>⟨ah,(T _ (by simp;omega)).1,?_⟩⟩
  .obtain⟨z1,z2,z3,z4⟩:=(V l.length d (q+1) a ah ah ah).2;exact⟨(V l.length d (q+1) a ah ah ah).1,ah,⟨ah,ah,z1,ah,ah,ah⟩,ah⟩
  .obtain⟨z1,z2,z3,z4⟩:=(J l.length d (q+1) a ah ah ah).2;exact⟨(J l.length d (q+1) a ah ah ah).1,ah,⟨ah,ah,z1,ah,ah,ah⟩,ah⟩
  .refine au (λ(y:Int×Int×lX)=>y.1=k/\0<=y.2.1/\y.2.1<=8/\y.2.2.1=d/\q<=y.2.2.2.1/\y.2.2.2.1+30*y.2.1<=q+300/\(y.2.2.2.2.1.length:Int)+y.2.1<=42) (λy=>y.2.1.toNat) ⟨rfl,by dsimp only;omega,by dsimp only;omega,rfl,by dsimp only;omega,by dsimp only;omega,by dsimp only;omega⟩ ?_;rintro⟨(k:Int),(j:Int),(c:List Int),(M:Int),(l':List Ins),⟨⟩⟩ hI;dsimp only at hI ⊢;obtain⟨rfl,X,Y,rfl,Z,F,j5⟩:=hI;obtain⟨s,H,U,_⟩:=(A c M a ah ah).2;simp (disch:=omega) only [RR,(A c M a ah ah).1,s,length_cons,length_nil,length_append];exact⟨λ_=>⟨ah,⟨ah,ah,ah,ah,ah⟩,ah⟩,λ_=>⟨⟨ah,ah,ah,ah,ah⟩,ah⟩⟩
  .rw [(T _ (by simp;omega)).2];have ww:∀l:List Ins,Wos (l.map gH):=λl x B=>by obtain⟨i,_,rfl⟩:=mem_map.1 B;exact yR i
   refine au (λ(y:qj)=>y.1=d/\q<=y.2.1/\y.2.1<=q+40*y.2.2.1.length/\y.2.2.1.length<=48/\Wos y.2.2.1) (λy=>48-y.2.2.1.length) ⟨rfl,by dsimp only;omega,by dsimp only;omega,by simp;omega,ww _⟩ ?_;rintro⟨(c:List Int),(r:Int),(o:List Int),⟨⟩⟩ hI;dsimp only at hI ⊢;obtain⟨rfl,X,Y,Z,F⟩:=hI;obtain⟨D,e2,e3,z⟩:=(E c r a ah ah).2;obtain⟨C,⟨s,H,U,_⟩⟩:=A c (f9 (c,r,())).2.2.1 a ah ah;obtain⟨_,_,g3,g4⟩:=(e 4 c r a ah ah).2;simp (disch:=omega) only [RR,R,P,(E c r a ah ah).1,D,C,s,G,length_cons,length_nil,length_append,nX];refine⟨λ_=>⟨ah,⟨ah,ah,ah,F.snoc (Wos.at (aoZ (aoZ (aoZ (λ_ h=>(by cases h)) (yR _)) z) wo0) _)⟩,ah⟩,λ_=>⟨ah,ah,ah,ah,ah,ah,?_⟩⟩;refine au (λ(y:Int×qj)=>0<=y.1/\y.1<=4/\y.2.1=c/\r<=y.2.2.1/\y.2.2.1+50*y.1<=r+300/\(y.2.2.2.1.length:Int)+y.1<=52/\Wos y.2.2.2.1) (λy=>y.1.toNat) ⟨g3,by dsimp only;omega,rfl,by dsimp only;omega,by dsimp only;omega,by simp only [length_drop,length_take];omega,λx B=>F x (mem_of_mem_take (mem_of_mem_drop B))⟩ ?_;rintro⟨(m:Int),(v:List Int),(t:Int),(u:List Int),⟨⟩⟩ hI;dsimp only at hI ⊢;obtain⟨m1,m2,rfl,m3,m4,m5,K⟩:=hI;obtain⟨s,H,U,_⟩:=(N v t a ah ah).2;obtain⟨OP,⟨o1,W⟩⟩:=U7 9 v t a ah ah;obtain⟨_,_,n3,n4⟩:=(e (u.length+2) v (t+1) a ah ah).2;obtain⟨W9,⟨D,e2,e3,z⟩⟩:=E v (t+1+1) a ah ah;simp (disch:=omega) only [RR,R,P,(N v t a ah ah).1,s,G,OP,o1,W,W9,D,length_cons,length_nil,length_append,nX];have Q:Wos (u++ [gH (Co.mk .ins (14,3,0,0,())),gH (Co.mk .ins (0,0,0,1,()))]):=by
    rw [show∀x y:Int,u++ [x,y]=(u++ [x])++ [y] by simp];exact(K.snoc (yR _)).snoc (yR _)
   refine⟨λ_=>⟨ah,⟨ah,ah,ah,ah,ah,K.snoc (yR _)⟩,ah⟩,λ_=>⟨ah,λ_=>⟨rfl,?_,?_,?_,Q.set z _⟩,λ_=>⟨rfl,?_,?_,?_,Q⟩⟩⟩
   .dsimp only;omega
   .dsimp only;omega
   .dsimp only;rw [length_set,length_append,length_cons,length_cons,length_nil];omega
   .dsimp only;omega
   .dsimp only;omega
   .dsimp only;rw [length_append,length_cons,length_cons,length_nil];omega
abbrev YMc:=Int×Int×Bool×Bool×Int×List Int×Int×List Int×Int×eu
abbrev mE(y : YMc) : aG := ⟨y.2.2.2.2.2.2.2.2.2.1, y.1, y.2.2.2.2.2.2.2.2.2.2.1, y.2.1, y.2.2.1, y.2.2.2.1, y.2.2.2.2.1, y.2.2.2.2.2.1, y.2.2.2.2.2.2.2.2.2.2.2.1, y.2.2.2.2.2.2.1⟩
structure McD(b:List Int)(p:Int)(y:YMc):Prop where
 b:y.2.2.2.2.2.2.2.1=b
 lo:p<=y.2.2.2.2.2.2.2.2.1
 hi:y.2.2.2.2.2.2.2.2.1<=p+9500
 ok:MOK (mE y)
 i:(mE y).ins.length<=10
 o:(mE y).outs.length<=100
def ati{X:aG}(h:MOK X){r:List Int}{pc ha:Int}{l w:Bool}(c:Wo pc)(a:0<=ha/\ha<=4)(d:r.length=4)(b:Wos r):MOK ⟨r,pc,X.mem,X.save,l,w,ha,X.ins,X.outs,X.count⟩:=
 {h with r4:=d,rw:=b,pc:=c,ha:=a}
abbrev atj(b : List Int × List Int × Unit -> Bool)(a : List Int × List Int × Unit -> Int × Int × Bool × Bool × Int × Int × List Int × List Int × List Int × Unit) : Prop := ∀ w i, w.length < 1000000 -> i.length < 1000000 -> b (w, i, ()) = true /\ a (w, i, ()) = ((jS w i).pc, (jS w i).save, (jS w i).bG, (jS w i).waits, (jS w i).halt, (jS w i).count, (jS w i).regs, (jS w i).mem, (jS w i).ins, ())
abbrev atl(c : List Int × Int × Unit -> Bool)(a : List Int × Int × Unit -> List Int × Int × List Int × Unit) : Prop := ∀ b p, Bt b -> 0 <= p -> p < 600000000 -> c (b, p, ()) = true /\ ImD b p (a (b, p, ()))
abbrev atm(c : List Int × Int × Unit -> Bool)(a : List Int × Int × Unit -> List Int × Int × List Int × Unit) : Prop := ∀ b p, Bt b -> 0 <= p -> p < 900000000 -> c (b, p, ()) = true /\ (a (b, p, ())).1 = b /\ p <= (a (b, p, ())).2.1 /\ (a (b, p, ())).2.1 <= p + 10 /\ (a (b, p, ())).2.2.1.length <= 5
abbrev atn(c : Int × List Int × Int × Unit -> Bool)(a : Int × List Int × Int × Unit -> List Int × Int × List Int × Unit) : Prop := ∀ n b p, Bt b -> (0 <= n /\ n <= 100) -> 0 <= p -> p < 800000000 -> c (n, b, p, ()) = true /\ (a (n, b, p, ())).1 = b /\ p <= (a (n, b, p, ())).2.1 /\ (a (n, b, p, ())).2.1 <= p + 300 /\ (a (n, b, p, ())).2.2.1.length = n /\ wOK (a (n, b, p, ())).2.2.1
def ao9{p1 f1 p3 f3 p4 f4 p5 f5 p6 f6 p7 f7}{W:aG×l7->Bool}{f2:aG×l7->fA}(U1:atj p1 f1)(U2:∀m q n,MSh m->q.length<1000000000->m.outs.length<800000000->W (m,q,n,())=true/\f2 (m,q,n,())=mB (rZ q n m))(U3:atl p3 f3)(U4:atm p4 f4)(D:Y39 p5 f5)(o:Y38 p6 f6)(U7:atn p7 f7)(b:List Int)(p:Int)(a:Bt b)(c:0<=p)(d:p<500000000):Tn.F (p1,f1,W,f2,p3,f3,p4,f4,p5,f5,p6,f6,p7,f7,()) (b,p,()) (λy=>McD b p y):=by
 obtain⟨P3,⟨E,S,i3,B,G⟩⟩:=U3 b p a c ah;generalize hy:f3 (b,p,())=y at E S i3 B G;obtain⟨i,k,w,⟨⟩⟩:=y;dsimp only at E S i3 B G;subst E;have R:=pkS a o;have P:=λn p c d=>(o n i p a c d).1
 obtain⟨_,_,a3,a4⟩:=(o 5 i k a ah ah).2;obtain⟨P7,⟨C,Z,w3,U,I⟩⟩:=U7 (f6 (5,i,k,())).1 i (k+1) a ah ah ah;generalize hz:f7 ((f6 (5,i,k,())).1,i,k+1,())=z at C Z w3 U I;obtain⟨Y,q1,A,⟨⟩⟩:=z;dsimp only at C Z w3 U I;subst C;obtain⟨Q,H1⟩:=U1 w A ah ah;have ok:=Z9 B G I;have h:(jS w A).outs=[]:=by unfold jS;split<;>rfl
 have ie:(jS w A).ins.length<=10:=by unfold jS;split;(dsimp only;omega);exact Nat.zero_le _
 generalize jS w A=M at Q H1 ok h ie;have mK:Co.mk .ay (M.regs,M.pc,M.mem,M.save,M.bG,M.waits,M.halt,M.ins,[],M.count,())=M:=by cases M;dsimp only at h;subst h;rfl
 obtain⟨P4,⟨g,u,s,l⟩⟩:=U4 Y q1 a ah ah;generalize hr:f4 (Y,q1,())=r at g u s l;obtain⟨f,e,j,⟨⟩⟩:=r;dsimp only at g u s l;subst g;have ms:MSh M:=⟨by rw [ok.r4];decide,by rw [ok.m64];decide,ah,by rw [h];decide⟩;obtain⟨_,_,n3,n4⟩:=(o 40 f e a ah ah).2;obtain⟨P2,T⟩:=U2 M j (f6 (40,f,e,())).1 ms ah (by rw [h];decide);have hX:MOK (rZ j (f6 (40,f,e,())).1 M):=by unfold rZ;rw [aL ⟨ok,ah⟩,if_pos rfl];exact aac _ _ ok
 have L:(rZ j (f6 (40,f,e,())).1 M).ins.length<=10/\(rZ j (f6 (40,f,e,())).1 M).outs.length<=100:=by
  unfold rZ;rw [aL ⟨ok,ah⟩,if_pos rfl];have:=aad j (f6 (40,f,e,())).1.toNat M;rw [h]at this;simp only [length_nil]at this;omega
 generalize rZ j (f6 (40,f,e,())).1 M=X at P2 T hX L;obtain⟨J,⟨K,N,V,v4,H⟩⟩:=U7 4 f (e+1+1) a ah ah ah;generalize hv:f7 (4,f,e+1+1,())=v at K N V v4 H;obtain⟨x,q3,vs,⟨⟩⟩:=v;dsimp only at K N V v4 H;subst K;have O:=λn p c d=>((D n x p a c d).2).1
 have O':=λn p c d=>((D n x p a c d).2).2
 have OP:=λn p c d=>(D n x p a c d).1
 dsimp only [Tn,gm];simp (disch:=omega) only [RR,P3,hy,R,P,P7,hz,Q,H1,mK,P4,hr,P2,T,J,hv,O,O',OP];have pk:∀t:Int,0<=t->t<1000000000->Wo (f6 (66,x,t,())).1:=λt c d=>by obtain⟨_,_,c3,c4⟩:=(o 66 x t a c d).2;unfold Wo;omega
 have F:vs.length=4:=by omega
 repeat' (first | (refine⟨?_,?_⟩) | intro _)
 all_goals first | omega | (refine⟨rfl,by dsimp only;omega,by dsimp only;omega,ati hX (by first | exact hX.pc | exact pk _ ah ah) (by first | exact hX.ha | exact⟨show(0:Int)<=0 by decide,show(0:Int)<=4 by decide⟩) (by first | exact hX.r4 | exact F) (by first | exact hX.rw | exact H),L.1,L.2⟩)
abbrev YMo:=Int×List Int×Int×Bool×Bool×Int×List Int×Int×List Int×Int×Ms
structure MoD(b:List Int)(p:Int)(y:YMo):Prop where
 b:y.2.2.2.2.2.2.2.2.1=b
 lo:p<=y.2.2.2.2.2.2.2.2.2.1
 hi:y.2.2.2.2.2.2.2.2.2.1<=p+9600
 r:y.2.2.2.2.2.2.2.2.2.2.1.length<=10
 m:y.2.1.length<=64
 i:y.2.2.2.2.2.2.1.length<=10
 o:y.2.2.2.2.2.2.2.2.2.2.2.1.length<=110
abbrev au8(c : List Int × Int × Unit -> Bool)(a : List Int × Int × Unit -> YMc) : Prop := ∀ b p, Bt b -> 0 <= p -> p < 500000000 -> c (b, p, ()) = true /\ McD b p (a (b, p, ()))
def apa{p1 f1 p2 f2 p3 f3}(v:au8 p1 f1)(t:Y39 p2 f2)(j:Y38 p3 f3)(n:Int)(b:List Int)(p:Int)(a:Bt b)(e:0<=p)(h:p<400000000):Tp.F (p1,f1,p2,f2,p3,f3,()) (n,b,p,()) (λy=>MoD b p y):=by
 obtain⟨o,⟨d,g,m,c,f,i⟩⟩:=v b p a e ah;generalize r:f1 (b,p,())=y at d g m c f i;obtain⟨B,E,lt,D,C,ins,A,k,q,regs,mem,l,⟨⟩⟩:=y;have w:=c.r4;have z:=c.m64;dsimp only at d g m f i w z;subst d;have R:=pkS a j;have P:=λn p e h=>(j n k p a e h).1
 obtain⟨u,⟨O,s⟩⟩:=t n k q a ah ah;dsimp only [Tp,gm];simp (disch:=omega) only [RR,o,r,R,P,O,s,u,length_cons,length_nil];have x:∀n:Nat,(drop (Int.toNat 1) (take n mem)).length<=64:=λn=>by rw [length_drop,length_take];omega
 repeat' (first | (refine⟨?_,?_⟩) | intro _)
 all_goals first | omega | (refine⟨rfl,by dsimp only;omega,by dsimp only;omega,?_,?_,by dsimp only;omega,?_⟩<;>first | (dsimp only;omega) | exact x _ | (dsimp only;simp only [length_append,length_set,length_cons,length_nil];omega))
structure MaD(b:List Int)(p:Int)(y:YMc):Prop where
 b:y.2.2.2.2.2.2.2.1=b
 lo:p<=y.2.2.2.2.2.2.2.2.1
 hi:y.2.2.2.2.2.2.2.2.1<=p+9700
 r:(mE y).regs.length=4
 m:(mE y).mem.length=64
 i:(mE y).ins.length<=10
 o:(mE y).outs.length<=100
def Jv(d e b c f g:Int)(o:IOp)(a:List IOp)(h:a.length<1000000):UM.F () (d,e,b,c,f,g,o,a,()) (λy=>y=(d,e,b,c,f,g,(a.length:Int),a++ [o],())):=by
 dsimp only [UM,gm];simp (disch:=omega) only [RR,length_append,length_cons,length_nil];rw [show((a.length+(0+1):Nat):Int)-1=a.length by omega];exact⟨ah,rfl⟩
abbrev afJ(h : Int × Int × Int × Int × Int × Int × IOp × List IOp × Unit -> Bool)(i : Int × Int × Int × Int × Int × Int × IOp × List IOp × Unit -> Int × Int × Int × Int × Int × Int × Int × List IOp × Unit) : Prop := ∀ (d e b c f g : Int) (o : IOp) (a : List IOp), a.length < 1000000 -> h (d, e, b, c, f, g, o, a, ()) = true /\ i (d, e, b, c, f, g, o, a, ()) = (d, e, b, c, f, g, (a.length : Int), a ++ [o], ())
def Jw{p1 f1}(i:afJ p1 f1)(d e b c f g k:Int)(a:List IOp)(h:a.length<1000000):UO.F (p1,f1,()) (d,e,b,c,f,g,k,a,()) (λy=>y=(d,e,b,c,f,g,(a.length:Int),a++ [⟨2,0,0,k,0⟩],())):=by
 dsimp only [UO,gm];simp (disch:=omega) only [RR,i,h];rfl
def Jy{p1 f1}(i:afJ p1 f1)(d e b c f g k x:Int)(a:List IOp)(h:a.length<1000000):UN.F (p1,f1,()) (d,e,b,c,f,g,k,x,a,()) (λy=>y=(d,e,b,c,f,g,a++ [⟨8,x,0,k,0⟩],())):=by
 dsimp only [UN,gm];simp (disch:=omega) only [RR,i,h];rfl
def n1a(l:List IOp)(o:IOp):((l++ [o]).length:Int)=l.length+1:=by rw [length_append];rfl
abbrev ajy(h : Int × Int × Int × Int × Int × Int × Int × List IOp × Unit -> Bool)(i : Int × Int × Int × Int × Int × Int × Int × List IOp × Unit -> Int × Int × Int × Int × Int × Int × Int × List IOp × Unit) : Prop := ∀ (d e b c f g k : Int) (a : List IOp), a.length < 1000000 -> h (d, e, b, c, f, g, k, a, ()) = true /\ i (d, e, b, c, f, g, k, a, ()) = (d, e, b, c, f, g, (a.length : Int), a ++ [⟨2, 0, 0, k, 0⟩], ())
def Di{p1 f1 p2 f2}(q:ajy p1 f1)(n:afJ p2 f2)(f i c e g j k a:Int)(o:IOp)(b:List IOp)(h:b.length<990000):UQ.F (p1,f1,p2,f2,()) (f,i,c,e,g,j,k,a,o,b,()) (λy=>y=(f,i,c,e,g,j,(b.length:Int)+2,b++ [⟨2,0,0,a,0⟩,o,⟨3,b.length,b.length+1,k,0⟩],())):=by
 have p:∀(l:List IOp) (o:IOp),l.length<990000->(l++ [o]).length<1000000:=λl o h=>by rw [length_append];simp only [length_cons,length_nil];omega
 have m:∀(l:List IOp) (o d:IOp),l.length<990000->((l++ [o])++ [d]).length<1000000:=λl o d h=>by simp only [length_append,length_cons,length_nil];omega
 dsimp only [UQ,gm];simp (disch:=first | omega | (apply p;omega) | (apply m;omega)) only [RR,q,n,n1a];simp;rfl
abbrev ato(i : Int × Int × Int × Int × Int × Int × Int × Int × IOp × List IOp × Unit -> Bool)(j : Int × Int × Int × Int × Int × Int × Int × Int × IOp × List IOp × Unit -> Int × Int × Int × Int × Int × Int × Int × List IOp × Unit) : Prop := ∀ (e f c d g h k a : Int) (o : IOp) (b : List IOp), b.length < 990000 -> i (e, f, c, d, g, h, k, a, o, b, ()) = true /\ j (e, f, c, d, g, h, k, a, o, b, ()) = (e, f, c, d, g, h, (b.length : Int) + 2, b ++ [⟨2, 0, 0, a, 0⟩, o, ⟨3, b.length, b.length + 1, k, 0⟩], ())
abbrev atp(h : Int × Int × Int × Int × Int × Int × Int × Int × List IOp × Unit -> Bool)(i : Int × Int × Int × Int × Int × Int × Int × Int × List IOp × Unit -> Int × Int × Int × Int × Int × Int × List IOp × Unit) : Prop := ∀ (d e b c f g k x : Int) (a : List IOp), a.length < 1000000 -> h (d, e, b, c, f, g, k, x, a, ()) = true /\ i (d, e, b, c, f, g, k, x, a, ()) = (d, e, b, c, f, g, a ++ [⟨8, x, 0, k, 0⟩], ())
def Ef{p1 f1 p2 f2 p3 f3 p4 f4}(u:ajy p1 f1)(q:afJ p2 f2)(v:ato p3 f3)(w:atp p4 f4)(o p g f k m:Int)(i:Ins)(n:Int)(a:List IOp)(x:i.op=9\/i.op=10)(h:a.length<950000):UU.F (p1,f1,p2,f2,p3,f3,p4,f4,()) (o,p,g,f,k,m,i,n,a,()) (λy=>y=(o,p,g,f,k,m,a++gu n a.length i,())):=by
 have t:∀(l:List IOp) (c b d:IOp),l.length<950000->(l++ [c,b,d]).length<1000000:=λl c b d h=>by simp only [length_append,length_cons,length_nil];omega
 have s:∀(l:List IOp) (c b d j:IOp),l.length<950000->((l++ [c,b,d])++ [j]).length<1000000:=λl c b d j h=>by simp only [length_append,length_cons,length_nil];omega
 have r:∀(l:List IOp) (c b d:IOp),((l++ [c,b,d]).length:Int)=l.length+3:=λl c b d=>by rw [length_append];rfl
 dsimp only [UU,gm];simp (disch:=first | omega | (apply t;omega) | (apply s;omega)) only [RR,IR,u,q,v,w,r];unfold gu;refine⟨λe=> ?_,λe=> ?_⟩
 .rw [if_neg ah,if_neg ah,if_neg ah,if_pos e];simp;rfl
 .rw [if_neg ah,if_neg ah,if_neg ah,if_neg ah,if_pos ah];simp;rfl
def Eh(k:Int)(b:0<=k)(f:k<=15):UR.F () (k,()) (λy=>y=(2^k.toNat,())):=by
 dsimp only [UR,gm];simp (disch:=omega) only [RR];refine au (λ(y:Int×ni)=>y.1=k/\0<=y.2.2.1/\y.2.2.1<=k/\y.2.1=2^y.2.2.1.toNat) (λy=>(k-y.2.2.1).toNat) ⟨rfl,by simp,b,rfl⟩ ?_;rintro⟨(z:Int),(a:Int),(i:Int),⟨⟩⟩ hI;dsimp only at hI ⊢;obtain⟨rfl,d,e,rfl⟩:=hI;have c:=XJ d ah;unfold Wo at c;simp (disch:=omega) only [RR];refine⟨λg=>⟨⟨ah,ah,?_⟩,ah⟩,λg=>by rw [show i=z by omega]⟩;rw [show(i+1).toNat=i.toNat+1 by omega,Int.pow_succ];omega
def H9{p1 f1}(b:ajy p1 f1)(B:Blk)(i:Ins)(c:11<=i.op/\i.op<=13)(h:B.ops.length<950000):UW.F (p1,f1,()) (B.pc,B.len,B.fin,B.x,B.y,B.k,i,B.ops,()) (λy=>y=bk7 (dW 0 B i)):=by
 have a:∀(l:List IOp) (o:IOp),l.length<950000->(l++ [o]).length<1000000:=λl o h=>by rw [length_append];simp only [length_cons,length_nil];omega
 dsimp only [UW,gm];unfold dW gu;rcases(by omega:i.op=11\/i.op=12\/i.op=13)with e | e | e
 all_goals
  simp (disch:=first | omega | (apply a;omega)) only [RR,IR,e,b,n1a,Int.reduceEq,or_self,true_or,or_true]
  try simp
def Jz{p1 f1 p3 f3 p5 f5 p6 f6}{C:Int×Int×Int×Int×Int×Int×Ins×F5->Bool}{J:Int×Int×Int×Int×Int×Int×Ins×F5->ak}{K:ny->Bool}{E:ny->ak}{G:dY->Bool}{A:dY->dY}(Q:ajy p1 f1)(w:∀(B:Blk) (i:Ins),(11<=i.op/\i.op<=13)->B.ops.length<950000->C (B.pc,B.len,B.fin,B.x,B.y,B.k,i,B.ops,())=true/\J (B.pc,B.len,B.fin,B.x,B.y,B.k,i,B.ops,())=bk7 (dW 0 B i))(S:afJ p3 f3)(U:∀(t u m j p s:Int) (i:Ins) (n:Int) (ops:List IOp),(i.op=9\/i.op=10)->ops.length<950000->K (t,u,m,j,p,s,i,n,ops,())=true/\E (t,u,m,j,p,s,i,n,ops,())=(t,u,m,j,p,s,ops++gu n ops.length i,()))(I:ato p5 f5)(H:atp p6 f6)(O:∀k,0<=k->k<=15->G (k,())=true/\A (k,())=(2^k.toNat,()))(B:Blk)(i:Ins)(n:Int)(M:bP i)(W:i.op≠0)(h:B.ops.length<900000):UY.F (p1,f1,C,J,p3,f3,K,E,p5,f5,p6,f6,G,A,()) (B.pc,B.len,B.fin,B.x,B.y,B.k,i,n,B.ops,()) (λy=>y=bk7 (dW n B i)):=by
 have N:∀(l:List IOp) (o:IOp),l.length<950000->(l++ [o]).length<1000000:=λl o h=>by rw [length_append];simp only [length_cons,length_nil];omega
 have D:∀(l:List IOp) (b v x:IOp),l.length<950000->(l++ [b,v,x]).length<1000000:=λl b v x h=>by simp only [length_append,length_cons,length_nil];omega
 obtain⟨⟨V,b⟩,_,_,L,_,_,_,X,R,_⟩:=M;have r:=(λd f=>(w B i d f).1);have c:=(λd f=>(w B i d f).2);dsimp only [UY,gm];rcases(by omega:i.op=1\/i.op=2\/i.op=8\/(i.op=9\/i.op=10)\/i.op=14\/i.op=15\/(i.op=11\/i.op=12\/i.op=13)\/(3<=i.op/\i.op<=7))with e | e | e | e | e | e | e | e
 case inr.inr.inr.inl=>
  have a:dW n B i={B with ops:=B.ops++gu n B.ops.length i}:=by unfold dW;rw [if_neg ah,if_neg ah]
  rw [a];obtain⟨P,T⟩:=U B.pc B.len B.fin B.x B.y B.k i n B.ops e ah;rcases e with e | e<;>simp (disch:=omega) only [RR,IR,e,Int.reduceEq,P,T,or_true,true_or]
 case inr.inr.inr.inr.inr.inr.inl=>
  have a:dW n B i=dW 0 B i:=by unfold dW gu;rcases e with e | e | e<;>simp [e]
  rw [a];have r:=r ah ah;have c:=c ah ah;rcases e with e | e | e<;>simp (disch:=omega) only [RR,IR,e,Int.reduceEq,r,c,or_true,true_or]
 case inr.inr.inr.inr.inr.inr.inr=>
  have F:∀z:Int,z<3\/7<z->¬i.op=z:=λz g q=>by omega
  have a:dW n B i={B with ops:=B.ops++ [⟨2,0,0,i.a,0⟩,⟨2,0,0,i.k,0⟩,⟨3,B.ops.length,B.ops.length+1,i.op-2,0⟩,⟨8,B.ops.length+2,0,i.d,0⟩]}:=by
   unfold dW gu;simp (disch:=omega) only [F,if_false,or_self]
  rw [a];simp (disch:=first | omega | (apply D;omega)) only [RR,IR,F,I,H,or_self];simp;rw [show i.op-3+1=i.op-2 by omega];rfl
 all_goals
  unfold dW gu;simp (disch:=first | omega | (apply N;omega) | (apply D;omega)) only [RR,IR,e,Int.reduceEq,Q,S,I,H,O i.k L,R,n1a,or_self,true_and,and_true]
  try simp
  try rfl
def Ei(a:Int):Sy.F () (a,()) (λy=>y=(inB a 11 13,())):=by
 dsimp only [Sy,gm];refine Prod.ext ?_ rfl;dsimp only;rw [Bool.eq_iff_iff,bD];simp [aeZ];omega
def Ej{p1 f1 p2 f2}(b:afA p1 f1)(a:XL p2 f2)(i:Ins):Sz.F (p1,f1,p2,f2,()) (i,()) (λy=>y=(bp (bP i)&& !decide (i.op=0)&& !inB i.op 11 13,())):=by
 dsimp only [Sz,gm];simp (disch:=omega) only [RR,IR,b,a]
def JA{p1 f1 p2 f2 p3 f3}{t:Ins×Unit->Bool}{r:Ins×Unit->mQ}(s:afA p1 f1)(o:XL p2 f2)(x:Y1 p3 f3)(u:∀i,t (i,())=true/\r (i,())=(bp (bP i)&& !decide (i.op=0)&& !inB i.op 11 13,()))(d:Int)(l:List Ins)(E:(l.length:Int)<1000000000):UL.F (p1,f1,p2,f2,p3,f3,t,r,()) (d,l,()) (λy=>y=(bp (oC d l),())):=by
 dsimp only [UL,gm];simp (disch:=omega) only [RR,IR,s,o,x,u,bD,jF];refine⟨λh=> ?_,λh=> ?_⟩
 .rw [aV];intro g;have a:=g.ln;have c:=g.pc;omega
 refine au (λ(y:List Ins×dY)=>y.1=l/\0<=y.2.1/\y.2.1<=l.length/\∀j:Nat,j<y.2.1->bP (l.getD j default)/\(l.getD j default).op≠0/\(11<=(l.getD j default).op/\(l.getD j default).op<=13->j+1=l.length)) (λy=>(l.length-y.2.1).toNat) ⟨rfl,by simp,by simp,λj b=>absurd b (by dsimp only;omega)⟩ ?_;rintro⟨(l:List Ins),(i:Int),⟨⟩⟩ hI;dsimp only at hI ⊢;obtain⟨rfl,f,C,m⟩:=hI;by_cases g:i<l.length
 .have nx:bP ((l).getD (i).toNat default)/\(((l).getD (i).toNat default)).op≠0/\(11<=(((l).getD (i).toNat default)).op/\(((l).getD (i).toNat default)).op<=13->i+1=l.length)->∀j:Nat,(j:Int)<i+1->bP (l.getD j default)/\(l.getD j default).op≠0/\(11<=(l.getD j default).op/\(l.getD j default).op<=13->j+1=l.length):=λq j b=>by
   by_cases c:(j:Int)<i
   .exact m j c
   .obtain rfl:j=i.toNat:=by omega
    exact⟨q.1,q.2.1,λz=>by have:=q.2.2 z;omega⟩
  have k:¬(bP ((l).getD (i).toNat default)/\(((l).getD (i).toNat default)).op≠0/\(11<=(((l).getD (i).toNat default)).op/\(((l).getD (i).toNat default)).op<=13->i+1=l.length))->bp (oC d l)=false:=λq=>aV λv=>q (by
   have:=v.ok i.toNat ah;exact⟨this.1,this.2.1,λz=>by have:=this.2.2 z;omega⟩)
  have D:(i< (l.length:Int)-1)↔¬(i+1=l.length):=by omega
  simp (disch:=omega) only [RR,IR,s,o,u,g];refine⟨f,Or.inr f,Or.inr f,λe=> ?_,λe=>⟨⟨ah,ah,nx ?_⟩,ah⟩⟩
  .rw [k];rintro⟨B,w,A⟩;rw [aL B,decide_eq_false w]at e;have p:=bD.1 (show inB (((l).getD (i).toNat default)).op 11 13=true by simpa using e.1);have:=A p;rcases e.2 with(z | z) | z
   .omega
   .cases z
   .exact z p
  .have a:bP ((l).getD (i).toNat default):=Classical.byContradiction λn=>by rw [aV n]at e;simp at e
   refine⟨a,λz=> ?_,λq=> ?_⟩
   .rw [z]at e;simp [inB]at e
   .rw [aL a,bD.2 q]at e;simp at e;omega
 .simp (disch:=omega) only [RR,g];rw [aL ⟨ah,ah,λj b=>m j ah⟩]
abbrev atq(c : Int × List Ins × Unit -> Bool)(b : Int × List Ins × Unit -> Bool × Unit) : Prop := ∀ (a : Int) (l : List Ins), (l.length : Int) < 1000000000 -> c (a, l, ()) = true /\ b (a, l, ()) = (bp (oC a l), ())
theorem Dj{p1 f1}{g:ny->Bool}{j:ny->ak}(o:atq p1 f1)(m:∀(B:Blk) (i:Ins) (n:Int),bP i->i.op≠0->B.ops.length<900000->g (B.pc,B.len,B.fin,B.x,B.y,B.k,i,n,B.ops,())=true/\j (B.pc,B.len,B.fin,B.x,B.y,B.k,i,n,B.ops,())=bk7 (dW n B i))(b:Int)(l:List Ins)(p:(l.length:Int)<1000000000):UZ.F (p1,f1,g,j,()) (b,l,()) (λy=>y=bk7 (lower b l)):=by
 dsimp only [UZ,gm];simp (disch:=omega) only [RR,o b l p,aH,iE];unfold lower;refine⟨λh=>by rw [aV h,if_neg (by decide)];rfl,λh=> ?_⟩;rw [aL h,if_pos rfl];have r:=h.ln;have u:=h.pc;refine au (λ(y:List Ins×Int×oz)=>y.1=l/\0<=y.2.1/\y.2.1<=l.length/\y.2.2.2.2.2.2.2.2=bk7 (oN 0 (vH b l) (l.take y.2.1.toNat))) (λy=>(l.length-y.2.1).toNat) ⟨rfl,by simp,by simp,by rw [w64 ah ah];rfl⟩ ?_;rintro⟨(a:List Ins),(i:Int),z1,z2,z3,z4,z5,z6,q1,q2,q3,q4,q5,q6,q7,⟨⟩⟩ hI;dsimp only at hI ⊢;obtain⟨rfl,k,s,f⟩:=hI;generalize e:oN 0 (vH b a) (a.take i.toNat)=B at f;simp only [bk7,Prod.mk.injEq,and_true]at f;obtain⟨rfl,rfl,rfl,rfl,rfl,rfl,rfl⟩:=f;have q:B.ops.length<=40:=by
  have:=BF (a.take i.toNat) 0 (vH b a);rw [e]at this;have t:=length_take_le i.toNat a;have:(vH b a).ops.length=0:=rfl;omega
 by_cases c:i<a.length
 .obtain⟨o1,o2,o3⟩:=h.ok i.toNat ah;simp (disch:=omega) only [RR,c,m B (((a).getD (i).toNat default)) i o1 o2 ah];refine⟨k,⟨ah,ah,?_⟩,ah⟩;rw [<-bq (d:=default) k c rfl,yQ,e,length_take,show(0:Int)+((min i.toNat a.length:Nat):Int)=i by omega]
 .rw [take_of_length_le ah]at e;simp (disch:=omega) only [RR,c,e]
def BG(a:Int)(l:List Ins):((lower a l).ops.length:Int)<=5000:=by
 by_cases h:oC a l
 .have:=(kW h).sz;omega
 .have e:lower a l=Xw:=by unfold lower;rw [aV h,if_neg (by decide)]
  rw [e];decide
def Nb{a:Int}{l:List Ins}{y:ak}(h:y=bk7 (lower a l)):(y.2.2.2.2.2.2.1.length:Int)<=5000:=by rw [h];exact BG a l
abbrev YOw:=Int×Int×Int×Int×Int×Int×Int×Int×Bool×Bool×Int×List Int×Int×List Int×Int×List IOp×eu
structure OwD(b:List Int)(p:Int)(y:YOw):Prop where
 b:y.2.2.2.2.2.2.2.2.2.2.2.2.2.1=b
 lo:p<=y.2.2.2.2.2.2.2.2.2.2.2.2.2.2.1
 hi:y.2.2.2.2.2.2.2.2.2.2.2.2.2.2.1<=p+12000
 r:y.2.2.2.2.2.2.2.2.2.2.2.2.2.2.2.2.1.length=4
 m:y.2.2.2.2.2.2.2.2.2.2.2.2.2.2.2.2.2.1.length=64
 i:y.2.2.2.2.2.2.2.2.2.2.2.1.length<=10
 o:y.2.2.2.2.2.2.2.2.2.2.2.2.2.2.2.2.2.2.1.length<=100
 k:y.2.2.2.2.2.2.2.2.2.2.2.2.2.2.2.1.length<1000000
abbrev ajz(c : Int × List Ins × Unit -> Bool)(b : Int × List Ins × Unit -> Int × Int × Int × Int × Int × Int × List IOp × Unit) : Prop := ∀ (a : Int) (l : List Ins), (l.length : Int) < 1000000000 -> c (a, l, ()) = true /\ b (a, l, ()) = bk7 (lower a l)
abbrev au9(a : Int × List Int × Int × Unit -> Bool)(c : Int × List Int × Int × Unit -> YMo) : Prop := ∀ n b p, Bt b -> 0 <= p -> p < 400000000 -> a (n, b, p, ()) = true /\ MoD b p (c (n, b, p, ()))
def akr(x:Int)(n:Nat)(hn:n<=16)(m:Int)(hm:m=2^n-1):ku .and .i64 x m=x%2^n:=by
 have a:((2^IntKind.i64.bits:Nat):Int)=18446744073709551616:=by decide
 have p:2^n<=2^16:=Nat.pow_le_pow_right (by decide) hn;have b:0<2^n:=Nat.pow_pos (by decide);have f:(2:Nat)^16=65536:=by decide
 have c:((2:Int)^n)=((2^n:Nat):Int):=by simp
 have d:18446744073709551616=2^n*2^ (64-n):=by rw [<-Nat.pow_add,show n+(64-n)=64 by omega]
 rw [c]at hm ⊢;unfold ku;dsimp only;rw [BitVec.toNat_and,BitVec.toNat_ofInt,BitVec.toNat_ofInt,a,show(m%18446744073709551616).toNat=2^n-1 by omega,Nat.and_two_pow_sub_one_eq_mod];have l:=Nat.mod_lt (x%18446744073709551616).toNat b;rw [w64 ah ah];have e:(((x%18446744073709551616).toNat%2^n:Nat):Int)=x%18446744073709551616% ((2^n:Nat):Int):=by
  rw [Int.natCast_emod];congr 1;omega
 rw [e,Int.emod_emod_of_dvd];exact⟨((2^ (64-n):Nat):Int),by rw [<-Int.natCast_mul,<-d];rfl⟩
def XO(x:Int)(n:Nat)(hn:n<=64)(h:0<=x):iD .shr .i64 x (n:Int)=x/2^n:=by
 show x.fdiv (2^ (min (n:Int).toNat 64))=_;rw [show(n:Int).toNat=n from rfl,Nat.min_eq_left hn,Int.fdiv_eq_ediv_of_nonneg];exact Int.le_of_lt (Int.pow_pos (by decide))
theorem atr{p1 f1 p2 f2}(l:XL p1 f1)(j:Y9 p2 f2)(w:Int):ad3.F (p1,f1,p2,f2,()) (w,()) (λy=>y=tkI w):=by
 dsimp only [ad3,gm];simp (disch:=omega) only [RR,l,j,xg];by_cases h:Wo w
 .obtain⟨w0,w1⟩:=id h;have e:∀x y z u:Int,Co.mk .ins (x,y,z,u,())=⟨x,y,z,u⟩:=λ_ _ _ _=>rfl
  have a:iD .shr .i64 w 12=w/4096:=XO w 12 (by decide) w0;have b:iD .shr .i64 w 10=w/1024:=XO w 10 (by decide) w0;have d:iD .shr .i64 w 8=w/256:=XO w 8 (by decide) w0;have i:∀x,ku .and .i64 x 3=x%4:=λx=>akr x 2 (by decide) 3 (by decide)
  have f:∀x,ku .and .i64 x 255=x%256:=λx=>akr x 8 (by decide) 255 (by decide)
  rw [aL (show 0<=w/\w<=65535 from h)];simp only [MH,a,b,d,i,f,e];have c:(⟨w/4096,w/1024%4,w/256%4,w%256⟩:Ins)=eH w:=rfl;unfold tkI;by_cases k:bP (eH w)
  .rw [c,aL k,aL ⟨h,k⟩];simp;rfl
  .rw [c,aV k,aV (λg=>k g.2)];simp
 .rw [aV (show¬(0<=w/\w<=65535)from h)];unfold tkI;rw [aV (λg=>h g.1)];simp
def att{p1 f1}(a:XL p1 f1)(i:Ins):aeP.F (p1,f1,()) (i,()) (λy=>y=(gH i,())):=by
 dsimp only [aeP,gm];simp (disch:=omega) only [RR,IR,a];unfold gH Df;refine⟨λh=>by rw [h];rfl,λh=> ?_⟩;rw [if_pos h];obtain⟨⟨d,e⟩,⟨b,k⟩,⟨j,f⟩,c,h⟩:=aH.1 h;have g:i.k<=255:=by omega
 simp (disch:=omega) only [w64]
def ava{p1 f1}(c:aoX p1 f1)(l:List Ins)(g:l.length<1000000):al3.F (p1,f1,()) (l,()) (λy=>y=(l.map gH,())):=by
 dsimp only [al3,gm];simp (disch:=omega) only [RR,length_nil];refine au (λ(y:List Ins×Bp)=>y.1=l/\y.2.1=l.length/\0<=y.2.2.1/\y.2.2.1<=l.length/\y.2.2.2.1=(l.take y.2.2.1.toNat).map gH) (λy=>(l.length-y.2.2.1).toNat) ⟨rfl,rfl,by simp,by simp,by simp⟩ ?_;rintro⟨(l:List Ins),(n:Int),(i:Int),(o:List Int),⟨⟩⟩ hI;dsimp only at hI ⊢;obtain⟨rfl,rfl,b,e,rfl⟩:=hI;have f:=length_take_le' i.toNat l;simp (disch:=omega) only [RR,c,length_map,length_cons,length_nil];refine⟨λa=>⟨ah,ah,ah,⟨ah,ah,?_⟩,ah⟩,λa=>by rw [take_of_length_le ah]⟩;rw [<-bq (d:=default) b a rfl,map_append];rfl
def afK{i:Ins}(h:bP i):eH (gH i)=i:=by
 unfold gH;rw [aL h,if_pos rfl];obtain⟨⟨f,c⟩,⟨b,l⟩,⟨j,g⟩,e,h⟩:=h;have m:i.k<=255:=by omega
 obtain⟨n,d,a,k⟩:=i;unfold eH Df;dsimp only at*
 congr 1<;>omega
structure PS where
 m:aG
 L:List Int
 I:List Int
 left:Bool
section
variable (T:List Atom) (r0:List Int) (pc len:Int)
def pv(s:PS):List Int:=tv r0 s.L s.I T
end
structure PJ(T:List Atom)(r0:List Int)(M:MS)(S:SS)(P:PS):Prop where
 lf:P.left=false
 m:P.m={M.m with regs:=r0}
 ld:(P.L.length:Int)=S.ld
 inn:(P.I.length:Int)=S.inn
 wl:wOK P.L
 wi:wOK P.I
 v:∀L I,P.L<+:L->P.I<+:I->wOK L->wOK I->S.vals.map (evF (tv r0 L I T))=M.vals
 r:∀L I,P.L<+:L->P.I<+:I->wOK L->wOK I->S.regs.map (evF (tv r0 L I T))=M.m.regs
structure MJ(b:Blk)(i:Nat)(M:MS):Prop where
 lf:M.left=false
 ln:M.vals.length=i
 wv:Wos M.vals
 ok:MOK M.m
 pc:M.m.pc=b.pc
 ha:M.m.halt=0
theorem ajA{s:MS}(o:IOp):(mM s o).pc=s.m.pc/\(mM s o).halt=s.m.halt/\(mM s o).count=s.m.count:=by
 unfold mM
 repeat' split
 all_goals exact⟨rfl,rfl,rfl⟩
end Go.TX.F
namespace Go.TX.F
open Go Go.AE Go.TX List
noncomputable def D5:List Int->List Ins
 | []=> []
 | w::r=>if bp (Wo w/\bP (eH w))=true then eH w::D5 r else []
def afL{w:Int}(h:Wo w)(k:bP (eH w)):gH (eH w)=w:=by
 unfold gH;rw [aL k,if_pos rfl];obtain⟨a,b⟩:=h;unfold Df eH;dsimp only;omega
def K8:∀ {l:List Ins},(∀i∈l,bP i)->D5 (l.map gH)=l
 | [],_=>rfl
 | i::l,h=>by
  have a:=h i (mem_cons_self ..);rw [map_cons];unfold D5;rw [afK a,aL ⟨yR i,a⟩,if_pos rfl,K8 λj b=>h j (mem_cons_of_mem _ b)]
def avb(e:Cac)(mem:List Int):Prop:=0<=e.blk.pc/\∀t:Nat,t<e.words.length->e.blk.pc+t<mem.length/\((mem).getD (e.blk.pc+t).toNat default)=e.words.getD t default
structure apb(e:Cac):Prop where
 len:(D5 e.words).length=e.words.length
 ok:oC e.blk.pc (D5 e.words)
 chk:chk (lower e.blk.pc (D5 e.words)) e.blk=true
structure atu(l:List Cac)(mem:List Int):Prop where
 n:l.length<=4
 r:∀e∈l,apb e/\avb e mem
 u:l.Pairwise λa b=>a.blk.pc≠b.blk.pc
structure avy(e:Eng):Prop where
 m:MOK e.ay
 c:atu e.cache e.ay.mem
 p:uS e.aX
def apc(l:List Int)(k:Int):WZ.F () (l,k,()) (λy=>y=(if k<0 then 0 else yV l k,())):=by
 dsimp only [WZ,gm];simp (disch:=omega) only [RR];unfold yV;refine⟨λh=> ?_,λ⟨a,b⟩=>⟨ah,ah,by rw [if_neg a,if_pos ah]⟩⟩;by_cases c:k<0
 .rw [if_pos c]
 .rw [if_neg c,if_neg ah]
abbrev avc(b : List Int × Int × Unit -> Bool)(a : List Int × Int × Unit -> Int × Unit) : Prop := ∀ l k, b (l, k, ()) = true /\ a (l, k, ()) = (if k < 0 then 0 else yV l k, ())
structure avd(e:Ev):Prop where
 kd:4<=e.kind/\e.kind<=7
 at_:0<=e.at_/\e.at_<8
 x:aQ e.x
 y:aQ e.y
 r:∀p∈e.regs,aQ p
 rl:e.regs.length<=4
structure avJ(T:List Atom)(S:Sym)(b:Blk)(m:aG):Prop where
 t:aI T
 e:∀e∈S.events,avd e
 el:S.events.length<=48
 r:∀p∈S.regs,aQ p
 rl:S.regs.length<=4
 x:aQ S.x
 y:aQ S.y
 mo:MOK m
 pc:0<=b.pc/\b.pc<=64
 ln:0<=b.len/\b.len<=8
 ins:m.ins.length<1000000000
 out:m.outs.length<800000000
variable{l:List Cac}{α:Type}
def CAB:(∀e:Cac,jy .cac 0 .i64 e=e.words)/\(∀e:Cac,cu .cac 1 e=e.blk.pc)/\(∀e:Cac,cu .cac 2 e=e.blk.len)/\(∀e:Cac,jy .cac 3 .iop e=e.blk.ops)/\(∀e:Cac,cu .cac 4 e=e.blk.fin)/\(∀e:Cac,cu .cac 5 e=e.blk.x)/\(∀e:Cac,cu .cac 6 e=e.blk.y)/\(∀e:Cac,cu .cac 7 e=e.blk.k):=
 ⟨λ_=>rfl,λ_=>rfl,λ_=>rfl,λ_=>rfl,λ_=>rfl,λ_=>rfl,λ_=>rfl,λ_=>rfl⟩
def CAM:(∀e:Cac,Co.mk .cac (e.words,e.blk.pc,e.blk.len,e.blk.ops,e.blk.fin,e.blk.x,e.blk.y,e.blk.k,())=e)/\(∀x:Cac,([x].length:Int)=1):=⟨λ_=>rfl,λ_=>rfl⟩
def ShK(l:List Cac):Prop:=l.length<1000/\∀x∈l,x.words.length<1000/\x.blk.ops.length<1000000/\x.blk.pc<=1000000
def ShK.at(h:ShK l)(i:Nat):(l.getD i default).words.length<1000/\(l.getD i default).blk.ops.length<1000000/\(l.getD i default).blk.pc<=1000000:=by
 by_cases c:i<l.length
 .rw [getD_lt c];exact h.2 _ (getElem_mem _)
 .rw [getD_eq_getElem?_getD,getElem?_eq_none ah];exact⟨by decide,by decide,by decide⟩
def ShX(l:List Cac):Prop:=l.length<1000000000/\∀x∈l,x.words.length<1000000000/\x.blk.ops.length<1000000000
def ShK.x(h:ShK l):ShX l:=⟨by have:=h.1;omega,λq g=>by have:=h.2 q g;omega⟩
def ShX.at(h:ShX l)(i:Nat):(l.getD i default).words.length<1000000000/\(l.getD i default).blk.ops.length<1000000000:=by
 by_cases c:i<l.length
 .rw [getD_lt c];exact h.2 _ (getElem_mem _)
 .rw [getD_eq_getElem?_getD,getElem?_eq_none ah];exact⟨by decide,by decide⟩
def ShK.sub{l r:List Cac}(h:ShK l)(n:r.length<1000)(s:∀x∈r,x∈l):ShK r:=⟨n,λx a=>h.2 x (s x a)⟩
def FC(l:List Cac)(a k:Int):Prop:=(k= -1/\∀j:Int,0<=j->j<l.length->(((l).getD (j).toNat default)).blk.pc≠a)\/(0<=k/\k<l.length/\(((l).getD (k).toNat default)).blk.pc=a/\∀j:Int,0<=j->j<k->(((l).getD (j).toNat default)).blk.pc≠a)
def FC.one{j k m:Int}(h:FC l j k)(g:FC l j m):k=m:=by
 rcases h with⟨a,b⟩ | ⟨a,b,c,d⟩<;>rcases g with⟨e,f⟩ | ⟨e,f,i,n⟩
 .omega
 .exact absurd i (b _ e f)
 .exact absurd c (f _ a b)
 .rcases Int.lt_trichotomy k m with h | h | h
  .exact absurd c (n _ a h)
  .exact h
  .exact absurd i (d _ e h)
def apd(l:List Cac)(a:Int)(h:l.length<1000000000):Wu.F () (l,a,()) (λy=>FC l a y.1):=by
 dsimp only [Wu,gm];refine au (λ(y:List Cac×ni)=>y.1=l/\y.2.1=a/\0<=y.2.2.1/\y.2.2.1<=l.length/\∀j:Int,0<=j->j<y.2.2.1->(((l).getD (j).toNat default)).blk.pc≠a) (λy=>(l.length-y.2.2.1).toNat) ⟨rfl,rfl,by simp,by simp,λj m b=>absurd b (by simp;omega)⟩ ?_;rintro⟨(l:List Cac),(a:Int),(i:Int),⟨⟩⟩ hI;dsimp only at hI ⊢;obtain⟨rfl,rfl,b,n,f⟩:=hI;simp (disch:=omega) only [RR,CAB];refine⟨λg=>⟨b,g,λe=>Or.inr ⟨b,g,e,f⟩,λe=>⟨⟨ah,ah,λj d k=> ?_⟩,ah⟩⟩,λg=>Or.inl ⟨rfl,λj d k=>f j d ah⟩⟩;by_cases c:j<i
 .exact f j d c
 .rw [show j=i by omega];exact e
def There(w mem:List Int)(a:Int):Prop:=∀k:Int,0<=k->k<w.length->a+k<mem.length/\((mem).getD (a+k).toNat default)=((w).getD (k).toNat default)
def ape(w mem:List Int)(a:Int)(n:w.length<1000)(hm:mem.length<1000000000)(s:0<=a)(m:a<=1000000):V8.F () (w,mem,a,()) (λy=>y=(bp (There w mem a),())):=by
 dsimp only [V8,gm];refine au (λ(y:List Int×Eo)=>y.1=w/\y.2.1=mem/\y.2.2.1=a/\0<=y.2.2.2.1/\y.2.2.2.1<=w.length/\∀k:Int,0<=k->k<y.2.2.2.1->a+k<mem.length/\((mem).getD (a+k).toNat default)=((w).getD (k).toNat default)) (λy=>(w.length-y.2.2.2.1).toNat) ⟨rfl,rfl,rfl,by simp,by simp,λj p d=>absurd d (by simp;omega)⟩ ?_;rintro⟨(w:List Int),(mem:List Int),(a:Int),(i:Int),⟨⟩⟩ hI;dsimp only at hI ⊢;obtain⟨rfl,rfl,rfl,d,o,f⟩:=hI;simp (disch:=omega) only [RR];refine⟨λg=>⟨ah,ah,ah,ah,λe=> ?_,λe=>⟨⟨ah,ah,λj b l=> ?_⟩,ah⟩⟩,λg=> ?_⟩
 .rw [aV];intro q;obtain⟨r,h⟩:=q i d g;rcases e with e | e
  .omega
  .exact e h
 .by_cases c:j<i
  .exact f j b c
  .rw [show j=i by omega];exact⟨ah,e.2⟩
 .rw [aL];exact λj b l=>f j b ah
abbrev cE(e : Cac) : Int × Int × Int × Int × Int × Int × List Int × List IOp × Unit := (e.blk.pc, e.blk.len, e.blk.fin, e.blk.x, e.blk.y, e.blk.k, e.words, e.blk.ops, ())
theorem apf{p1 f1}(b:Y77 p1 f1)(e:Cac)(d:e.words.length<1000)(a:e.blk.ops.length<1000000):Wm.F (p1,f1,()) (e,()) (λy=>y=cE e):=by
 have mE:∀c:Blk,Co.mk .blk (c.pc,c.len,c.ops,c.fin,c.x,c.y,c.k,())=c:=λ_=>rfl
 dsimp only [Wm,gm,mJ];simp (disch:=omega) only [RR,CAB,mE,b _ a,nil_append,length_nil];omega
noncomputable def dK (mem:List Int) (x:Cac):Bool:=bp (0<=x.blk.pc/\There x.words mem x.blk.pc)
def nS{d:α}{P:α->Bool}{l:List α}{i:Int}(a:0<=i)(h:i<l.length):(l.take (i+1).toNat).filter P=(l.take i.toNat).filter P++(if P (l.getD i.toNat d)=true then [l.getD i.toNat d]else []):=by
 rw [show(i+1).toNat=i.toNat+1 by omega,take_succ_eq_append_getElem ah,getD_lt ah,filter_append]
 congr 1
 rw [filter_cons,filter_nil]
def xk(P:α->Bool)(l:List α)(i:Nat):((l.take i).filter P).length<=i:=Nat.le_trans (length_filter_le _ _) (length_take_le _ _)
abbrev ajB(b : Cac × Unit -> Bool)(a : Cac × Unit -> Int × Int × Int × Int × Int × Int × List Int × List IOp × Unit) : Prop := ∀ e, e.words.length < 1000 -> e.blk.ops.length < 1000000 -> b (e, ()) = true /\ a (e, ()) = cE e
abbrev atv(b : List Int × List Int × Int × Unit -> Bool)(c : List Int × List Int × Int × Unit -> Bool × Unit) : Prop := ∀ w mem a, w.length < 1000 -> mem.length < 1000000000 -> 0 <= a -> a <= 1000000 -> b (w, mem, a, ()) = true /\ c (w, mem, a, ()) = (bp (There w mem a), ())
def apg{p1 f1 p2 f2}(w:ajB p1 f1)(v:atv p2 f2)(l:List Cac)(mem:List Int)(h:ShK l)(hm:mem.length<1000000000):Wq.F (p1,f1,p2,f2,()) (l,mem,()) (λy=>y=(l.filter (dK mem),())):=by
 have p:=λa b f=>(w a b f).1
 have u:=λa b f=>(w a b f).2
 have n:=λa b f r t q m=>(v a b f r t q m).1
 have s:=λa b f r t q m=>(v a b f r t q m).2
 have F:=h.1;have mC:=CAM;dsimp only [Wq,gm,mJ,map_cons,map_nil]at*;refine au (λ(y:List Cac×List Int×Int×G5)=>y.1=l/\y.2.1=mem/\0<=y.2.2.1/\y.2.2.1<=l.length/\y.2.2.2.1=(l.take y.2.2.1.toNat).filter (dK mem)) (λy=>(l.length-y.2.2.1).toNat) ⟨rfl,rfl,by simp,by simp,by simp⟩ ?_;rintro⟨(l:List Cac),(mem:List Int),(i:Int),(o:List Cac),⟨⟩⟩ hI;dsimp only at hI ⊢;obtain⟨rfl,rfl,j,D,rfl⟩:=hI;obtain⟨k,z,x⟩:=h.at i.toNat;have E:=xk (dK mem) l i.toNat;by_cases c:i<l.length
 .have fs:=nS (d:=default) (P:=dK mem) j c;by_cases d:0<=(((l).getD (i).toNat default)).blk.pc
  .have P2:=n _ mem _ k hm d x;have B:=s _ mem _ k hm d x;have A:=p _ k z;have C:=u _ k z;simp (disch:=omega) only [RR,CAB,c,d,A,P2,C,B,mC];refine⟨j,j,j,λe=>⟨j,ah,⟨ah,ah,?_⟩,ah⟩,λe=>⟨⟨ah,ah,?_⟩,ah⟩⟩
   .rw [fs,if_pos (show dK mem _=true from aL ⟨d,aH.1 e⟩)]
   .rw [fs,if_neg (by rw [dK,aV (λg=>by rw [aL g.2]at e;simp at e)];decide),append_nil]
  .simp (disch:=omega) only [RR,CAB,c,d,mC];refine⟨j,λe=>e.1.elim,λ_=>⟨⟨ah,ah,?_⟩,ah⟩⟩;rw [fs,if_neg (by rw [dK,aV (λg=>d g.1)];decide),append_nil]
 .simp (disch:=omega) only [RR,CAB,c];rw [take_of_length_le ah]
noncomputable def kr:List Int->List Ins
 | []=> []
 | w::r=>if bp (Wo w/\bP (eH w))=true then eH w::kr r else []
def Nc:∀w:List Int,(kr w).length<=w.length
 | []=>Nat.le_refl _
 | w::r=>by
  have:=Nc r;unfold kr;split<;>simp only [length_cons,length_nil]<;>omega
def xq:∀(a b:List Int),(∀w∈a,Wo w/\bP (eH w))->kr (a++b)=a.map eH++kr b
 | [],b,_=>rfl
 | w::a,b,h=>by
  rw [cons_append,kr,if_pos (aL (h w (by simp))),xq a b (λx c=>h x (by simp [c]))];rfl
theorem aph{p1 f1}(k:afI p1 f1)(w:List Int)(h:w.length<1000000000):Va.F (p1,f1,()) (w,()) (λy=>y=(kr w,())):=by
 have e:∀x y z u:Int,Co.mk .ins (x,y,z,u,())=⟨x,y,z,u⟩:=λ_ _ _ _=>rfl
 dsimp only [Va,gm];refine au (λ(y:lX)=>y.1=w/\0<=y.2.1/\y.2.1<=w.length/\y.2.2.1=(w.take y.2.1.toNat).map eH/\∀x∈w.take y.2.1.toNat,Wo x/\bP (eH x)) (λy=>(w.length-y.2.1).toNat) ⟨rfl,by simp,by simp,by simp,by simp⟩ ?_;rintro⟨(w:List Int),(i:Int),(o:List Ins),⟨⟩⟩ hI;dsimp only at hI ⊢;obtain⟨rfl,j,n,rfl,a⟩:=hI;simp (disch:=omega) only [RR,k];have p:=length_take_le' i.toNat w;refine⟨λg=>⟨j,g,?_⟩,λg=> ?_⟩
 .have dr:w=w.take i.toNat++(w.getD i.toNat default::w.drop (i.toNat+1)):=by
   rw [getD_lt ah,<-drop_eq_getElem_cons ah,take_append_drop]
  unfold tkI;by_cases c:Wo (w.getD i.toNat default)/\bP (eH (w.getD i.toNat default))
  .rw [if_pos (aL c)];simp (disch:=omega) only [RR,e];have b:=bq (d:=default) j g (l:=w) rfl;have m:((w.take i.toNat).map eH).length=i.toNat:=by rw [length_map,length_take];omega
   refine⟨by rw [m];simp only [length_cons,length_nil];omega,⟨ah,ah,by rw [<-b,map_append];rfl,λx f=> ?_⟩,ah⟩;rw [<-b,mem_append,mem_singleton]at f;exact f.elim (a x) (λq=>q▸c)
  .rw [if_neg (by rw [aV c];decide)];simp (disch:=omega) only [RR]
   conv=>rhs;rw [dr]
   rw [xq _ _ a,kr,if_neg (by rw [aV c];decide),append_nil]
   done
 .rw [take_of_length_le ah]at a ⊢;have:=xq w [] a;rw [append_nil]at this;rw [this];simp [kr]
def neP(a:Int)(x:Cac):Bool:= !decide (x.blk.pc=a)
def kD(l:List Cac)(e:Cac):List Cac:=(l.filter (neP e.blk.pc)++ [e]).drop ((l.filter (neP e.blk.pc)).length+1-4)
def apj{p1 f1}(p:ajB p1 f1)(l:List Cac)(e:Cac)(h:ShK l)(s:e.words.length<1000)(m:e.blk.ops.length<1000000):WS.F (p1,f1,()) (l,e,()) (λy=>y=(kD l e,())):=by
 have a:=λg j k=>(p g j k).1
 have b:=λg j k=>(p g j k).2
 have F:=h.1;have mC:=CAM;dsimp only [WS,gm,mJ,map_cons,map_nil]at*;refine au (λ(y:List Cac×Int×Cac×G5)=>y.1=l/\0<=y.2.1/\y.2.1<=l.length/\y.2.2.1=e/\y.2.2.2.1=(l.take y.2.1.toNat).filter (neP e.blk.pc)) (λy=>(l.length-y.2.1).toNat) ⟨rfl,by simp,by simp,rfl,by simp⟩ ?_;rintro⟨(l:List Cac),(i:Int),(e:Cac),(o:List Cac),⟨⟩⟩ hI;dsimp only at hI ⊢;obtain⟨rfl,f,D,rfl,rfl⟩:=hI;obtain⟨q,r,E⟩:=h.at i.toNat;have x:=xk (neP e.blk.pc) l i.toNat;have A:=a _ s m;have v:=b _ s m;by_cases c:i<l.length
 .have fs:=nS (d:=default) (P:=neP e.blk.pc) f c;by_cases d:(((l).getD (i).toNat default)).blk.pc=e.blk.pc
  .rw [if_neg (by simp [neP,d, -getD_eq_getElem?_getD])]at fs;simp (disch:=omega) only [RR,CAB,c,d,mC];exact⟨f,⟨ah,ah,by rw [fs,append_nil]⟩,ah⟩
  .rw [if_pos (by simp [neP,d, -getD_eq_getElem?_getD])]at fs;have u:=a _ q r;have B:=b _ q r;simp (disch:=omega) only [RR,CAB,c,d,u,B,mC];exact⟨f,f,ah,⟨ah,ah,fs.symm⟩,ah⟩
 .simp (disch:=omega) only [RR,CAB,c,A,v,mC];rw [take_of_length_le ah]at x ⊢;have z:((l.filter (neP e.blk.pc)++ [e]).length:Int)=(l.filter (neP e.blk.pc)).length+1:=by rw [length_append,length_singleton];omega
  have t:(l.filter (neP e.blk.pc)++ [e]).length=(l.filter (neP e.blk.pc)).length+1:=by rw [length_append,length_singleton]
  rw [z];generalize hn:(l.filter (neP e.blk.pc)).length=n at*;have w:IntKind.i64.wrap ((n:Int)+1-4)=n+1-4:=w64 ah ah;rw [w];unfold kD;rw [hn];refine⟨ah,λC=>⟨ah,ah,ah,ah,ah,ah,?_⟩,λC=>by rw [show n+1-4=0 by omega];rfl⟩;rw [take_of_length_le ah,show((n:Int)+1-4).toNat=n+1-4 by omega]
def nH(x:Cac):Prop:=(kr x.words).length=x.words.length/\oC x.blk.pc (kr x.words)/\chk (lower x.blk.pc (kr x.words)) x.blk=true
abbrev atw(b : List Int × Unit -> Bool)(a : List Int × Unit -> List Ins × Unit) : Prop := ∀ w, w.length < 1000000000 -> b (w, ()) = true /\ a (w, ()) = (kr w, ())
theorem apk{p1 f1 p2 f2 p3 f3 p4 f4}(m:ajz p1 f1)(j:atq p2 f2)(n:atw p3 f3)(q:Y96 p4 f4)(e:Cac)(h:e.words.length<1000000000)(r:e.blk.ops.length<1000000000):V7.F (p1,f1,p2,f2,p3,f3,p4,f4,()) (e,()) (λy=>y=(bp (nH e),())):=by
 have mE:∀c:Blk,Co.mk .blk (c.pc,c.len,c.ops,c.fin,c.x,c.y,c.k,())=c:=λ_=>rfl
 have s:=Nc e.words;obtain⟨i,d⟩:=m e.blk.pc (kr e.words) ah;obtain⟨o,k⟩:=j e.blk.pc (kr e.words) ah;have f:=Nb d;rw [d]at f;obtain⟨l,p⟩:=q (lower e.blk.pc (kr e.words)) e.blk (by have:((lower e.blk.pc (kr e.words)).ops.length:Int)<=5000:=f;omega) ah;dsimp only [V7,gm,mJ];simp (disch:=omega) only [RR,CAB,mE,n _ h,i,d,o,k,l,p];have eq:bp (nH e)=(decide (((kr e.words).length:Int)=e.words.length)&&bp (oC e.blk.pc (kr e.words))&&chk (lower e.blk.pc (kr e.words)) e.blk):=by
  rw [Bool.eq_iff_iff,aH,Bool.and_eq_true,Bool.and_eq_true,aH,decide_eq_true_eq];exact⟨λ⟨a,b,c⟩=>⟨⟨ah,b⟩,c⟩,λ⟨⟨a,b⟩,c⟩=>⟨ah,b,c⟩⟩
 exact⟨λ_=>by rw [eq],λg=>⟨g,by rw [eq,g];rfl⟩⟩
def xu(l:List Cac)(mem:List Int):Prop:=l.length<=4/\(∀j:Int,0<=j->j<l.length->nH ((l).getD (j).toNat default)/\There (((l).getD (j).toNat default)).words mem (((l).getD (j).toNat default)).blk.pc)/\∀i j:Int,0<=i->i<j->j<l.length->(((l).getD (i).toNat default)).blk.pc≠(((l).getD (j).toNat default)).blk.pc
def apl{p2 f2}{t:Cac×Unit->Bool}{E:Cac×Unit->mQ}(C:∀e,e.words.length<1000000000->e.blk.ops.length<1000000000->t (e,())=true/\E (e,())=(bp (nH e),()))(J:atv p2 f2)(l:List Cac)(mem:List Int)(h:ShX l)(hm:mem.length<1000000000):V9.F (t,E,p2,f2,()) (l,mem,()) (λy=>y=(bp (xu l mem),())):=by
 have U:=h.1;dsimp only [V9,gm,mJ];simp (disch:=omega) only [RR,CAB];refine⟨λg=>by rw [aV (λe=>by have:=e.1;omega)],λg=> ?_⟩;refine au (λ(y:List Cac×l7)=>y.1=l/\y.2.1=mem/\0<=y.2.2.1/\y.2.2.1<=l.length/\(∀j:Int,0<=j->j<y.2.2.1->nH ((l).getD (j).toNat default)/\There (((l).getD (j).toNat default)).words mem (((l).getD (j).toNat default)).blk.pc)/\∀i j:Int,0<=i->i<j->j<y.2.2.1->(((l).getD (i).toNat default)).blk.pc≠(((l).getD (j).toNat default)).blk.pc) (λy=>(l.length-y.2.2.1).toNat) ⟨rfl,rfl,by simp,by simp,λj D r=>absurd r (by simp;omega),λi j D r L=>absurd L (by simp;omega)⟩ ?_;rintro⟨(n:List Cac),(m:List Int),(i:Int),⟨⟩⟩ hI;dsimp only at hI ⊢;obtain⟨rfl,rfl,f,Q,H,B⟩:=hI;obtain⟨p,s⟩:=h.at i.toNat;by_cases c:i<n.length
 .by_cases d:nH ((n).getD (i).toNat default)
  .have pc:=d.2.1.pc;have R:=d.1;have P:=d.2.1.ln;obtain⟨M,K⟩:=J _ m _ (show(((n).getD (i).toNat default)).words.length<1000 by omega) hm pc.1 ah;simp (disch:=omega) only [RR,CAB,c,C _ p s,aL d,M,K];refine⟨f,f,f,λe=> ?_,λe=> ?_⟩
   .rw [aV];intro q;rw [aL (q.2.1 i f c).2]at e;cases e
   have O:=aH.1 e;refine au (λ(y:List Cac×Eo)=>y.1=n/\y.2.1=m/\y.2.2.1=i/\0<=y.2.2.2.1/\y.2.2.2.1<=i/\∀j:Int,0<=j->j<y.2.2.2.1->(((n).getD (j).toNat default)).blk.pc≠(((n).getD (i).toNat default)).blk.pc) (λy=>(i-y.2.2.2.1).toNat) ⟨rfl,rfl,rfl,by simp,f,λj D r=>absurd r (by simp;omega)⟩ ?_;rintro⟨(u:List Cac),(v:List Int),(w:Int),(k:Int),⟨⟩⟩ hJ;dsimp only at hJ ⊢;obtain⟨rfl,rfl,rfl,F,T,k3⟩:=hJ;simp (disch:=omega) only [RR];refine⟨λG=>⟨F,ah,f,c,λq=> ?_,λq=>⟨⟨ah,ah,λj o x=> ?_⟩,ah⟩⟩,λG=>⟨⟨ah,ah,λj o x=> ?_,λa b A I S=> ?_⟩,ah⟩⟩
   .rw [aV];exact λz=>z.2.2 k w F G c q
   .by_cases y:j<k
    .exact k3 j o y
    .rw [show j=k by omega];exact q
   .by_cases y:j<w
    .exact H j o y
    .rw [show j=w by omega];exact⟨d,O⟩
   .by_cases y:b<w
    .exact B a b A I y
    .rw [show b=w by omega];exact k3 a A ah
  .simp (disch:=omega) only [RR,CAB,c,C _ p s,aV d];refine⟨f,?_,λe=>e.1.elim⟩;rw [aV];exact λz=>d (z.2.1 i f c).1
 .simp (disch:=omega) only [RR,CAB,c];rw [aL];exact⟨ah,λj o x=>H j o ah,λa b N p s=>B a b N p ah⟩
def EGB:(∀e:Eng,jy .eng 0 .i64 e=e.ay.regs)/\(∀e:Eng,cu .eng 1 e=e.ay.pc)/\(∀e:Eng,jy .eng 2 .i64 e=e.ay.mem)/\(∀e:Eng,cu .eng 3 e=e.ay.save)/\(∀e:Eng,LH .eng 4 e=e.ay.bG)/\(∀e:Eng,LH .eng 5 e=e.ay.waits)/\(∀e:Eng,cu .eng 6 e=e.ay.halt)/\(∀e:Eng,jy .eng 7 .i64 e=e.ay.ins)/\(∀e:Eng,jy .eng 8 .i64 e=e.ay.outs)/\(∀e:Eng,cu .eng 9 e=e.ay.count)/\(∀e:Eng,jy .eng 10 .cac e=e.cache)/\(∀e:Eng,jy .eng 11 .cer e=e.aX):=
 ⟨λ_=>rfl,λ_=>rfl,λ_=>rfl,λ_=>rfl,λ_=>rfl,λ_=>rfl,λ_=>rfl,λ_=>rfl,λ_=>rfl,λ_=>rfl,λ_=>rfl,λ_=>rfl⟩
theorem MKM:∀m:aG,Co.mk .ay (m.regs,m.pc,m.mem,m.save,m.bG,m.waits,m.halt,m.ins,m.outs,m.count,())=m:=λ_=>rfl
def vI(e:Eng):Prop:=MOK e.ay/\xu e.cache e.ay.mem/\uS e.aX
abbrev apm(b : List Cac × List Int × Unit -> Bool)(a : List Cac × List Int × Unit -> Bool × Unit) : Prop := ∀ l mem, ShX l -> mem.length < 1000000000 -> b (l, mem, ()) = true /\ a (l, mem, ()) = (bp (xu l mem), ())
def apn{p1 f1 p2 f2 p3 f3}(p:apm p1 f1)(n:auU p2 f2)(q:XK p3 f3)(e:Eng)(c:MSh e.ay)(o:ShX e.cache)(m:ShD e.aX):Wi.F (p1,f1,p2,f2,p3,f3,()) (e,()) (λy=>y=(bp (vI e),())):=by
 have g:=λa b k h=>(p a b k h).1
 have l:=λa b k h=>(p a b k h).2
 have f:=λa b=>(n a b).1
 have j:=λa b=>(n a b).2
 have i:=λa b=>(q a b).1
 have d:=λa b=>(q a b).2
 have mM:=MKM;have r:=g _ e.ay.mem o c.2.1;have s:=l _ e.ay.mem o c.2.1;dsimp only [Wi,gm,pF]at*;simp (disch:=omega) only [RR,EGB,mM,i _ c,d _ c,r,s,f _ m,j _ m];unfold vI;rw [iU,iU,Bool.and_assoc]
abbrev e12(e : Eng) : List Int × Int × Int × Bool × Bool × Int × List Int × List Int × Int × List Cer × List Int × List Cac × Unit := (e.ay.regs, e.ay.pc, e.ay.save, e.ay.bG, e.ay.waits, e.ay.halt, e.ay.ins, e.ay.outs, e.ay.count, e.aX, e.ay.mem, e.cache, ())
noncomputable def newE (m:aG):Eng:=if bp (MOK m)=true then⟨m,[],[]⟩else⟨Qa,[],[]⟩
def apo{p1 f1 p2 f2}(b:XK p1 f1)(a:afz p2 f2)(m:aG)(h:MSh m):UK.F (p1,f1,p2,f2,()) (m,()) (λy=>y=e12 (newE m)):=by
 dsimp only [UK,gm];simp (disch:=omega) only [RR,b _ h,a _ h];unfold newE;exact⟨λg=>by rw [g];rfl,λg=>by rw [g];rfl⟩
def afM{m:aG}(h:MSh m)(f:m.outs.length<900000000)(b:Bool):MSh (stS m b)/\(stS m b).outs.length<=m.outs.length+1/\(stS m b).ins.length<=m.ins.length:=by
 obtain⟨d,e,a,c⟩:=h;unfold stS;split
 .rename_i g;have ok:=aH.1 g;split
  .exact⟨⟨d,e,a,c⟩,Nat.le_succ _,Nat.le_refl _⟩
  .have k:=HV ok (by have:=ok.ct;omega) b;have l:=HZ m b;exact⟨⟨by rw [k.r4];omega,by have:=k.m64;omega,ah,ah⟩,l.2,l.1⟩
 .exact⟨⟨by decide,by decide,by decide,by decide⟩,Nat.zero_le _,Nat.zero_le _⟩
noncomputable def xw (e:Eng) (q:List Int):Eng:=⟨stS e.ay (bp (e.ay.count∈q)),e.cache.filter (dK (stS e.ay (bp (e.ay.count∈q))).mem),e.aX⟩
abbrev apq(b : List Cac × List Int × Unit -> Bool)(a : List Cac × List Int × Unit -> List Cac × Unit) : Prop := ∀ l mem, ShK l -> mem.length < 1000000000 -> b (l, mem, ()) = true /\ a (l, mem, ()) = (l.filter (dK mem), ())
def apr{p1 f1 p2 f2 p3 f3}(r:apq p1 f1)(n:ath p2 f2)(s:ajx p3 f3)(e:Eng)(q:List Int)(l:MSh e.ay)(i:e.ay.outs.length<900000000)(p:ShK e.cache)(o:q.length<1000000000):Ws.F (p1,f1,p2,f2,p3,f3,()) (e.ay.regs,e.ay.pc,e.ay.mem,e.ay.save,e.ay.bG,e.ay.waits,e.ay.halt,e.ay.ins,e.ay.outs,e.ay.count,e.cache,q,e.aX,()) (λy=>y=e12 (xw e q)):=by
 have h:=λa b c d=>(r a b c d).1
 have m:=λa b c d=>(r a b c d).2
 have g:=λa b c d=>(n a b c d).1
 have k:=λa b c d=>(n a b c d).2
 have j:=λa b c=>(s a b c).1
 have f:=λa b c=>(s a b c).2
 have mM:=MKM;dsimp only [Ws,gm,pF]at*;have u:=j _ e.ay.count o;have z:=f _ e.ay.count o;have w:=g e.ay (bp (e.ay.count∈q)) l i;have v:=k e.ay (bp (e.ay.count∈q)) l i;have sh:=(afM l i (bp (e.ay.count∈q))).1;have t:=h _ (stS e.ay (bp (e.ay.count∈q))).mem p sh.2.1;have x:=m _ (stS e.ay (bp (e.ay.count∈q))).mem p sh.2.1;simp (disch:=omega) only [RR,mM,u,z,w,v,t,x];rfl
theorem aps{p1 f1 p2 f2 p3 f3}(s:ajB p1 f1)(o:as3 p2 f2)(t:afz p3 f3)(e:Eng)(w:MSh e.ay)(r:ShK e.cache)(p:ShC e.aX):Wp.F (p1,f1,p2,f2,p3,f3,()) (e,()) (λy=>y=e12 e):=by
 have l:=λa d f=>(s a d f).1
 have n:=λa d f=>(s a d f).2
 have k:=λa d f=>(o a d f).1
 have g:=λa d f=>(o a d f).2
 have m:=λa d=>(t a d).1
 have h:=λa d=>(t a d).2
 have mM:=MKM;have mC:=CAM;have A:∀q:Cer,Co.mk .cer (q.base.pc,q.base.len,q.base.ops,q.base.fin,q.base.x,q.base.y,q.base.k,q.made.pc,q.made.len,q.made.ops,q.made.fin,q.made.x,q.made.y,q.made.k,())=q:=λ_=>rfl
 unfold ajp at g;dsimp only [Wp,gm,pF,mJ,cons_append,nil_append,map_cons,map_nil]at*;simp (disch:=omega) only [RR,EGB,mM,m _ w,h _ w];have E:=r.1;have H:=p.1;have z:∀x:Cer,([x].length:Int)=1:=λ_=>rfl
 refine au (λy=>∃i:Nat,i<=e.cache.length/\y=((i:Int),e,(0:Int),(0:Int),false,false,(0:Int),(0:Int),e.ay.pc,e.ay.save,e.ay.bG,e.ay.waits,e.ay.halt,e.ay.count,e.ay.regs,e.ay.mem,e.ay.ins,e.ay.outs,e.cache.take i,())) (λy=>(e.cache.length-y.1).toNat) ⟨0,Nat.zero_le _,rfl⟩ ?_;rintro y ⟨i,D,rfl⟩;dsimp only;obtain⟨u,v,G⟩:=r.at i;have B:((i:Int)).toNat=i:=rfl;by_cases c:(i:Int)<e.cache.length
 .have tl:=length_take_le' i e.cache;simp (disch:=omega) only [RR,c,B,l _ u v,n _ u v,mC];refine⟨ah,ah,⟨i+1,ah,?_⟩,ah⟩;rw [take_succ_eq_append_getElem ah,getD_lt ah];rfl
 .simp (disch:=omega) only [RR,c];rw [take_of_length_le ah];refine au (λy=>∃i:Nat,i<=e.aX.length/\y=((i:Int),e,(0:Int),(0:Int),false,false,(0:Int),(0:Int),e.ay.pc,e.ay.save,e.ay.bG,e.ay.waits,e.ay.halt,e.ay.count,e.ay.regs,e.ay.mem,e.ay.ins,e.ay.outs,e.cache,e.aX.take i,())) (λy=>(e.aX.length-y.1).toNat) ⟨0,Nat.zero_le _,rfl⟩ ?_;rintro y ⟨j,F,rfl⟩;dsimp only;have b:=p.at j;have C:((j:Int)).toNat=j:=rfl;by_cases c:(j:Int)<e.aX.length
  .have tl:=length_take_le' j e.aX;simp (disch:=omega) only [RR,c,C,k _ b.1 b.2,g _ b.1 b.2,A,z];refine⟨ah,ah,⟨j+1,ah,?_⟩,ah⟩;rw [take_succ_eq_append_getElem ah,getD_lt ah];rfl
  .simp (disch:=omega) only [RR,c];rw [take_of_length_le ah]
end Go.TX.F
namespace Go.TX.F
open Go Go.AE Go.TX List
def atx(e:Cac)(a:Int):aeI.F () (e,a,()) (λy=>y=(decide (e.blk.pc=a),a,())):=by
 dsimp only [aeI,gm];simp (disch:=omega) only [RR,CAB]
def apt{k:Cac×dY->Bool}{m:Cac×dY->Bool×dY}(p:∀e a,k (e,a,())=true/\m (e,a,())=(decide (e.blk.pc=a),a,()))(l:List Cac)(a:Int)(h:l.length<1000000000):Uz.F (k,m,()) (l,a,()) (λy=>y.2.1=a/\FC l a y.1):=by
 dsimp only [Uz,gm];refine au (λ(y:List Cac×Int×ni)=>y.1=l/\y.2.1=l.length/\0<=y.2.2.1/\y.2.2.1<=l.length/\y.2.2.2.1=a/\∀j:Int,0<=j->j<y.2.2.1->(((l).getD (j).toNat default)).blk.pc≠a) (λy=>(l.length-y.2.2.1).toNat) ⟨rfl,rfl,by simp,by simp,rfl,λj r b=>absurd b (by simp;omega)⟩ ?_;rintro⟨(l:List Cac),(n:Int),(i:Int),(a:Int),⟨⟩⟩ hI;dsimp only at hI ⊢;obtain⟨rfl,rfl,b,q,rfl,d⟩:=hI;simp (disch:=omega) only [RR,CAB,p];refine⟨λg=>⟨b,g,λe=>Or.inr ⟨b,g,e,d⟩,λe=>⟨⟨ah,ah,λj f o=> ?_⟩,ah⟩⟩,λg=>Or.inl ⟨rfl,λj f o=>d j f ah⟩⟩;by_cases c:j<i
 .exact d j f c
 .rw [show j=i by omega];exact e
def aty{c:List Cac×dY->Bool}{b:List Cac×dY->ni}(d:∀l a,l.length<1000000000->c (l,a,())=true/\(b (l,a,())).2.1=a/\FC l a (b (l,a,())).1)(l:List Cac)(a:Int)(h:l.length<1000000000):aeJ.F (c,b,()) (l,a,()) (λy=>FC l a y.1):=by
 dsimp only [aeJ,gm];simp (disch:=omega) only [RR,(d _ a h).1];exact((d _ a h).2).2
abbrev atz(c : List Cac × Int × Unit -> Bool)(b : List Cac × Int × Unit -> Int × Unit) : Prop := ∀ l a, l.length < 1000000000 -> c (l, a, ()) = true /\ FC l a (b (l, a, ())).1
def lvS(m:aG)(b:Blk)(n h:Int):aG:={m with pc:=b.pc+n,count:=m.count+n,halt:=h}
def apu(m:aG)(b:Blk)(n h:Int)(c:0<=m.count/\m.count<=2000000)(a:0<=n/\n<=1000)(d: -1000<=b.pc/\b.pc<=1000000):WW.F () (m.pc,m.save,m.bG,m.waits,m.halt,m.ins,m.count,b,n,h,m.regs,m.mem,m.outs,()) (λy=>y=mB (lvS m b n h)):=by
 dsimp only [WW,gm];simp (disch:=omega) only [RR,RB];rfl
def apv(b:Blk)(a n:Int)(c:0<=n/\n<=1000)(e: -1000<=b.pc/\b.pc<=1000000)(d: -1000<=b.len/\b.len<=1000000):WX.F () (b,a,n,()) (λy=>y=(decide (b.pc+n<a)&&decide (a<b.pc+b.len),())):=by
 dsimp only [WX,gm];simp (disch:=omega) only [RR,RB]
def apw{p1 f1}(a:Y24 p1 f1)(m:aG)(o:IOp)(x y:Int)(h:o.kind=2->0<=o.k/\o.k<m.regs.length):Xa.F (p1,f1,()) (m,o,x,y,()) (λz=>z=(if o.kind=1 then o.k else if o.kind=2 then((m.regs).getD (o.k).toNat default)else if o.kind=3 then wdo o.k x y else 0,())):=by
 dsimp only [Xa,gm];simp (disch:=omega) only [RR,RB,MRB,a];refine⟨λe=>by rw [if_pos e],λe=>⟨λg=>⟨(h g).1,(h g).2,by rw [if_neg e,if_pos g]⟩,λg=>⟨λk=>by rw [if_neg e,if_neg g,if_pos k],λk=>by rw [if_neg e,if_neg g,if_neg k]⟩⟩⟩
def goS(b:Blk)(v:List Int):Int:=if b.fin=1 then b.k else if b.fin=2 then((v).getD (b.x).toNat default)else if b.fin=3/\((v).getD (b.x).toNat default)=((v).getD (b.y).toNat default)then b.k else if b.fin=4/\((v).getD (b.x).toNat default)< ((v).getD (b.y).toNat default)then b.k else b.pc+b.len
def apx(b:Blk)(v:List Int)(f: -1000<=b.pc/\b.pc<=1000000)(d: -1000<=b.len/\b.len<=1000000)(a:b.fin≠1->0<=b.x/\b.x<v.length)(c:3<=b.fin->0<=b.y/\b.y<v.length):Xb.F () (b,v,()) (λz=>z=(goS b v,())):=by
 dsimp only [Xb,gm];simp (disch:=omega) only [RR,RB];unfold goS;refine⟨λe=>by rw [if_pos e],λe=>⟨λg=>⟨(a e).1,(a e).2,by rw [if_neg e,if_pos g]⟩,λg=>⟨λk=> ?_,λk=>⟨λj=> ?_,λj=>by rw [if_neg e,if_neg g,if_neg (λz=>k z.1),if_neg (λz=>j z.1)]⟩⟩⟩⟩
 .have Y:=c ah;exact⟨(a e).1,(a e).2,Y.1,Y.2,λz=>by rw [if_neg e,if_neg g,if_pos ⟨k,z⟩],λz=>by rw [if_neg e,if_neg g,if_neg (λw=>z w.2),if_neg (λw=>by omega)]⟩
 .have Y:=c ah;exact⟨(a e).1,(a e).2,Y.1,Y.2,λz=>by rw [if_neg e,if_neg g,if_neg (λw=>k w.1),if_pos ⟨j,z⟩],λz=>by rw [if_neg e,if_neg g,if_neg (λw=>k w.1),if_neg (λw=>z w.2)]⟩
noncomputable def Ia (m:aG) (q:List Int) (left size:Int):Bool:=bp (size<=left/\m.count<=1000000-size/\∀k:Int,1<=k->k<size->m.count+k∉q)
def apy{p1 f1}(h:ajx p1 f1)(m:aG)(q:List Int)(left size:Int)(f:q.length<1000000000)(b:0<=m.count/\m.count<=2000000)(l: -1000<=size/\size<=1000000):WU.F (p1,f1,()) (m,q,left,size,()) (λy=>y=(Ia m q left size,())):=by
 dsimp only [WU,gm];simp (disch:=omega) only [RR,MRB];refine⟨λg=>by unfold Ia;rw [aV (λz=>by omega)],λg=> ?_⟩;refine au (λ(y:List Int×Int×Int×aG×Unit)=>y.1=q/\y.2.1=size/\1<=y.2.2.1/\(y.2.2.1<=size\/y.2.2.1=1)/\y.2.2.2.1=m/\∀k:Int,1<=k->k<y.2.2.1->m.count+k∉q) (λy=>(size-y.2.2.1).toNat) ⟨rfl,rfl,by simp,Or.inr rfl,rfl,λk n b=>absurd b (by simp;omega)⟩ ?_;rintro⟨(q:List Int),(s:Int),(k:Int),(m:aG),⟨⟩⟩ hI;dsimp only at hI ⊢;obtain⟨rfl,rfl,i,o,rfl,k3⟩:=hI;simp (disch:=omega) only [RR,h _ _ f];refine⟨λc=>⟨λe=> ?_,λe=> ?_⟩,λc=>by unfold Ia;rw [aL ⟨ah,ah,λj a d=>k3 j a ah⟩]⟩
 .unfold Ia;rw [aV (λz=>z.2.2 k i c (aH.1 e))]
 .refine⟨⟨ah,ah,λj a d=> ?_⟩,ah⟩;by_cases z:j<k
  .exact k3 j a z
  .rw [show j=k by omega];exact iE.1 e
def apz(b:List Int)(k:Int)(a:By b)(d:0<=k)(e:k+1<b.length)(h:b.length<1000000000):WK.F () (b,k,()) (λy=>y=(((b).getD (k).toNat default)*256+((b).getD (k+1).toNat default),())):=by
 have B:=λk:Nat=>a.at k
 have c:∀k:Nat,IntKind.i64.wrap (b.getD k default)=b.getD k default:=λk=>by have:=B k;exact w64 ah ah
 have g:=B k.toNat;have f:=B (k+1).toNat;dsimp only [WK,gm];simp (disch:=omega) only [RR,c];exact⟨d,ah,ah,e⟩
def evR(m:aG)(b:Blk)(o:IOp)(x y:Int):aG×Int×Bool:=
 if o.kind=7 then({m with outs:=m.outs++ [x]},0,false)
 else if o.kind=6 then({m with ins:=m.ins.drop 1},m.ins.getD 0 0,false)
 else if 64<=x then(lvS m b o.at_ 3,0,true)
 else if o.kind=4 then(m,((m.mem).getD (x).toNat default),false)
 else if b.pc+o.at_<x/\x<b.pc+b.len then(lvS {m with mem:=m.mem.set x.toNat y} b (o.at_+1) 0,0,true)
 else({m with mem:=m.mem.set x.toNat y},0,false)
abbrev apA(z : aG × Int × Bool) : Int × Int × Bool × Bool × Int × List Int × Int × Int × Bool × List Int × List Int × List Int × Unit := (z.1.pc, z.1.save, z.1.bG, z.1.waits, z.1.halt, z.1.ins, z.1.count, z.2.1, z.2.2, z.1.regs, z.1.mem, z.1.outs, ())
theorem apB{A:O4->Bool}{I:O4->fA}{E:Blk×ni->Bool}{G:Blk×ni->mQ}(F:∀(m:aG) (b:Blk) (n h:Int),0<=m.count/\m.count<=2000000->0<=n/\n<=1000-> -1000<=b.pc/\b.pc<=1000000->A (m.pc,m.save,m.bG,m.waits,m.halt,m.ins,m.count,b,n,h,m.regs,m.mem,m.outs,())=true/\I (m.pc,m.save,m.bG,m.waits,m.halt,m.ins,m.count,b,n,h,m.regs,m.mem,m.outs,())=mB (lvS m b n h))(C:∀(b:Blk) (a n:Int),0<=n/\n<=1000-> -1000<=b.pc/\b.pc<=1000000-> -1000<=b.len/\b.len<=1000000->E (b,a,n,())=true/\G (b,a,n,())=(decide (b.pc+n<a)&&decide (a<b.pc+b.len),()))(m:aG)(b:Blk)(o:IOp)(x y:Int)(hm:m.mem.length=64)(s:0<=x)(O:m.ins.length<1000000000)(R:m.outs.length<900000000)(S:0<=m.count/\m.count<=1000000)(Q:0<=o.at_/\o.at_<=100)(q: -1000<=b.pc/\b.pc<=1000000)(H: -1000<=b.len/\b.len<=1000000):WY.F (A,I,E,G,()) (m.pc,m.save,m.bG,m.waits,m.halt,m.ins,m.count,b,o,x,y,m.regs,m.mem,m.outs,()) (λz=>z=apA (evR m b o x y)):=by
 have r:=λc d k i j f u=>(F c d k i j f u).1
 have l:=λc d k i j f u=>(F c d k i j f u).2
 have v:=λc d k i j f=>(C c d k i j f).1
 have w:=λc d k i j f=>(C c d k i j f).2
 unfold mB at l;have K:=r m b o.at_ 3 ah ah q;have N:=l m b o.at_ 3 ah ah q;have M:=v b x o.at_ ah q H;have L:=w b x o.at_ ah q H;have D:=r {m with mem:=m.mem.set x.toNat y} b (o.at_+1) 0 (show 0<=m.count/\m.count<=2000000 by omega) ah q;have J:=l {m with mem:=m.mem.set x.toNat y} b (o.at_+1) 0 (show 0<=m.count/\m.count<=2000000 by omega) ah q;dsimp only at D J;dsimp only [WY,gm];simp (disch:=omega) only [RR,RB,K,N,M,L,D,J,hm,nX];unfold evR;have P:(default:Int)=0:=rfl;refine⟨λe=>⟨by simp only [length_cons,length_nil];omega,by rw [if_pos e]⟩,λp=>⟨λe=>⟨λg=>⟨ah,g,ah,ah,ah,?_⟩,λg=> ?_⟩,λt=>⟨λg=>by rw [if_neg p,if_neg t,if_pos g],λg=>⟨λe=>⟨s,ah,s,ah,by rw [if_neg p,if_neg t,if_neg g,if_pos e]⟩,λB=>⟨s,ah,s,ah,λe=>by rw [if_neg p,if_neg t,if_neg g,if_neg B,if_pos e],λe=> ?_⟩⟩⟩⟩⟩
 .rw [if_neg p,if_pos e,take_of_length_le ah];rfl
 .have n:m.ins=[]:=eq_nil_of_length_eq_zero ah;rw [if_neg p,if_pos e,n];rfl
 .rw [if_neg p,if_neg t,if_neg g,if_neg B,if_neg (λz=>by rw [decide_eq_true z.1,decide_eq_true z.2]at e;cases e)]
noncomputable def dF (mem:List Int):Nat->Int->List Ins
 | 0,_=> []
 | n+1,p=>if bp (p<64/\(Wo ((mem).getD (p).toNat default)/\bP (eH ((mem).getD (p).toNat default)))/\(eH ((mem).getD (p).toNat default)).op≠0)=true then(if bp (11<=(eH ((mem).getD (p).toNat default)).op/\(eH ((mem).getD (p).toNat default)).op<=13)=true then [eH ((mem).getD (p).toNat default)]else eH ((mem).getD (p).toNat default)::dF mem n (p+1))else []
noncomputable def findF (m:aG):List Ins:=if bp (MOK m)=true then dF m.mem 8 m.pc else []
def wP(mem:List Int):∀(n:Nat) (p:Int),(dF mem n p).length<=n/\(0< (dF mem n p).length->p+(dF mem n p).length<=64)/\
  ∀i:Nat,i< (dF mem n p).length->bP ((dF mem n p).getD i default)/\((dF mem n p).getD i default).op≠0/\(11<=((dF mem n p).getD i default).op/\((dF mem n p).getD i default).op<=13->i+1=(dF mem n p).length)
 | 0,_=>⟨Nat.le_refl _,λh=>absurd h (by simp [dF]),λi a=>absurd a (by simp [dF])⟩
 | n+1,p=>by
  obtain⟨l,j,d⟩:=wP mem n (p+1);unfold dF;split
  .rename_i g;obtain⟨m,⟨k,b⟩,c⟩:=aH.1 g;split
   .refine⟨by simp,λ_=>by simp;omega,λi a=> ?_⟩;have:i=0:=by simp at a;omega
    subst this;exact⟨b,c,λ_=>by simp⟩
   .rename_i e;have f:=iE.1 (by simpa using e);refine⟨by simp;omega,λ_=> ?_,λi a=> ?_⟩
    .by_cases z:0< (dF mem n (p+1)).length
     .have:=j z;simp;omega
     .simp;omega
    .cases i with
     | zero=>exact⟨b,c,λq=>absurd q f⟩
     | succ i=>
      have:=d i (by simpa using a);exact⟨this.1,this.2.1,λq=>by have:=this.2.2 q;simp;omega⟩
  .exact⟨by simp,λh=>absurd h (by simp),λi a=>absurd a (by simp)⟩
def qb(m:aG):(findF m).length<=8/\(0< (findF m).length->MOK m/\oC m.pc (findF m)):=by
 unfold findF;split
 .rename_i g;have ok:=aH.1 g;have d:0<=m.pc/\m.pc<=65535:=ok.pc;obtain⟨c,b,a⟩:=wP m.mem 8 m.pc;exact⟨c,λh=>⟨ok,⟨ah,ah⟩,⟨ah,by have:=b h;omega⟩,a⟩⟩
 .exact⟨by simp,λh=>absurd h (by simp)⟩
def aks{w:Int}(h:Wo w/\bP (eH w)):tkI w=((eH w).op,(eH w).d,(eH w).a,(eH w).k,true,()):=by unfold tkI;rw [if_pos (aL h)]
theorem apC{p1 f1 p2 f2 p3 f3}(v:afA p1 f1)(t:afI p2 f2)(A:XK p3 f3)(m:aG)(h:MSh m):Wt.F (p1,f1,p2,f2,p3,f3,()) (m,()) (λy=>y=(findF m,())):=by
 have p:=λa=>(v a).1
 have f:=λa=>(v a).2
 have k:=λa=>(t a).1
 have s:=λa=>(t a).2
 have r:=λa l=>(A a l).1
 have j:=λa l=>(A a l).2
 replace f:∀i:Int,f1 (i,())=(bp (11<=i/\i<=13),()):=λi=>by rw [f i,Prod.ext_iff];exact⟨by rw [Bool.eq_iff_iff,bD,aH],rfl⟩
 have C:∀x y z u:Int,Co.mk .ins (x,y,z,u,())=⟨x,y,z,u⟩:=λ_ _ _ _=>rfl
 dsimp only [Wt,gm,pF];simp (disch:=omega) only [RR,MRB,r _ h,j _ h];refine⟨λg=>by unfold findF;rw [g];rfl,λg=> ?_⟩;have ok:=aH.1 g;have H:0<=m.pc/\m.pc<=65535:=ok.pc;have F:=ok.m64;have E:findF m=dF m.mem 8 m.pc:=by unfold findF;rw [g,if_pos rfl]
 rw [E];generalize D:dF m.mem 8 m.pc=G;refine au (λ(y:Int×aG×avL)=>0<=y.1/\y.1<=8/\y.2.1=m/\y.2.2.1.length<=y.1/\y.2.2.1++dF m.mem (8-y.1).toNat (m.pc+y.1)=G) (λy=>(8-y.1).toNat) ⟨by simp,by simp,rfl,by simp,by simpa using D⟩ ?_;rintro⟨(i:Int),(m:aG),(o:List Ins),⟨⟩⟩ hI;dsimp only at hI ⊢;obtain⟨J,I,rfl,K,b⟩:=hI;simp (disch:=omega) only [RR,p,f,k,s,MRB,F,length_cons,length_nil,length_append,C];have w:IntKind.i64.wrap (m.pc+i)=m.pc+i:=w64 ah ah;refine⟨λc=> ?_,λc=> ?_⟩
 .obtain⟨n,hn⟩:∃n,(8-i).toNat=n+1:=⟨(8-i).toNat-1,ah⟩;rw [hn]at b;unfold dF at b;by_cases z:Wo ((m.mem).getD ((m.pc+i)).toNat default)/\bP (eH ((m.mem).getD ((m.pc+i)).toNat default))
  .rw [aks z];generalize hd:eH ((m.mem).getD ((m.pc+i)).toNat default)=d at*;have B:(⟨d.op,d.d,d.a,d.k⟩:Ins)=d:=rfl;dsimp only;rw [B];refine⟨ah,ah,λe=> ?_,λe=>⟨ah,λq=> ?_,λq=>⟨⟨ah,ah,ah,?_⟩,ah⟩⟩⟩
   .rw [if_neg (by rw [aV (λy=>y.2.2 (by simpa using e))];decide)]at b;rw [<-b,append_nil]
   .rw [if_pos (aL ⟨ah,z,by simpa using e⟩),if_pos q]at b;rw [<-b]
   .rw [if_pos (aL ⟨ah,z,by simpa using e⟩),if_neg (by rw [q];decide)]at b;rw [show(8- (i+1)).toNat=n by omega,<-b,append_assoc,show m.pc+(i+1)=m.pc+i+1 by omega];rfl
  .have tf:(tkI ((m.mem).getD ((m.pc+i)).toNat default)).2.2.2.2.1=false:=by unfold tkI;rw [if_neg (by rw [aV z];decide)]
   rw [if_neg (by rw [aV (λy=>z y.2.1)];decide),append_nil]at b;rw [tf];refine⟨ah,ah,λ_=>by rw [<-b],λe=>by simp at e⟩
 .have:o=G:=by
   rw [<-b];by_cases z:i<8
   .obtain⟨n,hn⟩:∃n,(8-i).toNat=n+1:=⟨(8-i).toNat-1,ah⟩;rw [hn];unfold dF;have c:=Bool.and_eq_false_iff.1 c;rw [decide_eq_false_iff_not,decide_eq_false_iff_not]at c;rw [if_neg (by rw [aV (λy=>by have:=y.1;omega)];decide),append_nil]
   .rw [show(8-i).toNat=0 by omega];unfold dF;rw [append_nil]
  rw [this]
variable{l:List Int}{b:Blk}{a:Ask}{cs:List Cer}
def ajC{n i:Nat}(h:i<n):(yX l n).getD i default=rdO l (7+6*i):=by
 rw [getD_lt (by unfold yX;rw [length_map,length_range];exact h)];simp [yX]
def apD(s:By l)(w:7<=l.length)(v:(l.length-7)%6=0):M7 (rdB l)=l:=by
 have B:=λk:Nat=>s.at k
 have f:(rdB l).ops.length=(l.length-7)/6:=by show(yX l _).length=_;unfold yX;rw [length_map,length_range]
 have a:∀n,n<l.length->(M7 (rdB l)).getD n default=l.getD n default:=λn hn=>by
  by_cases c:n<7
  .have o:=B 0;have g:=B 1;have q:=B 2;have t:=B 3;have p:=B 4;have m:=B 5;have u:=B 6;have e:n=0\/n=1\/n=2\/n=3\/n=4\/n=5\/n=6:=by omega
   rcases e with rfl | rfl | rfl | rfl | rfl | rfl | rfl
   .show l.getD 0 default%256=_;omega
   .show l.getD 1 default%256=_;omega
   .show l.getD 2 default%256=_;omega
   .show l.getD 3 default%256=_;omega
   .show l.getD 4 default%256=_;omega
   .show(l.getD 5 default*256+l.getD 6 default)/256%256=_;omega
   .show(l.getD 5 default*256+l.getD 6 default)%256=_;omega
  .obtain⟨i,j,hj,rfl⟩:∃i j,j<6/\n=7+6*i+j:=⟨(n-7)/6,(n-7)%6,ah,ah⟩;have b:i< (l.length-7)/6:=by omega
   rw [aov _ i j (by rw [f];exact b) hj];have h:(rdB l).ops.getD i default=rdO l (7+6*i):=ajC b;rw [h];have o:=B (7+6*i);have g:=B (7+6*i+1);have q:=B (7+6*i+2);have t:=B (7+6*i+3);have p:=B (7+6*i+4);have m:=B (7+6*i+5);have e:j=0\/j=1\/j=2\/j=3\/j=4\/j=5:=by omega
   rcases e with rfl | rfl | rfl | rfl | rfl | rfl
   .show l.getD (7+6*i) default%256=l.getD (7+6*i) default;omega
   .show l.getD (7+6*i+1) default%256=_;omega
   .show l.getD (7+6*i+2) default%256=_;omega
   .show(l.getD (7+6*i+3) default*256+l.getD (7+6*i+4) default)/256%256=_;omega
   .show(l.getD (7+6*i+3) default*256+l.getD (7+6*i+4) default)%256=_;omega
   .show l.getD (7+6*i+5) default%256=_;omega
 refine ext_getElem (by rw [afu,f];omega) λn r d=> ?_
 have:=a n d
 rwa [getD_lt r,getD_lt d]at this
def Qc(d:By l):ajq l↔(7<=l.length/\(l.length-7)%6=0/\l.length<=295)/\bR (rdB l):=by
 refine⟨λ⟨a,b⟩=>⟨a,?_⟩,λ⟨a,b⟩=>⟨a,?_⟩⟩
 .by_cases c:bR (rdB l)
  .exact c
  .unfold irB at b;rw [if_neg (by rw [aV c];decide)]at b;have:=a.1;rw [<-b]at this;simp at this
 .unfold irB;rw [if_pos (aL b)];exact apD d a.1 a.2.1
theorem apE{p1 f1}{o:l7->Bool}{u:l7->dY}(J:Y60 p1 f1)(i:∀b k,By b->0<=k->k+1< (b.length:Int)->b.length<1000000000->o (b,k,())=true/\u (b,k,())=(((b).getD (k).toNat default)*256+((b).getD (k+1).toNat default),()))(l:List Int)(d:By l)(a:l.length<1000000000):WL.F (p1,f1,o,u,()) (l,()) (λy=>y=rdF l):=by
 have B:=λk:Nat=>d.at k
 have c:∀k:Nat,IntKind.i64.wrap (l.getD k default)=l.getD k default:=λk=>by have:=B k;exact w64 ah ah
 have no:¬ajq l->rdF l=(0,0,0,0,0,0,false,[],()):=λh=>by unfold rdF;rw [if_neg (by rw [aV h];decide)]
 have p:7<=l.length->((l.length:Int)-7).tmod 6=((l.length-7)%6:Nat):=λh=>by
  rw [Int.tmod_eq_emod_of_nonneg ah];omega
 dsimp only [WL,gm,mJ];simp (disch:=omega) only [RR,c];refine⟨Or.inr (by decide),λh=> ?_,λg=> ?_⟩
 .rw [no];rintro⟨⟨D,q,N⟩,_⟩;rw [p D]at h;omega
 obtain⟨⟨D,q⟩,N⟩:=g;have C:7<=l.length:=by omega
 rw [p C]at q;have M:(l.length-7)%6=0:=by omega
 have ave:l.length<=295:=by omega
 refine⟨ah,ah,ah,ah,ah,ah,ah,ah,ah,ah,(i l 5 d ah ah a).1,?_⟩;rw [(i l 5 d ah ah a).2];refine au (λ(y:List Int×Int×oz)=>y.1=l/\(∃j:Nat,y.2.1=7+6*j/\7+6*j<=l.length/\y.2.2.2.2.2.2.2.2.2.2.2.2.2.2.1=yX l j)/\y.2.2.2.2.2.2.2.2.1=l.getD 0 default/\y.2.2.2.2.2.2.2.2.2.1=l.getD 1 default/\y.2.2.2.2.2.2.2.2.2.2.1=l.getD 2 default/\y.2.2.2.2.2.2.2.2.2.2.2.1=l.getD 3 default/\y.2.2.2.2.2.2.2.2.2.2.2.2.1=l.getD 4 default/\y.2.2.2.2.2.2.2.2.2.2.2.2.2.1=l.getD 5 default*256+l.getD 6 default) (λy=>(l.length-y.2.1).toNat) ⟨rfl,⟨0,rfl,ah,rfl⟩,rfl,rfl,rfl,rfl,rfl,rfl⟩ ?_;rintro⟨(l:List Int),(K:Int),(Q:Int),(R:Int),(U:Int),(S:Int),(V:Int),(T:Int),(P:Int),(len:Int),(fin:Int),(x:Int),(y:Int),(k:Int),(G:List IOp),⟨⟩⟩ hI;dsimp only at hI ⊢;obtain⟨rfl,⟨j,rfl,O,rfl⟩,rfl,rfl,rfl,rfl,rfl,rfl⟩:=hI;have W:(yX l j).length=j:=by unfold yX;rw [length_map,length_range]
 by_cases h:7+6*(j:Int)<l.length
 .have w:IntKind.i64.wrap (7+6*(j:Int)+3)=7+6*(j:Int)+3:=w64 ah ah;obtain⟨L,H⟩:=i l (7+6*(j:Int)+3) d ah ah a;have E:∀x:IOp,([x].length:Int)=1:=λ_=>rfl
  simp (disch:=omega) only [RR,h,c,L,H,E];have I:yX l (j+1)=yX l j++ [rdO l (7+6*j)]:=by unfold yX;rw [range_succ,map_append];rfl
  repeat' apply And.intro
  all_goals first | omega | exact⟨j+1,ah,ah,by rw [I];rfl⟩
 .have e:7+6*j=l.length:=by omega
  have f:(⟨l.getD 0 default,l.getD 1 default,yX l j,l.getD 2 default,l.getD 3 default,l.getD 4 default,l.getD 5 default*256+l.getD 6 default⟩:Blk)=rdB l:=by
   unfold rdB;rw [show(l.length-7)/6=j by omega]
  have mE:∀(v A:Int) (r:List IOp) (n s t m:Int),Co.mk .blk (v,A,r,n,s,t,m,())=⟨v,A,r,n,s,t,m⟩:=λ_ _ _ _ _ _ _=>rfl
  have F:(rdB l).ops.length<1000000000:=by
   rw [<-f];show(yX l j).length<_;omega
  simp (disch:=omega) only [RR,h,mE,f,J _ F];refine⟨λg=> ?_,λg=> ?_⟩
  .rw [no];intro z;rw [aL ((Qc d).1 z).2]at g;cases g
  .unfold rdF;rw [if_pos (aL ((Qc d).2 ⟨⟨C,M,ave⟩,aH.1 g⟩)),<-f]
noncomputable def mdF (b:Blk) (a:Ask):Blk×Bool:=if a.own=true then(kV b,true)else if bp (ajq a.bytes)=true then(rdB a.bytes,true)else(Xw,false)
theorem apF{p1 f1 p2 f2}(f:au1 p1 f1)(k:Y81 p2 f2)(b:Blk)(a:Ask)(h:b.ops.length<1000000)(e:By a.bytes)(d:a.bytes.length<1000000000):WM.F (p1,f1,p2,f2,()) (b,a,()) (λy=>y=((mdF b a).1,(mdF b a).2,())):=by
 have mE:∀c:Blk,Co.mk .blk (c.pc,c.len,c.ops,c.fin,c.x,c.y,c.k,())=c:=λ_=>rfl
 have i:∀a:Ask,LH .ask 0 a=a.own/\jy .ask 1 .u8 a=a.bytes:=λ_=>⟨rfl,rfl⟩
 have j:=(f a.bytes e d).2;dsimp only [WM,gm,mJ];simp (disch:=omega) only [RR,i,mE,(f _ e d).1,k _ h];unfold mdF;refine⟨λg=>by rw [g];rfl,λg=> ?_⟩;rw [g,if_neg (by decide),j];unfold rdF;split<;>rfl
def afN(h:b.ops.length<1000000)(c:a.bytes.length<1000000000):(mdF b a).1.ops.length<1000000:=by
 have L:=Dc b;unfold mdF;split
 .dsimp only;omega
 split
 .rename_i g;have:=(aH.1 g).1;show(yX _ _).length<_;unfold yX;rw [length_map,length_range];omega
 .decide
noncomputable def lQ (cs:List Cer) (b:Blk) (a:Ask):Blk×List Cer:=
 if(mdF b a).2=false then(b,cs)else if bp (afr cs b (mdF b a).1)=true then((mdF b a).1,cs)else if chk b (mdF b a).1=true then((mdF b a).1,M6 cs ⟨b,(mdF b a).1⟩)else(b,cs)
def ajD{l:List Cer}{q:Cer}(h:ShC l)(b:q.base.ops.length<1000000)(a:q.made.ops.length<1000000):ShC (M6 l q):=by
 unfold M6;have:=h.1;refine⟨by rw [length_drop,length_append,length_singleton];omega,λc hc=> ?_⟩;have:=mem_of_mem_drop hc;rw [mem_append,mem_singleton]at this;rcases this with g | rfl
 .exact h.2 c g
 .exact⟨b,a⟩
def apG{p1 f1 p2 f2 p3 f3}{m:Blk×Ask×Unit->Bool}{l:Blk×Ask×Unit->Blk×mQ}(r:auT p1 f1)(p:auZ p2 f2)(s:Y96 p3 f3)(n:∀b a,b.ops.length<1000000->By a.bytes->a.bytes.length<1000000000->m (b,a,())=true/\l (b,a,())=((mdF b a).1,(mdF b a).2,()))(e:Eng)(b:Blk)(a:Ask)(h:ShC e.aX)(c:b.ops.length<1000000)(j:By a.bytes)(i:a.bytes.length<1000000000):WR.F (p1,f1,p2,f2,p3,f3,m,l,()) (e.ay.regs,e.ay.pc,e.ay.mem,e.ay.save,e.ay.bG,e.ay.waits,e.ay.halt,e.ay.ins,e.ay.outs,e.ay.count,e.cache,b,a,e.aX,()) (λy=>y=(e.ay.regs,e.ay.pc,e.ay.mem,e.ay.save,e.ay.bG,e.ay.waits,e.ay.halt,e.ay.ins,e.ay.outs,e.ay.count,e.cache,(lQ e.aX b a).1,(lQ e.aX b a).2,())):=by
 have M:=afN (a:=a) c i;have u:=(n b a c j i).2;unfold lQ;generalize hm:mdF b a=d at*;obtain⟨q,w⟩:=s b d.1 ah ah;obtain⟨o,v⟩:=r _ b d.1 h;obtain⟨t,f⟩:=p e.aX ⟨b,d.1⟩ h c M;have f:(f2 (e.aX,⟨b,d.1⟩,())).1=M6 e.aX ⟨b,d.1⟩:=by rw [f]
 dsimp only [WR,gm,mJ,pF];simp (disch:=omega) only [RR,RB,(n b a c j i).1,u,o,v,q,w];refine⟨λg=>by rw [if_pos g],λg=>⟨λk=>by rw [if_neg (by rw [g];decide),if_pos k],λk=>⟨λz=>by rw [if_neg (by rw [g];decide),if_neg (by rw [k];decide),if_neg (by rw [z];decide)],λz=>⟨t,by
  rw [if_neg (by rw [g];decide),if_neg (by rw [k];decide),if_pos z];show(_,_,_,_,_,_,_,_,_,_,_,_,(f2 (e.aX,⟨b,d.1⟩,())).1,())=_;rw [f]⟩⟩⟩⟩
def aae(h:ShC cs)(c:b.ops.length<1000000)(d:a.bytes.length<1000000000):(lQ cs b a).1.ops.length<1000000/\ShC (lQ cs b a).2:=by
 have M:=afN (a:=a) c d;unfold lQ;split
 .exact⟨c,h⟩
 split
 .exact⟨M,h⟩
 split
 .exact⟨M,ajD h c M⟩
 .exact⟨c,h⟩
def afO(a:Int)(l:List Ins):(lower a l).pc<=1000000:=by
 by_cases h:oC a l
 .have:=(kW h).pc;have:=(kW h).ln;omega
 .unfold lower;rw [if_neg (by rw [aV h];decide)];decide
def ajE(h:uS cs):(lQ cs b a).1=b\/chk b (lQ cs b a).1=true:=by
 unfold lQ;split
 .exact Or.inl rfl
 split
 .rename_i g;obtain⟨q,e,d,c⟩:=aH.1 g;refine Or.inr ?_;have:=h.2 q e;rw [d,c]at this;exact this
 split
 .rename_i g;exact Or.inr g
 .exact Or.inl rfl
def Ng{l:List Cac}{e:Cac}(h:ShK l)(b:e.words.length<1000)(a:e.blk.ops.length<1000000)(d:e.blk.pc<=1000000):ShK (kD l e)/\0< (kD l e).length:=by
 unfold kD;have f:=length_filter_le (neP e.blk.pc) l;refine⟨⟨by rw [length_drop,length_append,length_singleton];omega,λc hc=> ?_⟩,by rw [length_drop,length_append,length_singleton];omega⟩;have:=mem_of_mem_drop hc;rw [mem_append,mem_singleton]at this;rcases this with g | rfl
 .exact h.2 c (mem_filter.1 g).1
 .exact⟨b,a,d⟩
def fcI(l:List Cac)(a:Int):Int:=match l.findIdx? (λx=>decide (x.blk.pc=a))with | some i=>i | none=> -1
def XP(l:List Cac)(a:Int):FC l a (fcI l a):=by
 unfold fcI;split
 .rename_i i h;obtain⟨d,c,e⟩:=List.findIdx?_eq_some_iff_getElem.1 h;refine Or.inr ⟨ah,ah,?_,λj b f=> ?_⟩
  .rw [Int.toNat_natCast,getD_lt d];simpa using c
  .rw [getD_lt ah];simpa using e j.toNat ah
 .rename_i h;rw [findIdx?_eq_none_iff]at h;refine Or.inl ⟨rfl,λj b f=> ?_⟩;rw [getD_lt ah];simpa using h _ (getElem_mem ah)
noncomputable def dG (e:Eng) (a:Ask):Eng×Int×Bool:=
 if 0<=fcI e.cache e.ay.pc then(e,fcI e.cache e.ay.pc,false)else if(findF e.ay).length=0 then(e, -1,false)else
  (⟨e.ay,kD e.cache ⟨(findF e.ay).map gH,(lQ e.aX (lower e.ay.pc (findF e.ay)) a).1⟩,(lQ e.aX (lower e.ay.pc (findF e.ay)) a).2⟩,((kD e.cache ⟨(findF e.ay).map gH,(lQ e.aX (lower e.ay.pc (findF e.ay)) a).1⟩).length:Int)-1,true)
abbrev apH(b : aG × Unit -> Bool)(a : aG × Unit -> List Ins × Unit) : Prop := ∀ m, MSh m -> b (m, ()) = true /\ a (m, ()) = (findF m, ())
abbrev avf(b : List Cac × Cac × Unit -> Bool)(a : List Cac × Cac × Unit -> List Cac × Unit) : Prop := ∀ l e, ShK l -> e.words.length < 1000 -> e.blk.ops.length < 1000000 -> b (l, e, ()) = true /\ a (l, e, ()) = (kD l e, ())
theorem apI{p1 f1 p2 f2 p3 f3 p4 f4 p5 f5}{J:sw->Bool}{T:sw->List Int×Int×List Int×Int×Bool×Bool×Int×List Int×List Int×Int×List Cac×Blk×List Cer×Unit}(N:apH p1 f1)(K:ajz p2 f2)(O:ao7 p3 f3)(S:atz p4 f4)(Q:avf p5 f5)(P:∀(e:Eng) (b:Blk) (a:Ask),ShC e.aX->b.ops.length<1000000->By a.bytes->a.bytes.length<1000000000->J (e.ay.regs,e.ay.pc,e.ay.mem,e.ay.save,e.ay.bG,e.ay.waits,e.ay.halt,e.ay.ins,e.ay.outs,e.ay.count,e.cache,b,a,e.aX,())=true/\T (e.ay.regs,e.ay.pc,e.ay.mem,e.ay.save,e.ay.bG,e.ay.waits,e.ay.halt,e.ay.ins,e.ay.outs,e.ay.count,e.cache,b,a,e.aX,())=(e.ay.regs,e.ay.pc,e.ay.mem,e.ay.save,e.ay.bG,e.ay.waits,e.ay.halt,e.ay.ins,e.ay.outs,e.ay.count,e.cache,(lQ e.aX b a).1,(lQ e.aX b a).2,()))(e:Eng)(a:Ask)(R:MSh e.ay)(t:ShK e.cache)(p:ShC e.aX)(M:By a.bytes)(H:a.bytes.length<1000000000):WT.F (p1,f1,p2,f2,p3,f3,p4,f4,p5,f5,J,T,()) (e.ay.regs,e.ay.pc,e.ay.mem,e.ay.save,e.ay.bG,e.ay.waits,e.ay.halt,e.ay.ins,e.ay.outs,e.ay.count,e.cache,a,e.aX,()) (λy=>y=((dG e a).1.ay.regs,(dG e a).1.ay.pc,(dG e a).1.ay.mem,(dG e a).1.ay.save,(dG e a).1.ay.bG,(dG e a).1.ay.waits,(dG e a).1.ay.halt,(dG e a).1.ay.ins,(dG e a).1.ay.outs,(dG e a).1.ay.count,(dG e a).1.cache,(dG e a).2.1,(dG e a).2.2,(dG e a).1.aX,())):=by
 have u:=λd f=>(N d f).1
 have I:=λd f=>(N d f).2
 have q:=λd f h=>(K d f h).1
 have E:=λd f h=>(K d f h).2
 have x:=λd f=>(O d f).1
 have o:=λd f=>(O d f).2
 have C:=λd f h=>(S d f h).1
 have r:=λd f h=>(S d f h).2
 have G:=λd f h i j=>(Q d f h i j).1
 have F:=λd f h i j=>(Q d f h i j).2
 have w:=λd f h i j v m=>(P d f h i j v m).1
 have D:=λd f h i j v m=>(P d f h i j v m).2
 have mM:=MKM;have mE:∀c:Blk,Co.mk .blk (c.pc,c.len,c.ops,c.fin,c.x,c.y,c.k,())=c:=λ_=>rfl
 have l2:=t.1;have Y:=C e.cache e.ay.pc ah;have H4:(f4 (e.cache,e.ay.pc,())).1=fcI e.cache e.ay.pc:=FC.one (r e.cache e.ay.pc ah) (XP _ _);have B:=qb e.ay;have U:=u _ R;have H1:=I _ R;unfold dG;generalize fcI e.cache e.ay.pc=k at*;generalize findF e.ay=l at*;have P2:=q e.ay.pc l ah;have s:=E e.ay.pc l ah;have lw:((lower e.ay.pc l).ops.length:Int)<=5000:=by have:=Nb s;rw [s]at this;exact this
 generalize lower e.ay.pc l=b at*;have X:=w e b a p ah M H;have V:=D e b a p ah M H;have A:=aae (a:=a) p (show b.ops.length<1000000 by omega) H;generalize lQ e.aX b a=z at*;have W:=x l ah;have H3:=o l ah;have L:(l.map gH).length<1000:=by rw [length_map];omega
 have P5:=G e.cache ⟨l.map gH,z.1⟩ t L A.1;have Z:=F e.cache ⟨l.map gH,z.1⟩ t L A.1;have kl:(kD e.cache ⟨l.map gH,z.1⟩).length<=e.cache.length+1:=by
  unfold kD;have fl:=length_filter_le (neP z.1.pc) e.cache;rw [length_drop,length_append,length_singleton];dsimp only;omega
 have mK:Co.mk .cac (l.map gH,z.1.pc,z.1.len,z.1.ops,z.1.fin,z.1.x,z.1.y,z.1.k,())=(⟨l.map gH,z.1⟩:Cac):=rfl;dsimp only [WT,gm,mJ,pF]at*;simp (disch:=omega) only [RR,RB,mM,Y,H4,U,H1,P2,s,mE,X,V,W,H3,mK,P5,Z];refine⟨λn=>by rw [if_pos n],λn=>⟨λg=>by rw [if_neg ah,if_pos ah],λg=> ?_⟩⟩;rw [if_neg ah,if_neg ah]
end Go.TX.F
namespace Go.TX.F
open Go Go.AE Go.TX List
theorem apJ(n:Int)(b:List Int)(a:0<=n)(e:n<=1000000)(d:b.length<1000000000):Xg.F () (n,b,()) (λy=>y=(b++ [n/256%256,n%256],())):=by
 have c:∀x:Int,Co.mk .u8 (x,())=x:=λ_=>rfl
 dsimp only [Xg,gm];simp (disch:=omega) only [RR,c,u8w];rw [Int.tmod_eq_emod_of_nonneg a,Int.tdiv_eq_ediv_of_nonneg a,w64 ah ah,Int.emod_emod];exact⟨by decide,by decide,by simp only [length_cons,length_nil];omega,rfl⟩
def avg{b:Blk}(h:bR b):0<=b.k/\b.k<=1000000:=by
 have:=h.en.k1;have:=h.en.k0;omega
def opk{a:List IOp}{n i:Int}{o:IOp}(h:nD a n i o):0<=o.k/\o.k<=1000000:=by
 have:=h.kd;have:=h.k1;have:=h.k2;have:=h.k3;have:=h.k0;omega
theorem apK{p1 f1}{j:Int×bf->Bool}{k:Int×bf->bf}(o:Y60 p1 f1)(a:∀n b,0<=n->n<=1000000->b.length<1000000000->j (n,b,())=true/\k (n,b,())=(b++ [n/256%256,n%256],()))(b:Blk)(m:b.ops.length<1000000000):Xh.F (p1,f1,j,k,()) (b,()) (λy=>y=(irB b,())):=by
 have p:∀x:Int,Co.mk .u8 (x,())=x:=λ_=>rfl
 dsimp only [Xh,gm];simp (disch:=omega) only [RR,RB,o b m,p,u8w];refine⟨λh=>by unfold irB;rw [h];rfl,λh=> ?_⟩;have ok:=aH.1 h;have q:=ok.sz;have d:=avg ok;rw [(a _ _ d.1 d.2 (by simp only [length_cons,length_nil];omega)).1,(a _ _ d.1 d.2 (by simp only [length_cons,length_nil];omega)).2];refine⟨rfl,?_⟩;refine au (λ(y:Int×Blk×bf)=>y.2.1=b/\0<=y.1/\y.1<=b.ops.length/\y.2.2.1=[b.pc%256,b.len%256,b.fin%256,b.x%256,b.y%256,b.k/256%256,b.k%256]++(b.ops.take y.1.toNat).flatMap opB) (λy=>(b.ops.length-y.1).toNat) ⟨rfl,by simp,by simp,by simp⟩ ?_;rintro⟨(i:Int),(c:Blk),(f:List Int),⟨⟩⟩ hI;dsimp only at hI ⊢;obtain⟨rfl,l,r,e⟩:=hI;have al:f.length<=1000:=by
  rw [e,length_append,BD];have:=length_take_le' i.toNat c.ops;simp only [length_cons,length_nil];omega
 refine⟨λg=> ?_,λg=> ?_⟩
 .have ko:=opk (ok.op i l g);rw [(a _ _ ko.1 ko.2 (by simp only [length_append,length_cons,length_nil];omega)).1,(a _ _ ko.1 ko.2 (by simp only [length_append,length_cons,length_nil];omega)).2];simp (disch:=omega) only [RR,length_append,length_cons,length_nil];refine⟨l,g,ah,ah,⟨ah,ah,?_⟩,ah⟩;rw [e,show(i+1).toNat=i.toNat+1 by omega,take_succ_eq_append_getElem ah,flatMap_append,getD_lt (show i.toNat<c.ops.length by omega)];simp only [append_assoc];rfl
 .rw [e,take_of_length_le ah];unfold irB;rw [h];rfl
structure TuD(b l:List Int)(p:Int)(y:qj):Prop where
 b:y.1=b
 p:p<=y.2.1/\y.2.1<=p+20
 l:By y.2.2.1/\y.2.2.1.length<=l.length+1
theorem apL{p1 f1}(d:Y38 p1 f1)(l:List Int)(b:List Int)(p:Int)(i:By l)(h:l.length<100000000)(c:Bt b)(f:0<=p)(o:p<900000000):Xj.F (p1,f1,()) (l,b,p,()) (λy=>TuD b l p y):=by
 have w:∀x:Int,Co.mk .u8 (x,())=x:=λ_=>rfl
 dsimp only [Xj,gm];have R:=pkS c d;have P:=λn p f o=>(d n b p c f o).1
 have s:=(d 256 b p c f ah).2;have e:=(d 256 b (p+1) c ah ah).2;simp (disch:=omega) only [RR,w,u8w,R,P];have B:=s.2.2;have E:=e.2.2;generalize (f1 (256,b,p,())).1=u at*;generalize (f1 (256,b,p+1,())).1=v at*;have t:IntKind.i64.wrap (u*256)=u*256:=w64 ah ah;have z:IntKind.i64.wrap (u*256+v)=u*256+v:=w64 ah ah;rw [t,z];refine⟨λ_=>⟨rfl,⟨by dsimp only;omega,by dsimp only;omega⟩,λx a=> ?_,by simp⟩,λn=>⟨n,?_⟩⟩
 .dsimp only at a;rw [mem_singleton]at a;omega
 have A:0<=(u*256+v).tmod l.length:=Int.tmod_nonneg _ ah;have D:(u*256+v).tmod l.length<l.length:=Int.tmod_lt_of_pos _ ah;generalize (u*256+v).tmod l.length=k at*;have m:∀x∈l.take k.toNat,0<=x/\x<=255:=λx a=>i x (mem_of_mem_take a)
 have r:IntKind.i64.wrap (k+1)=k+1:=w64 ah ah;rw [r];simp only [length_append,length_drop,length_take,length_nil,length_cons,Int.toNat_zero,drop_zero,nil_append,Int.toNat_natCast,take_length];have q:∀j,∀x∈l.drop j,0<=x/\x<=255:=λj x a=>i x (mem_of_mem_drop a)
 have C:=((d 2 b (p+1+1+1+1+1) c ah ah).2).2.2;refine⟨λ_=>⟨ah,ah,ah,ah,ah,ah,ah,ah,ah,⟨rfl,⟨by dsimp only;omega,by dsimp only;omega⟩,λx a=> ?_,?_⟩⟩,λ_=>⟨λ_=>⟨ah,ah,ah,ah,ah,ah,ah,ah,ah,ah,⟨rfl,⟨by dsimp only;omega,by dsimp only;omega⟩,λx a=> ?_,?_⟩⟩,λ_=>⟨ah,ah,ah,ah,ah,ah,ah,⟨rfl,⟨by dsimp only;omega,by dsimp only;omega⟩,λx a=> ?_,?_⟩⟩⟩⟩
 .rcases mem_append.1 a with g | g
  .exact m x g
  .exact q _ x g
 .dsimp only;rw [length_append,length_take,length_drop];omega
 .rcases mem_append.1 a with g | g
  .rcases mem_append.1 g with g | g
   .exact m x g
   .rw [mem_singleton]at g;omega
  .exact q _ x g
 .dsimp only;rw [length_append,length_append,length_take,length_drop,length_singleton];omega
 .rcases mem_or_eq_of_mem_set a with g | g
  .exact i x g
  .omega
 .dsimp only;rw [length_set];omega
structure AsD(b:List Int)(p:Int)(y:Bool×qj):Prop where
 b:y.2.1=b
 p:p<=y.2.2.1/\y.2.2.1<=p+2000000
 l:By y.2.2.2.1/\y.2.2.2.1.length<200000000
def ET{b:Blk}(h:b.ops.length<=1000000):(irB b).length<100000000:=by
 unfold irB;split
 .unfold M7;rw [length_append,BD];simp only [length_cons,length_nil];omega
 .simp
theorem apM{p1 f1 p2 f2 p3 f3 p4 f4 p5 f5 p6 f6 p7 f7 p8 f8}{v:List Int×l7->Bool}{s:List Int×l7->qj}(U:apH p1 f1)(L:ajz p2 f2)(f:au0 p3 f3)(Z:Y81 p4 f4)(F:Y38 p5 f5)(i:Y83 p6 f6)(u:Y84 p7 f7)(A:Y86 p8 f8)(o:∀l b p,By l->l.length<100000000->Bt b->0<=p->p<900000000->v (l,b,p,())=true/\TuD b l p (s (l,b,p,())))(m:aG)(b:List Int)(p:Int)(h:MSh m)(a:Bt b)(G:0<=p)(w:p<500000000):ME.F (p1,f1,p2,f2,p3,f3,p4,f4,p5,f5,p6,f6,p7,f7,p8,f8,v,s,()) (m,b,p,()) (λ(y:Bool×qj)=>AsD b p y):=by
 have E:∀x:Int,Co.mk .u8 (x,())=x:=λ_=>rfl
 have mE:∀c:Blk,Co.mk .blk (c.pc,c.len,c.ops,c.fin,c.x,c.y,c.k,())=c:=λ_=>rfl
 have R:=pkS a F;have P:=λn p G w=>(F n b p a G w).1
 obtain⟨r,t⟩:=U m h;have B:=qb m;have no:AsD b p (true,b,p+1,[],()):=⟨rfl,⟨by dsimp only;omega,by dsimp only;omega⟩,λx j=>(by cases j),by simp⟩;generalize findF m=l at*;by_cases n:0<l.length
 .have ir:=kW (B.2 n).2;have sz:=ir.sz;obtain⟨X,Q⟩:=L m.pc l ah;generalize lower m.pc l=c at*;obtain⟨S,Y⟩:=Z c ah;have k:=(K6 ir).oc;have J:=k.sz;generalize kV c=d at*;dsimp only [ME,gm,pF,mJ];simp (disch:=omega) only [RR,E,u8w,MRB,R,P,r,t,X,Q,mE,S,Y];have W:∀(z:avM) (M:Int) (N:Nat) (q:Int),BkD M N b q z->N<=1000000->M<=1000000->p<=q->q<=p+2->p3 (Co.mk .blk (z.1,z.2.1,z.2.2.2.2.2.2.2.2.1,z.2.2.1,z.2.2.2.1,z.2.2.2.2.1,z.2.2.2.2.2.1,()),())=true/\AsD b p (false,z.2.2.2.2.2.2.1,z.2.2.2.2.2.2.2.1,(f3 (Co.mk .blk (z.1,z.2.1,z.2.2.2.2.2.2.2.2.1,z.2.2.1,z.2.2.2.1,z.2.2.2.2.1,z.2.2.2.2.2.1,()),())).1,()):=by
   intro z M N q D a1 a2 a3 a4;have d1:=D.len;have d2:=D.lo;have C:=D.hi;have K:z.2.2.2.2.2.2.2.2.1.length<1000000000:=by omega
   have e:=(f (Co.mk .blk (z.1,z.2.1,z.2.2.2.2.2.2.2.2.1,z.2.2.1,z.2.2.2.1,z.2.2.2.2.1,z.2.2.2.2.2.1,())) K).2;refine⟨(f _ K).1,D.b,⟨by dsimp only;omega,by dsimp only;omega⟩,?_⟩;dsimp only;rw [e];exact⟨M8 _,Nat.lt_of_lt_of_le (ET (show z.2.2.2.2.2.2.2.2.1.length<=1000000 by omega)) (by decide)⟩
  obtain⟨H,k3⟩:=f c ah;obtain⟨C,I⟩:=f d ah;have T:=(o (irB c) b (p+1+1) (M8 c) (ET ah) a ah ah).2;rw [k3,I];have V:=ET (b:=c) ah;have T1:=T.p;have O:=T.l;refine⟨λ_=>no,λ_=>⟨λ_=>⟨(A d b _ k ah a ah ah).1,W _ _ _ _ ((A d b (p+1+1) k ah a ah ah).2) ah ah ah ah⟩,λ_=>⟨λ_=>⟨(i c b _ ah a ah ah).1,W _ _ _ _ ((i c b (p+1+1) ah a ah ah).2).1 ah ah ah ah⟩,λ_=>⟨λ_=>⟨(i d b _ ah a ah ah).1,W _ _ _ _ ((i d b (p+1+1) ah a ah ah).2).1 ah ah ah ah⟩,λ_=>⟨λ_=>⟨H,(o _ b _ (M8 c) V a ah ah).1,T.b,⟨by dsimp only;omega,by dsimp only;omega⟩,O.1,by dsimp only;omega⟩,λ_=>⟨λ_=>⟨(u b _ a ah ah).1,W _ _ _ _ ((u b (p+1+1) a ah ah).2) ah ah ah ah⟩,λ_=>⟨λ_=>⟨rfl,⟨by dsimp only;omega,by dsimp only;omega⟩,λx j=> ?_,by simp⟩,λ_=>⟨C,rfl,⟨by dsimp only;omega,by dsimp only;omega⟩,M8 d,Nat.lt_of_lt_of_le (ET ah) (by decide)⟩⟩⟩⟩⟩⟩⟩⟩;dsimp only at j;rw [mem_singleton]at j;omega
 .dsimp only [ME,gm,pF,mJ];simp (disch:=omega) only [RR,E,u8w,MRB,R,P,r,t];exact⟨λ_=>no,λg=>absurd (Int.natCast_eq_zero.2 ah) g.2⟩
structure SJ(b:Blk)(m0:aG)(i:Nat)(S:MS):Prop where
 r:RJ b m0 i S
 p:S.m.pc=m0.pc
 h:S.m.halt=m0.halt
 c:S.m.count=m0.count
abbrev yS(b : Blk)(i : Int)(S : MS) : Int × Blk × Int × Int × Bool × Bool × Int × Int × Int × Int × Bool × Bool × Int × List Int × Int × List Int × List Int × List Int × List Int × Unit := (i, b, 0, 0, false, false, 0, 0, S.m.pc, S.m.save, S.m.bG, S.m.waits, S.m.halt, S.m.ins, S.m.count, S.vals, S.m.regs, S.m.mem, S.m.outs, ())
abbrev atA(z : aG × Bool) : Int × Int × Bool × Bool × Int × List Int × Int × Bool × List Int × List Int × List Int × Unit := (z.1.pc, z.1.save, z.1.bG, z.1.waits, z.1.halt, z.1.ins, z.1.count, z.2, z.1.regs, z.1.mem, z.1.outs, ())
def SIv(b:Blk)(a:aG)(y:yw):Prop:=∃(i:Nat) (S:MS),i<=b.ops.length/\SJ b a i S/\y=yS b i S
def SIv.next{b:Blk}{c:aG}{i:Nat}{S:MS}{o:IOp}{y:yw}(h:SJ b c i S)(a:i<b.ops.length)(f:b.ops.getD i default=o)(j:o.kind=1->0<=o.k/\o.k<=65535)
  (g:¬((o.kind=4\/o.kind=5)/\64<=vx S o)) (d:¬(o.kind=5/\b.pc+o.at_+1<=vx S o/\vx S o<=b.pc+b.len-1))
  (e:y=yS b ((i:Int)+1) ⟨mM S o,S.vals++ [mV S o],false⟩):SIv b c y/\(b.ops.length-y.1).toNat< (b.ops.length- (i:Int)).toNat:=by
 subst e;have k:=ajA (s:=S) o;exact⟨⟨i+1,_,a,⟨h.r.next a f j g d,k.1.trans h.p,k.2.1.trans h.h,k.2.2.trans h.c⟩,rfl⟩,by dsimp only;omega⟩
def afP{b:Blk}{m:aG}(c:bR b)(a:MOK m)(h:¬(m.halt≠0\/m.pc≠b.pc\/1000000-b.len<m.count)):uT b m=(XI b (b.ops.foldl (gP b) ⟨m,[],false⟩),true):=by
 unfold uT;rw [if_pos (aL ⟨c,a⟩),if_neg h]
set_option maxHeartbeats 4000000 in
theorem apN{p1 f1 p2 f2 p3 f3 p4 f4}{p5:O1->Bool}{f5:O1->Int×Int×Bool×Bool×Int×List Int×Int×Int×Bool×eu}{p6:Blk×bf->Bool}{f6:Blk×bf->dY}{p7:aG×IOp×ni->Bool}{f7:aG×IOp×ni->dY}(U1:Y60 p1 f1)(U2:XK p2 f2)(U3:afz p3 f3)(U4:avc p4 f4)(U5:∀(m:aG) (b:Blk) (o:IOp) (x y:Int),m.mem.length=64->0<=x->m.ins.length<1000000000->m.outs.length<900000000->0<=m.count/\m.count<=1000000->0<=o.at_/\o.at_<=100-> -1000<=b.pc/\b.pc<=1000000-> -1000<=b.len/\b.len<=1000000->p5 (m.pc,m.save,m.bG,m.waits,m.halt,m.ins,m.count,b,o,x,y,m.regs,m.mem,m.outs,())=true/\f5 (m.pc,m.save,m.bG,m.waits,m.halt,m.ins,m.count,b,o,x,y,m.regs,m.mem,m.outs,())=apA (evR m b o x y))(U6:∀(b:Blk) (v:List Int), -1000<=b.pc/\b.pc<=1000000-> -1000<=b.len/\b.len<=1000000->(b.fin≠1->0<=b.x/\b.x<v.length)->(3<=b.fin->0<=b.y/\b.y<v.length)->p6 (b,v,())=true/\f6 (b,v,())=(goS b v,()))(U7:∀(m:aG) (o:IOp) (x y:Int),(o.kind=2->0<=o.k/\o.k<m.regs.length)->p7 (m,o,x,y,())=true/\f7 (m,o,x,y,())=(if o.kind=1 then o.k else if o.kind=2 then((m.regs).getD (o.k).toNat default)else if o.kind=3 then wdo o.k x y else 0,()))(b:Blk)(m:aG)(hs:MSh m)(hb:b.ops.length<1000000000)(ho:m.outs.length<800000000):Xc.F (p1,f1,p2,f2,p3,f3,p4,f4,p5,f5,p6,f6,p7,f7,()) (b,m,()) (λy=>y=atA (uT b m)):=by
 have a5:=λa c=>(U1 a c).1
 have b0:=λa c=>(U1 a c).2
 have a2:=λa c=>(U2 a c).1
 have a8:=λa c=>(U2 a c).2
 have a6:=λa c=>(U3 a c).1
 have U:=λa c=>(U3 a c).2
 have l:=λa c=>(U4 a c).1
 have a4:=λa c=>(U4 a c).2
 have a3:=λa c w t B L z7 z8 z9 G H K M=>(U5 a c w t B L z7 z8 z9 G H K M).1
 have Z:=λa c w t B L z7 z8 z9 G H K M=>(U5 a c w t B L z7 z8 z9 G H K M).2
 have a9:=λa c w t B L=>(U6 a c w t B L).1
 have a7:=λa c w t B L=>(U6 a c w t B L).2
 have O:=λa c w t B=>(U7 a c w t B).1
 have N:=λa c w t B=>(U7 a c w t B).2
 unfold m10 at U;unfold apA at Z;have j:=MKM;dsimp only [Xc,gm,pF,mJ];simp (disch:=omega) only [RR,RB,MRB,a5 b hb,b0 b hb,a2 m hs,a8 m hs,a6 m hs,U m hs];refine⟨λg=> ?_,λg=> ?_⟩
 .unfold uT;rw [if_neg]
  .rfl
  .intro z;have z:=aH.1 z;rw [aL z.1,aL z.2]at g;rcases g with g | g<;>cases g
 have C:=aH.1 g.1;have P:=aH.1 g.2;have bl:=C.ln;have cw:=P.ct;have sz:=C.sz;have b2:=C.pc;have en:=C.en;have w0:IntKind.i64.wrap (1000000-b.len)=1000000-b.len:=w64 ah ah;rw [w0];refine⟨λh=> ?_,λh=> ?_⟩
 .unfold uT;rw [if_pos (aL ⟨C,P⟩),if_pos (show m.halt≠0\/m.pc≠b.pc\/1000000-b.len<m.count by omega)]
 have st:¬(m.halt≠0\/m.pc≠b.pc\/1000000-b.len<m.count):=by omega
 rw [afP C P st];refine au (SIv b m) (λy=>(b.ops.length-y.1).toNat) ⟨0,⟨m,[],false⟩,Nat.zero_le _,⟨⟨rfl,rfl,rfl,(by intro n hn;cases hn),P,hs.2.2.1,Nat.le_add_right _ _⟩,rfl,rfl,rfl⟩,rfl⟩ ?_;rintro y ⟨i,S,hi,J,rfl⟩;dsimp only;have R:=J.r;have ok:=R.ok;have ln:=R.ln;have Jp:=J.p;have Jh:=J.h;have Jc:=J.c;by_cases s:(i:Int)<b.ops.length
 case neg=>
  have ei:i=b.ops.length:=by omega
  have eS:b.ops.foldl (gP b) ⟨m,[],false⟩=S:=by rw [R.e,ei];unfold SM;rw [take_of_length_le (Nat.le_refl _)]
  have I:=en.x1;have y1:=en.y1;unfold Vl at I y1;have hf:=en.f;have hx:b.fin≠1->0<=b.x/\b.x<S.vals.length:=λz=>by have:=I ah;omega
  have hy:3<=b.fin->0<=b.y/\b.y<S.vals.length:=λz=>by have:=y1 ah;omega
  have P6:=a9 b S.vals ah ah hx hy;have H6:=a7 b S.vals ah ah hx hy;simp (disch:=omega) only [RR,s,RB,P6,H6];rw [eS];unfold XI;rw [R.lf,if_neg (by decide)];have T:=R.wv.at b.x;have wy:=R.wv.at b.y;unfold Wo at T wy;have eg:goS b S.vals=if b.fin=1 then b.k else if b.fin=2 then((S.vals).getD (b.x).toNat default)else if M9 (b.fin-2) ((S.vals).getD (b.x).toNat default) ((S.vals).getD (b.y).toNat default)=true then b.k else b.pc+b.len:=by
   unfold goS;have ix:=bD.2 T;have iy:=bD.2 wy;rcases(by omega:b.fin=1\/b.fin=2\/b.fin=3\/b.fin=4)with f | f | f | f
   all_goals simp only [f,Int.reduceEq,if_false,if_true,true_and,false_and,Int.reduceSub,afx,afy,ix,iy,Bool.true_and,decide_eq_true_eq]
  rw [eg]
 have q:=C.op i ah ah;have eT:((i:Int)).toNat=i:=rfl;generalize r:((b.ops).getD ((i:Int)).toNat default)=o at*;rw [eT]at r;have kd:=q.kd;have I:=q.x1;have y1:=q.y1;unfold Vl at I y1;have k1:=q.k1;have k2:=q.k2;have k3:=q.k3;have a1:=q.a1;have a0:=q.a0;have W:=ok.m64;have r4:=ok.r4;have lo:=R.lo;have li:=R.li;have F:=λ{y} C P e=>SIv.next (y:=y) J ah r k1 C P e
 have lv:∀u:aG,gP b S o=⟨u,S.vals,true⟩->b.ops.foldl (gP b) ⟨m,[],false⟩=⟨u,S.vals,true⟩:=λu h=>ajs (i:=i+1) (by rw [Z5 ah,<-R.e,r];exact h)
 have X0:0<=o.x:=by
  by_cases h:hX o
  .have:=I h;omega
  .have:=q.x0 h;omega
 have Y0:0<=o.y:=by
  by_cases h:hY o
  .have:=y1 h;omega
  .have:=q.y0 h;omega
 have A4:∀k:Int,0<=k->f4 (S.vals,k,())=(yV S.vals k,()):=λk h=>by rw [a4,if_neg ah]
 have wV:∀k:Int,Wo (yV S.vals k):=λk=>by
  unfold yV;split
  .exact R.wv.at _
  .exact wo0
 have ex:hX o->yV S.vals o.x=vx S o:=λh=>by
  have:=I h;unfold vx yV;rw [if_pos ah,if_pos h]
 have ey:hY o->yV S.vals o.y=vy S o:=λh=>by
  have:=y1 h;unfold vy yV;rw [if_pos ah,if_pos h]
 have T:=wV o.x;have wy:=wV o.y;have d:=A4 o.x X0;have p:=A4 o.y Y0;generalize yV S.vals o.x=X at*;generalize yV S.vals o.y=Y at*;have b1:S.vals.length<1000:=by omega
 have A:∀v:Int,(([v]:List Int).length:Int)=1:=λ_=>rfl
 have EV:evO o->p5 (S.m.pc,S.m.save,S.m.bG,S.m.waits,S.m.halt,S.m.ins,S.m.count,b,o,X,Y,S.m.regs,S.m.mem,S.m.outs,())=true:=λz=>by
  have:=a1 z;exact a3 S.m b o X Y W T.1 li ah ok.ct ah ah ah
 have EW:=λz:evO o=>Z S.m b o X Y W T.1 li ah ok.ct (by have:=a1 z;omega) ah ah
 have EL:∀(u:aG) (n h:Int),u.pc=b.pc->lvS u b n h=leave u n h:=λu n h e=>by unfold lvS leave;rw [e]
 have Sp:S.m.pc=b.pc:=by omega
 have Sh:S.m.halt=0:=by omega
 rcases(by omega:o.kind=1\/o.kind=2\/o.kind=3\/o.kind=4\/o.kind=5\/o.kind=6\/o.kind=7\/o.kind=8)with k | k | k | k | k | k | k | k
 .have P7:=O S.m o X Y (λz=>by omega);have E:=N S.m o X Y (λz=>by omega);rw [if_pos k]at E;simp (disch:=omega) only [RR,s,RB,r,eT,k,Int.reduceEq,l,d,p,j,P7,E,A];exact⟨ah,ah,F (λh=>by omega) (λh=>by omega) (by simp [mM,mV,k])⟩
 .have g:=k2 (Or.inl k);have P7:=O S.m o X Y (λz=>by omega);have E:=N S.m o X Y (λz=>by omega);rw [if_neg ah,if_pos k]at E;simp (disch:=omega) only [RR,s,RB,r,eT,k,Int.reduceEq,l,d,p,j,P7,E,A];exact⟨ah,ah,F (λh=>by omega) (λh=>by omega) (by simp [mM,mV,k])⟩
 .have P7:=O S.m o X Y (λz=>by omega);have E:=N S.m o X Y (λz=>by omega);rw [if_neg ah,if_neg ah,if_pos k]at E;have D:=ex (by unfold hX;omega);have e2:=ey (Or.inl k);simp (disch:=omega) only [RR,s,RB,r,eT,k,Int.reduceEq,l,d,p,j,P7,E,A];exact⟨ah,ah,F (λh=>by omega) (λh=>by omega) (by simp [mM,mV,k,D,e2])⟩
 .have D:=ex (by unfold hX;omega);have Q:=EV (by unfold evO;omega);have V:=EW (by unfold evO;omega);by_cases z:64<=X
  .have ev:evR S.m b o X Y=(lvS S.m b o.at_ 3,0,true):=by unfold evR;rw [if_neg ah,if_neg ah,if_pos z]
   rw [ev]at V;simp (disch:=omega) only [RR,s,RB,r,eT,k,Int.reduceEq,l,d,p,j,Q,V,A];rw [lv (leave S.m o.at_ 3) (by unfold gP;rw [if_neg (by rw [R.lf];decide),if_pos ⟨Or.inl k,ah⟩]),EL _ _ _ Sp];exact⟨ah,rfl⟩
  .have ev:evR S.m b o X Y=(S.m,((S.m.mem).getD (X).toNat default),false):=by unfold evR;rw [if_neg ah,if_neg ah,if_neg z,if_pos k]
   rw [ev]at V;simp (disch:=omega) only [RR,s,RB,r,eT,k,Int.reduceEq,l,d,p,j,Q,V,A];exact⟨ah,ah,F (λh=>by omega) (λh=>by omega) (by simp [mM,mV,k,D])⟩
 .have D:=ex (by unfold hX;omega);have e2:=ey (Or.inr k);have Q:=EV (by unfold evO;omega);have V:=EW (by unfold evO;omega);by_cases z:64<=X
  .have ev:evR S.m b o X Y=(lvS S.m b o.at_ 3,0,true):=by unfold evR;rw [if_neg ah,if_neg ah,if_pos z]
   rw [ev]at V;simp (disch:=omega) only [RR,s,RB,r,eT,k,Int.reduceEq,l,d,p,j,Q,V,A];rw [lv (leave S.m o.at_ 3) (by unfold gP;rw [if_neg (by rw [R.lf];decide),if_pos ⟨Or.inr k,ah⟩]),EL _ _ _ Sp];exact⟨ah,rfl⟩
  .have u:mM S o={S.m with mem:=S.m.mem.set X.toNat Y}:=by unfold mM;rw [if_pos k,D,e2]
   by_cases y:b.pc+o.at_<X/\X<b.pc+b.len
   .have ev:evR S.m b o X Y=(lvS {S.m with mem:=S.m.mem.set X.toNat Y} b (o.at_+1) 0,0,true):=by unfold evR;rw [if_neg ah,if_neg ah,if_neg z,if_neg ah,if_pos y]
    rw [ev]at V;simp (disch:=omega) only [RR,s,RB,r,eT,k,Int.reduceEq,l,d,p,j,Q,V,A];rw [lv (leave (mM S o) (o.at_+1) (mM S o).halt) (by unfold gP;rw [if_neg (by rw [R.lf];decide),if_neg ah,if_pos ⟨k,ah⟩]),u,EL {S.m with mem:=S.m.mem.set X.toNat Y} _ _ Sp];dsimp only;rw [Sh];exact⟨ah,rfl⟩
   .have ev:evR S.m b o X Y=({S.m with mem:=S.m.mem.set X.toNat Y},0,false):=by unfold evR;rw [if_neg ah,if_neg ah,if_neg z,if_neg ah,if_neg y]
    rw [ev]at V;simp (disch:=omega) only [RR,s,RB,r,eT,k,Int.reduceEq,l,d,p,j,Q,V,A];exact⟨ah,ah,F (λh=>by omega) (λh=>by omega) (by rw [u];simp [mV,k])⟩
 .have Q:=EV (by unfold evO;omega);have V:=EW (by unfold evO;omega);have ev:evR S.m b o X Y=({S.m with ins:=S.m.ins.drop 1},S.m.ins.getD 0 0,false):=by unfold evR;rw [if_neg ah,if_pos k]
  rw [ev]at V;simp (disch:=omega) only [RR,s,RB,r,eT,k,Int.reduceEq,l,d,p,j,Q,V,A];exact⟨ah,ah,F (λh=>by omega) (λh=>by omega) (by simp [mM,mV,k])⟩
 .have D:=ex (by unfold hX;omega);have Q:=EV (by unfold evO;omega);have V:=EW (by unfold evO;omega);have ev:evR S.m b o X Y=({S.m with outs:=S.m.outs++ [X]},0,false):=by unfold evR;rw [if_pos k]
  rw [ev]at V;simp (disch:=omega) only [RR,s,RB,r,eT,k,Int.reduceEq,l,d,p,j,Q,V,A];exact⟨ah,ah,F (λh=>by omega) (λh=>by omega) (by simp [mM,mV,k,D])⟩
 .have D:=ex (by unfold hX;omega);have xv:=I (by unfold hX;omega);have g:=k2 (Or.inr k);have eX:((S.vals).getD (o.x).toNat default)=vx S o:=by unfold vx;rw [if_pos (by unfold hX;omega)]
  simp (disch:=omega) only [RR,s,RB,r,eT,k,Int.reduceEq,l,d,p,j,A,eX];exact⟨ah,ah,ah,ah,ah,ah,ah,ah,ah,ah,F (λh=>by omega) (λh=>by omega) (by simp [mM,mV,k])⟩
variable{a:Ask}{l:List Cac}
theorem EGM:∀e:Eng,Co.mk .eng (e.ay.regs,e.ay.pc,e.ay.mem,e.ay.save,e.ay.bG,e.ay.waits,e.ay.halt,e.ay.ins,e.ay.outs,e.ay.count,e.cache,e.aX,())=e:=λ_=>rfl
def avh:Eng:=⟨Qa,[],[]⟩
noncomputable def goE (e:Eng) (q:List Int) (left:Int) (a:Ask):Eng×Bool:=
 if(e.ay.waits=true\/e.ay.count∈q)/\e.ay.bG=true then(xw e q,false)
 else if(dG e a).2.1<0 then(xw (dG e a).1 q,(dG e a).2.2)
 else if Ia e.ay q left ((((dG e a).1.cache).getD ((dG e a).2.1).toNat default)).blk.len=false then(xw (dG e a).1 q,(dG e a).2.2)
 else(⟨(uT ((((dG e a).1.cache).getD ((dG e a).2.1).toNat default)).blk {e.ay with waits:=e.ay.waits || bp (e.ay.count∈q)}).1,(dG e a).1.cache.filter (dK (uT ((((dG e a).1.cache).getD ((dG e a).2.1).toNat default)).blk {e.ay with waits:=e.ay.waits || bp (e.ay.count∈q)}).1.mem),(dG e a).1.aX⟩,(dG e a).2.2)
noncomputable def K9 (e:Eng) (q:List Int) (left:Int) (a:Ask):Eng×Bool:=
 if bp (vI e)=false then(avh,false)else if e.ay.halt≠0\/left<1\/e.ay.count=1000000 then(e,false)else goE e q left a
def aaf:∀(r:List Ins) (n:Int) (b:Blk),(oN n b r).pc=b.pc/\(oN n b r).len=b.len
 | [],_,_=>⟨rfl,rfl⟩
 | i::r,n,b=>by
  have e:(dW n b i).pc=b.pc/\(dW n b i).len=b.len:=by
   unfold dW;split
   .exact⟨rfl,rfl⟩
   split<;>exact⟨rfl,rfl⟩
  have h:=aaf r (n+1) (dW n b i);exact⟨h.1.trans e.1,h.2.trans e.2⟩
def La{a:Int}{l:List Ins}(h:oC a l):(lower a l).pc=a:=by
 unfold lower;rw [if_pos (aL h)];exact(aaf l 0 (vH a l)).1
def XQ{b c:Blk}(h:chk b c=true):bR b/\bR c/\b.pc=c.pc/\b.len=c.len:=by
 have:=aH.1 h;exact⟨this.1,this.2.1,this.2.2.1,this.2.2.2.1⟩
def Dk(l:List Cac)(e:Cac):((kD l e).getD (((kD l e).length:Int)-1).toNat default)=e:=by
 have n:(kD l e).length=(l.filter (neP e.blk.pc)).length+1- ((l.filter (neP e.blk.pc)).length+1-4):=by unfold kD;rw [length_drop,length_append,length_singleton]
 rw [n,getD_lt (by rw [n];omega)];unfold kD;rw [getElem_drop,getElem_append_right ah];simp
def Lb(e:Eng)(a:Ask):(dG e a).1.ay=e.ay:=by
 unfold dG;split
 .rfl
 split<;>rfl
def ajF{cs:List Cer}{b:Blk}(h:cs.length<=3):(lQ cs b a).2.length<=3:=by
 unfold lQ;split
 .exact h
 split
 .exact h
 split
 .unfold M6;rw [length_drop,length_append,length_singleton];omega
 .exact h
structure FnS(e:Eng)(y:Eng×Int×Bool):Prop where
 l:y.1.cache.length<=e.cache.length+4/\(e.cache.length<=4->y.1.cache.length<=4)/\(e.aX.length<=3->y.1.aX.length<=3)
 w:(∀x∈e.cache,0<x.words.length)->∀x∈y.1.cache,0<x.words.length
 k:ShK y.1.cache
 c:ShC y.1.aX
 r:y.2.1<y.1.cache.length
 b:0<=y.2.1->bR (((y.1.cache).getD (y.2.1).toNat default)).blk/\(((y.1.cache).getD (y.2.1).toNat default)).blk.pc=e.ay.pc
def afQ{e:Eng}(i:ShK e.cache)(h:ShC e.aX)(ok:vI e)(s:a.bytes.length<1000000000):FnS e (dG e a):=by
 have B:=qb e.ay;have fc:=XP e.cache e.ay.pc;unfold dG;split
 .rename_i g;rcases fc with f | ⟨r,l,p,_⟩
  .omega
  .exact⟨⟨Nat.le_add_right _ _,id,id⟩,id,i,h,l,λ_=>⟨(XQ (ok.2.1.2.1 _ r l).1.2.2).2.1,p⟩⟩
 split
 .exact⟨⟨Nat.le_add_right _ _,id,id⟩,id,i,h,by dsimp only;omega,λg=>absurd (show(0:Int)<= -1 from g) (by decide)⟩
 .rename_i g;have j:=(B.2 ah).2;have ir:=kW j;have t:=ir.sz;have A:=aae (a:=a) h (show(lower e.ay.pc (findF e.ay)).ops.length<1000000 by omega) s;have Q:=ajE (a:=a) (b:=lower e.ay.pc (findF e.ay)) ok.2.2;have d:(lower e.ay.pc (findF e.ay)).pc=e.ay.pc:=La j;have Z:bR (lQ e.aX (lower e.ay.pc (findF e.ay)) a).1/\(lQ e.aX (lower e.ay.pc (findF e.ay)) a).1.pc=e.ay.pc:=by
   rcases Q with q | q
   .rw [q];exact⟨ir,d⟩
   .have k:=XQ q;exact⟨k.2.1,by rw [<-k.2.2.1,d]⟩
  have n:((findF e.ay).map gH).length<1000:=by rw [length_map];omega
  have u:=Z.1.pc;have v:=Z.1.ln;have S:=Ng i (e:=⟨(findF e.ay).map gH,(lQ e.aX (lower e.ay.pc (findF e.ay)) a).1⟩) n A.1 (by dsimp only;omega);have o:(kD e.cache ⟨(findF e.ay).map gH,(lQ e.aX (lower e.ay.pc (findF e.ay)) a).1⟩).length<=4:=by
   unfold kD;rw [length_drop,length_append,length_singleton];omega
  exact⟨⟨by dsimp only;omega,λ_=>o,λz=>ajF z⟩,λm x c=>by
   unfold kD at c;have c:=mem_of_mem_drop c;rw [mem_append,mem_singleton]at c;rcases c with c | rfl
   .exact m x (mem_filter.1 c).1
   .show 0< ((findF e.ay).map gH).length;rw [length_map];omega,S.1,A.2,Int.sub_lt_self _ (by decide),λ_=>by rw [Dk];exact Z⟩
def EU(h:ShK l)(P:Cac->Bool):ShK (l.filter P):=h.sub (Nat.lt_of_le_of_lt (length_filter_le _ _) h.1) λx a=>(mem_filter.1 a).1
abbrev e13(y : Eng × Bool) : List Int × Int × Int × Bool × Bool × Int × List Int × List Int × Int × Bool × List Cer × List Int × List Cac × Unit := (y.1.ay.regs, y.1.ay.pc, y.1.ay.save, y.1.ay.bG, y.1.ay.waits, y.1.ay.halt, y.1.ay.ins, y.1.ay.outs, y.1.ay.count, y.2, y.1.aX, y.1.ay.mem, y.1.cache, ())
def Qd{b:Blk}{m:aG}(a:MSh m)(c:m.outs.length<900000000):MSh (uT b m).1/\(uT b m).1.outs.length<=m.outs.length+48/\(uT b m).1.ins.length<=m.ins.length:=by
 unfold uT;split
 .rename_i g;have g:=aH.1 g;split
  .exact⟨a,Nat.le_add_right _ _,Nat.le_refl _⟩
  .have l:=Na b b.ops ⟨m,[],false⟩;have d:=g.1.sz;refine⟨ajr g.1 a c,?_,?_⟩
   .unfold XI;split<;>(dsimp only;have:=l.2.1;dsimp only at this;omega)
   .unfold XI;split<;>exact l.1
 .exact⟨⟨by decide,by decide,by decide,by decide⟩,Nat.zero_le _,Nat.zero_le _⟩
abbrev atB(b : Eng × Unit -> Bool)(a : Eng × Unit -> Bool × Unit) : Prop := ∀ e, MSh e.ay -> ShX e.cache -> ShD e.aX -> b (e, ()) = true /\ a (e, ()) = (bp (vI e), ())
abbrev avi(b : Eng × Unit -> Bool)(a : Eng × Unit -> List Int × Int × Int × Bool × Bool × Int × List Int × List Int × Int × List Cer × List Int × List Cac × Unit) : Prop := ∀ e, MSh e.ay -> ShK e.cache -> ShC e.aX -> b (e, ()) = true /\ a (e, ()) = e12 e
theorem apO{p1 f1 p2 f2 p4 f4 p8 f8}{p3:Blk×aG×Unit->Bool}{f3:Blk×aG×Unit->wm}{p5:uy->Bool}{X:uy->List Int×Int×List Int×Int×Bool×Bool×Int×List Int×List Int×Int×List Cac×Int×Bool×List Cer×Unit}{p6:sj->Bool}{f6:sj->yc}{p7:aG×Eo->Bool}{f7:aG×Eo->mQ}(U1:apq p1 f1)(Z:atB p2 f2)(U3:∀(b:Blk) (m:aG),MSh m->b.ops.length<1000000000->m.outs.length<800000000->p3 (b,m,())=true/\f3 (b,m,())=atA (uT b m))(U4:avi p4 f4)(U5:∀(e:Eng) (a:Ask),MSh e.ay->ShK e.cache->ShC e.aX->By a.bytes->a.bytes.length<1000000000->p5 (e.ay.regs,e.ay.pc,e.ay.mem,e.ay.save,e.ay.bG,e.ay.waits,e.ay.halt,e.ay.ins,e.ay.outs,e.ay.count,e.cache,a,e.aX,())=true/\X (e.ay.regs,e.ay.pc,e.ay.mem,e.ay.save,e.ay.bG,e.ay.waits,e.ay.halt,e.ay.ins,e.ay.outs,e.ay.count,e.cache,a,e.aX,())=((dG e a).1.ay.regs,(dG e a).1.ay.pc,(dG e a).1.ay.mem,(dG e a).1.ay.save,(dG e a).1.ay.bG,(dG e a).1.ay.waits,(dG e a).1.ay.halt,(dG e a).1.ay.ins,(dG e a).1.ay.outs,(dG e a).1.ay.count,(dG e a).1.cache,(dG e a).2.1,(dG e a).2.2,(dG e a).1.aX,()))(U6:∀(e:Eng) (q:List Int),MSh e.ay->e.ay.outs.length<900000000->ShK e.cache->q.length<1000000000->p6 (e.ay.regs,e.ay.pc,e.ay.mem,e.ay.save,e.ay.bG,e.ay.waits,e.ay.halt,e.ay.ins,e.ay.outs,e.ay.count,e.cache,q,e.aX,())=true/\f6 (e.ay.regs,e.ay.pc,e.ay.mem,e.ay.save,e.ay.bG,e.ay.waits,e.ay.halt,e.ay.ins,e.ay.outs,e.ay.count,e.cache,q,e.aX,())=e12 (xw e q))(U7:∀m q l s,q.length<1000000000->0<=m.count/\m.count<=2000000-> -1000<=s/\s<=1000000->p7 (m,q,l,s,())=true/\f7 (m,q,l,s,())=(Ia m q l s,()))(U8:ajx p8 f8)(e:Eng)(q:List Int)(left:Int)(a:Ask)(p:MSh e.ay)(ho:e.ay.outs.length<700000000)(u:ShK e.cache)(A:ShC e.aX)(v:q.length<1000000000)(ha:By a.bytes)(Q:a.bytes.length<1000000000):Xd.F (p1,f1,p2,f2,p3,f3,p4,f4,p5,X,p6,f6,p7,f7,p8,f8,()) (e,q,left,a,()) (λy=>y=e13 (K9 e q left a)):=by
 have J:=λd i f j=>(U1 d i f j).1
 have T:=λd i f j=>(U1 d i f j).2
 have E:=λd i f j=>(Z d i f j).1
 have L:=λd i f j=>(Z d i f j).2
 have K:=λd i f j o=>(U3 d i f j o).1
 have H:=λd i f j o=>(U3 d i f j o).2
 have W:=λd i f j=>(U4 d i f j).1
 have I:=λd i f j=>(U4 d i f j).2
 have F:=λd i f j o t x=>(U5 d i f j o t x).1
 have P:=λd i f j o t x=>(U5 d i f j o t x).2
 have C:=λd i f j o t=>(U6 d i f j o t).1
 have B:=λd i f j o t=>(U6 d i f j o t).2
 have V:=λd i f j o t x=>(U7 d i f j o t x).1
 have U:=λd i f j o t x=>(U7 d i f j o t x).2
 have O:=λd i f=>(U8 d i f).1
 have G:=λd i f=>(U8 d i f).2
 have mM:=MKM;have mE:∀c:Blk,Co.mk .blk (c.pc,c.len,c.ops,c.fin,c.x,c.y,c.k,())=c:=λ_=>rfl
 dsimp only [Xd,gm,pF,mJ]at*;have P6:=C e q p ah u v;have H6:=B e q p ah u v;have P5:=F e a p u A ha Q;have H5:=P e a p u A ha Q;have P8:=O q e.ay.count v;have H8:=G q e.ay.count v;have fm:=Lb e a;have S:vI e->FnS e (dG e a):=λk=>afQ u A k Q
 unfold K9 goE;generalize dG e a=Y at*;simp (disch:=omega) only [RR,mM,E e p u.x A.d,L e p u.x A.d,W e p u A,I e p u A,P6,H6,P5,H5,P8,H8,CAB,mE];refine⟨λg=>by rw [if_pos g];rfl,λg=>⟨λh=>by rw [if_neg (by rw [g];decide),if_pos (show e.ay.halt≠0\/left<1\/e.ay.count=1000000 by omega)],λh=> ?_⟩⟩;have ok:=aH.1 g;have S:=S ok;have cw:=ok.1.ct;rw [if_neg (by rw [g];decide),if_neg (show¬(e.ay.halt≠0\/left<1\/e.ay.count=1000000) by omega)];have PY:=C Y.1 q (by rw [fm];exact p) (by rw [fm];omega) S.k v;have HY:=B Y.1 q (by rw [fm];exact p) (by rw [fm];omega) S.k v;rw [HY];have ec:((e.ay.waits=true\/bp (e.ay.count∈q)=true)/\e.ay.bG=true)↔((e.ay.waits=true\/e.ay.count∈q)/\e.ay.bG=true):=by rw [aH]
 refine⟨λw=>by rw [if_pos (ec.1 w)],λw=> ?_⟩;rw [if_neg (λz=>by
  have:((e.ay.waits || bp (e.ay.count∈q))&&e.ay.bG)=true:=by rw [Bool.and_eq_true,Bool.or_eq_true];exact ec.2 z
  rw [this]at w;cases w)]
 refine⟨λn=>⟨PY,by rw [if_pos n]⟩,λn=> ?_⟩;rw [if_neg ah];have k0:0<=Y.2.1:=by omega
 have Sr:=S.r;obtain⟨B1,B2⟩:=S.b k0;have s1:=(S.k.at Y.2.1.toNat).2.1;generalize hb:(((Y.1.cache).getD (Y.2.1).toNat default)).blk=b at*;have bl:=B1.ln;have P7:=V e.ay q left b.len v ah ah;have H7:=U e.ay q left b.len v ah ah;refine⟨k0,Sr,P7,?_⟩;rw [H7];refine⟨λr=>⟨PY,by rw [if_pos r]⟩,λr=> ?_⟩;have r:Ia e.ay q left b.len=true:=r;rw [if_neg (by rw [r];decide)];obtain⟨M,D⟩:∃M:aG,M={e.ay with waits:=e.ay.waits || bp (e.ay.count∈q)}:=⟨_,rfl⟩;have eM:Co.mk .ay (e.ay.regs,e.ay.pc,e.ay.mem,e.ay.save,e.ay.bG,e.ay.waits || bp (e.ay.count∈q),e.ay.halt,e.ay.ins,e.ay.outs,e.ay.count,())=M:=D.symm;have N:MSh M:=by rw [D];exact p
 have Mo:M.outs.length<700000000:=by rw [D];exact ho
 rw [<-D];have R:=Qd (b:=b) N ah;simp only [eM,K b M N ah ah,H b M N ah ah,J _ _ S.k R.1.2.1,T _ _ S.k R.1.2.1];exact⟨trivial,trivial,trivial⟩
structure EgS(e:Eng)(n:Nat):Prop where
 m:MSh e.ay
 o:e.ay.outs.length<=n
 k:ShK e.cache
 c:ShC e.aX
 kl:e.cache.length<=4
 cl:e.aX.length<=3
 w:∀x∈e.cache,0<x.words.length
 v:∀x∈e.cache,0<=x.blk.pc/\x.blk.pc<e.ay.mem.length
def afR{mem:List Int}(w:∀x∈l,0<x.words.length):∀x∈l.filter (dK mem),0<=x.blk.pc/\x.blk.pc<mem.length:=λx a=>by
 have h:=mem_filter.1 a;have d:=aH.1 (show bp _=true from h.2);have t:=d.2 0 (by decide) (by have:=w x h.1;omega);exact⟨d.1,ah⟩
def ajG{e:Eng}{n:Nat}(h:EgS e n)(hn:n<700000000)(q:List Int)(left:Int)(p:a.bytes.length<1000000000):EgS (K9 e q left a).1 (n+50):=by
 have r:=h.o;unfold K9;split
 .exact⟨⟨by decide,by decide,by decide,by decide⟩,Nat.zero_le _,⟨by decide,λx c=>by cases c⟩,⟨by decide,λx c=>by cases c⟩,by decide,by decide,(λx c=>by cases c),λx c=>by cases c⟩
 rename_i g;have ok:vI e:=aH.1 (by simpa using g);split
 .exact⟨h.m,by have:=h.o;dsimp only;omega,h.k,h.c,h.kl,h.cl,h.w,h.v⟩
 have f:∀y:Eng,y.ay=e.ay->ShK y.cache->ShC y.aX->y.cache.length<=4->y.aX.length<=3->(∀x∈y.cache,0<x.words.length)->EgS (xw y q) (n+50):=λy d l o k i j=>by
  have s:=afM (m:=y.ay) (by rw [d];exact h.m) (by rw [d];omega) (bp (y.ay.count∈q));rw [d]at s;exact⟨by unfold xw;rw [d];exact s.1,by have:=s.2.1;unfold xw;rw [d];dsimp only;omega,EU l _,o,Nat.le_trans (length_filter_le _ _) k,i,λx c=>j x (mem_filter.1 c).1,afR j⟩
 have S:=afQ h.k h.c ok p;have fm:=Lb e a;unfold goE;split
 .exact f e rfl h.k h.c h.kl h.cl h.w
 split
 .exact f _ fm S.k S.c (S.l.2.1 h.kl) (S.l.2.2 h.cl) (S.w h.w)
 split
 .exact f _ fm S.k S.c (S.l.2.1 h.kl) (S.l.2.2 h.cl) (S.w h.w)
 .have R:=Qd (b:=((((dG e a).1.cache).getD ((dG e a).2.1).toNat default)).blk) (m:={e.ay with waits:=e.ay.waits || bp (e.ay.count∈q)}) h.m (by dsimp only;omega);exact⟨R.1,by have:=R.2.1;dsimp only at this ⊢;omega,EU S.k _,S.c,Nat.le_trans (length_filter_le _ _) (S.l.2.1 h.kl),S.l.2.2 h.cl,λx c=>S.w h.w x (mem_filter.1 c).1,afR (S.w h.w)⟩
end Go.TX.F
namespace Go.TX.F
open Go Go.AE Go.TX List
def EnD(b:List Int)(p:Int)(y:List Int×Int×Int×Bool×Bool×Int×List Int×List Int×Int×List Int×Int×List Cer×List Int×G5):Prop:=
 ∃(e:Eng) (a:Int),EgS e 1000/\p<=a/\a<=p+30000000/\y=(e.ay.regs,e.ay.pc,e.ay.save,e.ay.bG,e.ay.waits,e.ay.halt,e.ay.ins,e.ay.outs,e.ay.count,b,a,e.aX,e.ay.mem,e.cache,())
def ShK.nil:ShK []:=⟨by decide,λx a=>by cases a⟩
def ShC.nil:ShC []:=⟨by decide,λx a=>by cases a⟩
def apP{m:aG}(h:MSh m)(b:m.outs.length<=0):EgS (newE m) 0:=by
 unfold newE;split
 .exact⟨h,b,ShK.nil,ShC.nil,Nat.zero_le _,Nat.zero_le _,(λx a=>by cases a),λx a=>by cases a⟩
 .exact⟨⟨by decide,by decide,by decide,by decide⟩,Nat.le_refl _,ShK.nil,ShC.nil,by decide,by decide,(λx a=>by cases a),λx a=>by cases a⟩
abbrev avj(b : Eng × List Int × Int × Ask × Unit -> Bool)(c : Eng × List Int × Int × Ask × Unit -> List Int × Int × Int × Bool × Bool × Int × List Int × List Int × Int × Bool × List Cer × List Int × List Cac × Unit) : Prop := ∀ (e : Eng) (q : List Int) (l : Int) (a : Ask), MSh e.ay -> e.ay.outs.length < 700000000 -> ShK e.cache -> ShC e.aX -> q.length < 1000000000 -> By a.bytes -> a.bytes.length < 1000000000 -> b (e, q, l, a, ()) = true /\ c (e, q, l, a, ()) = e13 (K9 e q l a)
abbrev avk(a : aG × List Int × Int × Unit -> Bool)(c : aG × List Int × Int × Unit -> Bool × List Int × Int × List Int × Unit) : Prop := ∀ m b p, MSh m -> Bt b -> 0 <= p -> p < 500000000 -> a (m, b, p, ()) = true /\ AsD b p (c (m, b, p, ()))
theorem apQ{p2 f2 p3 f3 p4 f4 p5 f5 p6 f6 p7 f7 p8 f8}{p1:aG×Unit->Bool}{f1:aG×Unit->yc}(U1:∀m,MSh m->p1 (m,())=true/\f1 (m,())=e12 (newE m))(U2:avj p2 f2)(U3:atj p3 f3)(U4:atl p4 f4)(U5:atm p5 f5)(j:Y38 p6 f6)(U7:atn p7 f7)(U8:avk p8 f8)(b:List Int)(p:Int)(g:Bt b)(B:0<=p)(Q:p<300000000):Xk.F (p1,f1,p2,f2,p3,f3,p4,f4,p5,f5,p6,f6,p7,f7,p8,f8,()) (b,p,()) (λy=>EnD b p y):=by
 have R:=pkS g j;have P:=λn p B Q=>(j n b p g B Q).1
 obtain⟨P4,⟨t,J,i3,s,F⟩⟩:=U4 b p g B ah;generalize hy:f4 (b,p,())=y at t J i3 s F;obtain⟨b',o,w,⟨⟩⟩:=y;dsimp only at t J i3 s F;subst t;obtain⟨P6,⟨H,I,Y,O⟩⟩:=j 4 b' o g ah ah;generalize hk:f6 (4,b',o,())=k at H I Y O;obtain⟨n,l,q1,⟨⟩⟩:=k;dsimp only at H I Y O;subst H;subst I;obtain⟨P7,⟨i,S,U,L,G⟩⟩:=U7 n l (o+1) g ah ah ah;generalize hw:f7 (n,l,o+1,())=v at i S U L G;obtain⟨c,V,ins,⟨⟩⟩:=v;dsimp only at i S U L G;subst i;have ok:=Z9 s F G;obtain⟨P3,H3⟩:=U3 w ins ah ah;have D:(jS w ins).outs=[]/\(jS w ins).ins.length<=ins.length:=by
  unfold jS;split<;>exact⟨rfl,by simp [Qa]⟩
 have Z:MSh (jS w ins):=⟨by rw [ok.r4];decide,by have:=ok.m64;omega,ah,by rw [D.1];decide⟩;obtain⟨P1,H1⟩:=U1 _ Z;have h:=apP Z (by rw [D.1];exact Nat.le_refl _);obtain⟨P5,⟨r,s2,K,W⟩⟩:=U5 c V g ah ah;generalize hs:f5 (c,V,())=z at r s2 K W;obtain⟨d,u,f,⟨⟩⟩:=z;dsimp only at r s2 K W;subst r;have mM:=MKM;generalize jS w ins=M at*;have mK:Co.mk .ay (M.regs,M.pc,M.mem,M.save,M.bG,M.waits,M.halt,M.ins,[],M.count,())=M:=by
  have:=D.1;cases M;dsimp only at this;subst this;rfl
 generalize newE M=N at*;dsimp only [Xk,gm,pF];simp (disch:=omega) only [RR,P4,hy,P6,hk,P7,hw,P3,H3,P5,hs,R,P,mK,P1,H1];obtain⟨t1,t2,t3,t4⟩:=(j 12 d u g ah ah).2;refine au (λy=>∃(k q:Int) (e:Eng),0<=k/\k<=11/\p<=q/\q<=p+20000+2000100*(11-k)/\EgS e (50*(11-k).toNat)/\y=(k,d,q,0,0,false,false,0,0,e.ay.regs,e.ay.pc,e.ay.save,e.ay.bG,e.ay.waits,e.ay.halt,e.ay.ins,e.ay.outs,e.ay.count,f,e.ay.mem,e.cache,e.aX,())) (λy=>y.1.toNat) ⟨(f6 (12,d,u,())).1,u+1,N,t3,ah,ah,ah,⟨h.m,by have:=h.o;omega,h.k,h.c,h.kl,h.cl,h.w,h.v⟩,rfl⟩ ?_;rintro y ⟨k,q,e,k0,k1,k2,k3,E,rfl⟩;dsimp only;have eo:=E.o;by_cases c:0<k
 .obtain⟨u1,u2,u3,u4⟩:=(j 30 d q g ah ah).2;obtain⟨P8,A⟩:=U8 e.ay d (q+1) E.m g ah ah;have Ap:=A.p;have Ab:=A.b;obtain⟨Al,An⟩:=A.l;generalize C:f8 (e.ay,d,q+1,())=a at*;have i:IntKind.i64.wrap (1+(f6 (30,d,q,())).1)=1+(f6 (30,d,q,())).1:=w64 ah ah;obtain⟨P2,H2⟩:=U2 e f (1+(f6 (30,d,q,())).1) ⟨a.1,a.2.2.2.1⟩ E.m ah E.k E.c ah Al (by dsimp only;omega);have T:=ajG E ah f (1+(f6 (30,d,q,())).1) (a:=⟨a.1,a.2.2.2.1⟩) (by dsimp only;omega);have mA:∀(x:Bool) (y:List Int),Co.mk .ask (x,y,())=(⟨x,y⟩:Ask):=λ_ _=>rfl
  have mG:=EGM;generalize K9 e f (1+(f6 (30,d,q,())).1) ⟨a.1,a.2.2.2.1⟩=X at*;simp (disch:=omega) only [RR,c,R,P,mM,P8,C,mA,mG,i,P2,H2];exact⟨⟨k-1,a.2.2.1,X.1,ah,ah,ah,ah,⟨T.m,by have:=T.o;omega,T.k,T.c,T.kl,T.cl,T.w,T.v⟩,by rw [Ab]⟩,ah⟩
 .simp (disch:=omega) only [RR,c];exact⟨e,q,⟨E.m,ah,E.k,E.c,E.kl,E.cl,E.w,E.v⟩,k2,ah,rfl⟩
abbrev avl(c : List Int × Int × Unit -> Bool)(a : List Int × Int × Unit -> List Int × Int × Int × Bool × Bool × Int × List Int × List Int × Int × List Int × Int × List Cer × List Int × List Cac × Unit) : Prop := ∀ b p, Bt b -> 0 <= p -> p < 300000000 -> c (b, p, ()) = true /\ EnD b p (a (b, p, ()))
def ShK.add{l:List Cac}(h:ShK l)(n:l.length<999){x:Cac}(b:x.words.length<1000)(a:x.blk.ops.length<1000000)(d:x.blk.pc<=1000000):ShK (l++ [x]):=by
 refine⟨by rw [length_append,length_singleton];omega,λc hc=> ?_⟩;rw [mem_append,mem_singleton]at hc;rcases hc with g | rfl
 .exact h.2 c g
 .exact⟨b,a,d⟩
variable{P:Cac->Bool}
def atC(e x:Cac):aeF.F () (e,x,()) (λy=>y=(decide (e.blk.pc=x.blk.pc),x,())):=by
 dsimp only [aeF,gm];simp (disch:=omega) only [RR,CAB]
abbrev atD(b : Cac × Cac × Unit -> Bool)(a : Cac × Cac × Unit -> Bool × Cac × Unit) : Prop := ∀ e x, b (e, x, ()) = true /\ a (e, x, ()) = (decide (e.blk.pc = x.blk.pc), x, ())
def apR{p1 f1}(k:atD p1 f1)(l:List Cac)(x:Cac)(h:l.length<1000000000):UA.F (p1,f1,()) (l,x,()) (λy=>y.2.1=x/\FC l x.blk.pc y.1):=by
 dsimp only [UA,gm];refine au (λ(y:List Cac×Int×Int×Cac×Unit)=>y.1=l/\y.2.1=l.length/\0<=y.2.2.1/\y.2.2.1<=l.length/\y.2.2.2.1=x/\∀j:Int,0<=j->j<y.2.2.1->(((l).getD (j).toNat default)).blk.pc≠x.blk.pc) (λy=>(l.length-y.2.2.1).toNat) ⟨rfl,rfl,by simp,by simp,rfl,λj m a=>absurd a (by simp;omega)⟩ ?_;rintro⟨(l:List Cac),(n:Int),(i:Int),(x:Cac),⟨⟩⟩ hI;dsimp only at hI ⊢;obtain⟨rfl,rfl,a,o,rfl,d⟩:=hI;simp (disch:=omega) only [RR,CAB,k];refine⟨λg=>⟨a,g,λe=>Or.inr ⟨a,g,e,d⟩,λe=>⟨⟨ah,ah,λj b f=> ?_⟩,ah⟩⟩,λg=>Or.inl ⟨rfl,λj b f=>d j b ah⟩⟩;by_cases c:j<i
 .exact d j b c
 .rw [show j=i by omega];exact e
def filter_all{α:Type}{P:α->Bool}{d:α}:∀ {l:List α},(∀i:Nat,i<l.length->P (l.getD i d)=true)->l.filter P=l
 | [],_=>rfl
 | x::l,h=>by
  have a:=h 0 (by simp);have b:=filter_all (P:=P) (d:=d) (l:=l) λi c=>h (i+1) (by simp;omega)
  rw [filter_cons,if_pos (by simpa using a),b]
structure BH(P:Cac->Bool)(l L:List Cac)(i j:Int):Prop where
 i0:0<=i
 ij:i<=j
 jl:j<=l.length
 len:L.length=l.length
 a:L.take i.toNat=(l.take j.toNat).filter P
 b:∀k:Nat,j<=k->L.getD k default=l.getD k default
def BH.start{l:List Cac}{k:Int}(a:0<=k)(c:k<l.length)(f:P ((l).getD (k).toNat default)=false)(h:∀j:Int,0<=j->j<k->P ((l).getD (j).toNat default)=true):BH P l l k (k+1):=by
 refine⟨a,ah,ah,rfl,?_,λ_ _=>rfl⟩;rw [nS (d:=default) a c,if_neg (by rw [f];decide),append_nil,filter_all (d:=default) λi b=> ?_];rw [length_take]at b;have:=h i ah ah;have e:(l.take k.toNat).getD i default=l.getD i default:=by rw [getD_lt (by rw [length_take];omega),getD_lt ah,getElem_take]
 rw [e];simpa using this
def BH.keep{l L:List Cac}{i j:Int}(h:BH P l L i j)(e:j<l.length)(c:P ((L).getD (j).toNat default)=true):BH P l (L.set i.toNat ((L).getD (j).toNat default)) (i+1) (j+1):=by
 obtain⟨m,n,g,len,a,b⟩:=h;have f:((L).getD (j).toNat default)=((l).getD (j).toNat default):=b j.toNat ah;rw [f]at c ⊢;refine⟨ah,ah,ah,by rw [length_set];exact len,?_,λk hk=> ?_⟩
 .rw [nS (d:=default) ah e,if_pos c,<-a,show(i+1).toNat=i.toNat+1 by omega,take_succ_eq_append_getElem (by rw [length_set];omega),getElem_set_self,take_set_of_le (Nat.le_refl _)]
 .rw [<-b k ah,getD_eq_getElem?_getD,getD_eq_getElem?_getD,getElem?_set_ne ah,<-getD_eq_getElem?_getD]
def BH.skip{l L:List Cac}{i j:Int}(h:BH P l L i j)(e:j<l.length)(c:P ((L).getD (j).toNat default)=false):BH P l L i (j+1):=by
 obtain⟨m,n,g,len,a,b⟩:=h;have f:((L).getD (j).toNat default)=((l).getD (j).toNat default):=b j.toNat ah;rw [f]at c;refine⟨ah,ah,ah,len,?_,λk hk=>b k ah⟩;rw [nS (d:=default) ah e,if_neg (by rw [c];decide),append_nil,a]
def BH.fin{l L:List Cac}{i j:Int}(h:BH P l L i j)(a:¬j<l.length):L.take i.toNat=l.filter P:=by
 rw [h.a,take_of_length_le (by have:=h.jl;omega)]
def aag{L:List Cac}{z:Cac}{i n:Int}(a:0<=i)(b:i<=L.length)(hn:(L.length:Int)=n):
  i<=((drop (Int.toNat 0) (take i.toNat L)++replicate (n-i).toNat z++drop (i+(n-i)).toNat (take n.toNat L)).length:Int)/\
  drop (Int.toNat 0) (take (0+(i-0)).toNat (drop (Int.toNat 0) (take i.toNat L)++replicate (n-i).toNat z++drop (i+(n-i)).toNat (take n.toNat L)))=L.take i.toNat:=by
 have e:(take i.toNat L).length=i.toNat:=by rw [length_take];omega
 rw [show(Int.toNat 0)=0 by rfl,drop_zero,drop_zero,show(0+(i-0)).toNat=i.toNat by omega,append_assoc];refine⟨by rw [length_append];omega,?_⟩;rw [take_append_of_le_length ah,take_of_length_le ah]
theorem apS{p1 f1}{p:He->Bool}{m:He->Int×Cac×Unit}(q:atD p1 f1)(t:∀l x,l.length<1000000000->p (l,x,())=true/\(m (l,x,())).2.1=x/\FC l x.blk.pc (m (l,x,())).1)(l:List Cac)(x:Cac)(h:l.length<1000000000):UF.F (p1,f1,p,m,()) (l,x,()) (λy=>y=(x,l.filter (neP x.blk.pc),())):=by
 obtain⟨A,I⟩:=t l x h;dsimp only [UF,gm];simp (disch:=omega) only [RR,A];rw [I.1];have F:=I.2;generalize (m (l,x,())).1=k at*;have a:∀e:Cac,neP x.blk.pc e= !decide (e.blk.pc=x.blk.pc):=λ_=>rfl
 refine⟨λg=> ?_,λg=> ?_⟩
 .rw [filter_all (d:=default) λi C=> ?_];rcases F with⟨_,f⟩ | ⟨f,_⟩
  .have:=f i ah ah;rw [a];simpa using this
  .omega
 .obtain⟨f1,f2',f3,f4⟩:0<=k/\k<l.length/\(((l).getD (k).toNat default)).blk.pc=x.blk.pc/\∀j:Int,0<=j->j<k->(((l).getD (j).toNat default)).blk.pc≠x.blk.pc:=by
   rcases F with⟨f,_⟩ | f
   .exact absurd f g
   .exact f
  have w:IntKind.i64.wrap (k+1)=k+1:=w64 ah ah;rw [w];refine au (λ(y:Int×Int×He)=>y.2.2.2.1=x/\BH (neP x.blk.pc) l y.2.2.1 y.1 y.2.1) (λy=>(l.length-y.2.1).toNat) ⟨rfl,BH.start f1 f2' (by rw [a,decide_eq_true f3];rfl) λj v s=>by rw [a,decide_eq_false (f4 j v s)];rfl⟩ ?_;rintro⟨(i:Int),(j:Int),(L:List Cac),(r:Cac),⟨⟩⟩ hI;dsimp only at hI ⊢;obtain⟨rfl,D⟩:=hI;have B:=D.i0;have E:=D.ij;have G:=D.jl;have len:=D.len;have b:(L.length:Int)=l.length:=by omega
  by_cases c:j<l.length
  .by_cases d:(((L).getD (j).toNat default)).blk.pc=r.blk.pc
   .simp (disch:=omega) only [RR,b,c,q,d];exact⟨ah,ah,D.skip c (by rw [a,decide_eq_true d];rfl),ah⟩
   .simp (disch:=omega) only [RR,b,c,q,d];exact⟨ah,ah,ah,ah,ah,ah,D.keep c (by rw [a,decide_eq_false d];rfl),ah⟩
  .simp (disch:=omega) only [RR,b,c];obtain⟨o,u⟩:=aag (L:=L) (n:=l.length) (z:=Co.mk .cac ([],0,0,[],0,0,0,0,())) B ah b;exact⟨ah,ah,ah,ah,ah,ah,ah,ah,o,ah,ah,Int.le_trans (show 0+(i-0)<=i by omega) o,Prod.ext rfl (Prod.ext (u.trans (D.fin c)) rfl)⟩
theorem atE{p1 f1 p2 f2}(b:Y99 p1 f1)(a:au2 p2 f2)(e:Cac)(d:e.words.length<1000)(f:e.blk.ops.length<1000000):aeM.F (p1,f1,p2,f2,()) (e,()) (λy=>y=cE e):=by
 have mE:∀c:Blk,Co.mk .blk (c.pc,c.len,c.ops,c.fin,c.x,c.y,c.k,())=c:=λ_=>rfl
 dsimp only [aeM,gm,mJ];simp (disch:=omega) only [RR,CAB,mE,b e.blk ah,a e.words ah]
def apT{p1 f1}(e:ajB p1 f1)(l:List Cac)(h:ShK l):UE.F (p1,f1,()) (l,()) (λy=>y=(l,())):=by
 have b:=h.1;have mC:=CAM;dsimp only [UE,gm,mJ];refine au (λ(y:List Cac×Int×Int×G5)=>y.1=l/\y.2.1=l.length/\y.2.2.2.1=l.take y.2.2.1.toNat/\0<=y.2.2.1/\y.2.2.1<=l.length) (λy=>(l.length-y.2.2.1).toNat) ⟨rfl,rfl,by simp,by simp,by simp⟩ ?_;rintro⟨(l:List Cac),(m:Int),(i:Int),(o:List Cac),⟨⟩⟩ hI;dsimp only at hI ⊢;obtain⟨rfl,rfl,rfl,d,f⟩:=hI;have a:=h.at i.toNat;simp (disch:=omega) only [RR,e _ a.1 a.2.1,mC];refine⟨λc=>⟨ah,ah,?_,⟨bq d c rfl,ah,ah⟩,ah⟩,λc=>by rw [take_of_length_le ah]⟩;have:=length_take_le' i.toNat l;omega
def apU(l:List Cac)(n:Int)(c:l.length<1000000)(a:0<=n)(b:n<1000000):UH.F () (l,n,()) (λy=>y=(l.drop (l.length-n.toNat),())):=by
 dsimp only [UH,gm];simp (disch:=omega) only [RR];rw [show((l.length:Int)).toNat=l.length by omega,take_of_length_le (Nat.le_refl _)];split
 .rw [show((l.length:Int)-n).toNat=l.length-n.toNat by omega];exact⟨ah,ah,ah,rfl⟩
 .rw [show l.length-n.toNat=0 by omega];exact⟨ah,ah,ah,rfl⟩
abbrev atF(b : List Cac × Unit -> Bool)(a : List Cac × Unit -> List Cac × Unit) : Prop := ∀ l, ShK l -> b (l, ()) = true /\ a (l, ()) = (l, ())
def atG{p1 f1}{c:List Cac×dY->Bool}{a:List Cac×dY->G5}{d:He->Bool}{g:He->Cac×G5}(f:atF p1 f1)(b:∀l n,l.length<1000000->0<=n->n<1000000->c (l,n,())=true/\a (l,n,())=(l.drop (l.length-n.toNat),()))(m:∀l x,l.length<1000000000->d (l,x,())=true/\g (l,x,())=(x,l.filter (neP x.blk.pc),()))(l:List Cac)(e:Cac)(h:ShK l)(o:e.words.length<1000)(k:e.blk.ops.length<1000000)(i:e.blk.pc<=1000000):aeO.F (p1,f1,c,a,d,g,()) (l,e,()) (λy=>y=(kD l e,())):=by
 have L:=h.1;have sh:=(Ng h o k i).1;have p:=length_filter_le (neP e.blk.pc) l;have j:(l.filter (neP e.blk.pc)++ [e]).length=(l.filter (neP e.blk.pc)).length+1:=by rw [length_append,length_singleton]
 have F:=(b (l.filter (neP e.blk.pc)++ [e]) 4 ah ah ah).2;rw [j]at F;have F:a (l.filter (neP e.blk.pc)++ [e],4,())=(kD l e,()):=F;dsimp only [aeO,gm];simp (disch:=omega) only [RR,f l h,m l e,(b (l.filter (neP e.blk.pc)++ [e]) 4 ah ah ah).1,F,f _ sh,length_cons,length_nil];omega
end Go.TX.F
namespace Go.TX.F
open Go Go.AE Go.TX List
def ajH(l:List Cac)(e:Cac):kD l e=(l.filter (neP e.blk.pc)).drop ((l.filter (neP e.blk.pc)).length+1-4)++ [e]:=by
 unfold kD;rw [drop_append_of_le_length ah]
abbrev avm(b : List Cac × Cac × Unit -> Bool)(a : List Cac × Cac × Unit -> List Cac × Unit) : Prop := ∀ l e, ShK l -> e.words.length < 1000 -> e.blk.ops.length < 1000000 -> e.blk.pc <= 1000000 -> b (l, e, ()) = true /\ a (l, e, ()) = (kD l e, ())
def apV(a b:List Int)(o:a.length<1000000000):Uy.F () (a,b,()) (λy=>y=(bp (a=b),())):=by
 dsimp only [Uy,gm];simp (disch:=omega) only [RR];refine⟨λh=> ?_,λh=> ?_⟩
 .rw [aV (λe=>h (by rw [e]))]
 have j:a.length=b.length:=by omega
 refine au (λ(y:List Int×Eo)=>y.1=a/\y.2.1=b/\y.2.2.1=a.length/\0<=y.2.2.2.1/\y.2.2.2.1<=a.length/\All y.2.2.2.1 (λi=>a.getD i.toNat default=b.getD i.toNat default)) (λy=>(a.length-y.2.2.2.1).toNat) ⟨rfl,rfl,rfl,by simp,by simp,All.zero⟩ ?_;rintro⟨(m:List Int),(k:List Int),(n:Int),(i:Int),⟨⟩⟩ hI;dsimp only at hI ⊢;obtain⟨rfl,rfl,rfl,f,l,g⟩:=hI;simp (disch:=omega) only [RR];refine⟨λd=>⟨f,d,f,ah,λc=> ?_,λc=>⟨⟨ah,ah,g.snoc c⟩,ah⟩⟩,λd=> ?_⟩
 .rw [aV];intro e;rw [e]at c;exact c rfl
 .rw [aL (oL j (g.le ah))]
def Lc{w mem:List Int}{a:Int}(l:0<=a)(i:0<w.length):There w mem a↔a+w.length<=mem.length/\(mem.take (a+w.length).toNat).drop a.toNat=w:=by
 have b:∀k:Nat,k<w.length->a+w.length<=mem.length->((mem.take (a+w.length).toNat).drop a.toNat).getD k default=((mem).getD (a+k).toNat default):=λk hk h=>by
  rw [getD_eq_getElem?_getD,getElem?_drop,getElem?_take_of_lt ah,<-getD_eq_getElem?_getD,show a.toNat+k=(a+k).toNat by omega]
 refine⟨λh=> ?_,λ⟨h,e⟩ k g j=>⟨ah,?_⟩⟩
 .have e:=(h ((w.length:Int)-1) ah ah).1;have d:a+w.length<=mem.length:=by omega
  refine⟨d,ext_getElem (by rw [length_drop,length_take];omega) λn f c=> ?_⟩;have:=(h n ah ah).2;rw [<-b n c d,getD_lt f,Int.toNat_natCast,getD_lt c]at this;exact this
 .have:=b k.toNat ah h;rw [e,show a+((k.toNat:Nat):Int)=a+k by omega]at this;exact this.symm
def atH{p1 f1 p2 f2}(d:Y1 p1 f1)(b:Y32 p2 f2)(e:Cac)(mem:List Int)(g:e.words.length<1000000000)(hm:mem.length<1000000000):aeG.F (p1,f1,p2,f2,()) (e,mem,()) (λy=>y=(dK mem e,())):=by
 dsimp only [aeG,gm];simp (disch:=omega) only [RR,CAB,d];refine⟨λz=> ?_,λz=> ?_⟩
 .refine Prod.ext ?_ rfl;show decide (0<=e.blk.pc)=dK mem e;rw [Bool.eq_iff_iff,decide_eq_true_eq,dK,aH];exact⟨λh=>⟨h,λk f i=>by omega⟩,λh=>h.1⟩
 .by_cases c:inB e.blk.pc 0 (mem.length-e.words.length)=true
  .obtain⟨c0,c1⟩:=bD.1 c;have w:IntKind.i64.wrap (e.blk.pc+e.words.length)=e.blk.pc+e.words.length:=w64 ah ah;have a:(drop e.blk.pc.toNat (take (e.blk.pc+e.words.length).toNat mem)).length<1000000000:=by rw [length_drop,length_take];omega
   rw [w,c,(b _ _ a).2];refine⟨Or.inr c0,Or.inr ah,Or.inr ah,Or.inr ((b _ _ a).1),?_⟩;rw [Bool.true_and];refine Prod.ext (kQ ?_) rfl;rw [Lc c0 ah];exact⟨λh=>⟨c0,ah,h⟩,λh=>h.2.2⟩
  .have c':inB e.blk.pc 0 (mem.length-e.words.length)=false:=by simpa using c
   rw [c'];refine⟨Or.inl rfl,Or.inl rfl,Or.inl rfl,Or.inl rfl,?_⟩;rw [Bool.false_and];refine Prod.ext (aV λh=>c (bD.2 ⟨h.1,?_⟩)).symm rfl;have:=((Lc h.1 ah).1 h.2).1;omega
def FP(P:Cac->Bool)(l:List Cac)(k:Int):Prop:=(k= -1/\∀j:Int,0<=j->j<l.length->P ((l).getD (j).toNat default)=true)\/(0<=k/\k<l.length/\P ((l).getD (k).toNat default)=false/\∀j:Int,0<=j->j<k->P ((l).getD (j).toNat default)=true)
abbrev atI(b : Cac × List Int × Unit -> Bool)(a : Cac × List Int × Unit -> Bool × Unit) : Prop := ∀ e mem, e.words.length < 1000000000 -> mem.length < 1000000000 -> b (e, mem, ()) = true /\ a (e, mem, ()) = (dK mem e, ())
def atJ{p1 f1}(a:atI p1 f1)(e:Cac)(mem:List Int)(b:e.words.length<1000)(hm:mem.length<1000000000)(c:e.blk.pc<=1000000):aeH.F (p1,f1,()) (e,mem,()) (λy=>y=(!dK mem e,mem,())):=by
 dsimp only [aeH,gm];simp (disch:=omega) only [RR,a e mem ah hm]
abbrev atK(b : Cac × List Int × Unit -> Bool)(a : Cac × List Int × Unit -> Bool × List Int × Unit) : Prop := ∀ e mem, e.words.length < 1000 -> mem.length < 1000000000 -> e.blk.pc <= 1000000 -> b (e, mem, ()) = true /\ a (e, mem, ()) = (!dK mem e, mem, ())
def apW{p1 f1}(k:atK p1 f1)(l:List Cac)(mem:List Int)(h:ShK l)(hm:mem.length<1000000000):UC.F (p1,f1,()) (l,mem,()) (λy=>y.2.1=l/\y.2.2.1=mem/\FP (dK mem) l y.1):=by
 have s:=h.1;dsimp only [UC,gm];refine au (λ(y:Int×Int×Ns)=>y.1=l.length/\0<=y.2.1/\y.2.1<=l.length/\y.2.2.1=l/\y.2.2.2.1=mem/\∀j:Int,0<=j->j<y.2.1->dK mem ((l).getD (j).toNat default)=true) (λy=>(l.length-y.2.1).toNat) ⟨rfl,by simp,by simp,rfl,rfl,λj q a=>absurd a (by simp;omega)⟩ ?_;rintro⟨(n:Int),(i:Int),(l:List Cac),(mem:List Int),⟨⟩⟩ hI;dsimp only at hI ⊢;obtain⟨rfl,a,p,rfl,rfl,b⟩:=hI;obtain⟨o,r,m⟩:=h.at i.toNat;simp (disch:=omega) only [RR,k _ mem o hm m];refine⟨λg=>⟨a,g,a,g,λe=>Or.inr ⟨a,g,e,b⟩,λe=>⟨⟨ah,ah,λj d f=> ?_⟩,ah⟩⟩,λg=>Or.inl ⟨rfl,λj d f=>b j d ah⟩⟩;by_cases c:j<i
 .exact b j d c
 .rw [show j=i by omega];exact e
def apX{p1 f1}{o:Ns->Bool}{a:Ns->Int×Ns}(u:atK p1 f1)(s:∀l mem,ShK l->mem.length<1000000000->o (l,mem,())=true/\(a (l,mem,())).2.1=l/\(a (l,mem,())).2.2.1=mem/\FP (dK mem) l (a (l,mem,())).1)(l:List Cac)(mem:List Int)(h:ShK l)(hm:mem.length<1000000000):UG.F (p1,f1,o,a,()) (l,mem,()) (λy=>y=(mem,l.filter (dK mem),())):=by
 have G:=h.1;obtain⟨v,I⟩:=s l mem h hm;dsimp only [UG,gm];simp (disch:=omega) only [RR,v];rw [I.1,I.2.1];have F:=I.2.2;generalize (a (l,mem,())).1=k at*;refine⟨λg=> ?_,λg=> ?_⟩
 .rw [filter_all (d:=default) λi A=> ?_];rcases F with⟨_,f⟩ | ⟨f,_⟩
  .simpa using f i ah ah
  .omega
 .obtain⟨k0,k1,k2,k3⟩:0<=k/\k<l.length/\dK mem ((l).getD (k).toNat default)=false/\∀j:Int,0<=j->j<k->dK mem ((l).getD (j).toNat default)=true:=by
   rcases F with⟨f,_⟩ | f
   .exact absurd f g
   .exact f
  have w:IntKind.i64.wrap (k+1)=k+1:=w64 ah ah;rw [w];refine au (λ(y:Int×Int×Ns)=>y.2.2.2.1=mem/\BH (dK mem) l y.2.2.1 y.1 y.2.1) (λy=>(l.length-y.2.1).toNat) ⟨rfl,BH.start k0 k1 k2 k3⟩ ?_;rintro⟨(i:Int),(j:Int),(L:List Cac),(mem:List Int),⟨⟩⟩ hI;dsimp only at hI ⊢;obtain⟨rfl,D⟩:=hI;have x:=D.i0;have B:=D.ij;have E:=D.jl;have len:=D.len;have b:(L.length:Int)=l.length:=by omega
  by_cases c:j<l.length
  .have ej:((L).getD (j).toNat default)=((l).getD (j).toNat default):=D.b j.toNat ah;obtain⟨q,C,p⟩:=h.at j.toNat;rw [<-ej]at q p;obtain⟨e,r⟩:=u _ mem q hm p;by_cases d:dK mem ((L).getD (j).toNat default)=true
   .simp (disch:=omega) only [RR,b,c,e,r,d];exact⟨ah,ah,ah,ah,ah,ah,D.keep c d,ah⟩
   .have d:dK mem ((L).getD (j).toNat default)=false:=by simpa using d
    simp (disch:=omega) only [RR,b,c,e,r,d];exact⟨ah,ah,D.skip c d,ah⟩
  .simp (disch:=omega) only [RR,b,c];obtain⟨m,t⟩:=aag (L:=L) (n:=l.length) (z:=Co.mk .cac ([],0,0,[],0,0,0,0,())) x ah b;exact⟨ah,ah,ah,ah,ah,ah,ah,ah,m,ah,ah,Int.le_trans (show 0+(i-0)<=i by omega) m,Prod.ext rfl (Prod.ext (t.trans (D.fin c)) rfl)⟩
def atL{p1 f1}{b:Ns->Bool}{a:Ns->List Int×G5}(c:atF p1 f1)(d:∀l mem,ShK l->mem.length<1000000000->b (l,mem,())=true/\a (l,mem,())=(mem,l.filter (dK mem),()))(l:List Cac)(mem:List Int)(h:ShK l)(hm:mem.length<1000000000):aeN.F (p1,f1,b,a,()) (l,mem,()) (λy=>y=(l.filter (dK mem),())):=by
 have sh:=EU h (dK mem);dsimp only [aeN,gm];simp (disch:=omega) only [RR,c l h,d l mem h hm,c _ sh]
structure EoD(b:List Int)(p:Int)(y:Eng×l7):Prop where
 m:MSh y.1.ay
 o:y.1.ay.outs.length<=2000
 k:ShK y.1.cache
 kl:y.1.cache.length<=10
 c:ShC y.1.aX
 cl:y.1.aX.length<=10
 b:y.2.1=b
 lo:p<=y.2.2.1
 hi:y.2.2.1<=p+40000000
def Nh{α:Type}{l:List α}{x:α}(h:l.length<=4):(l++ [x]).length<=10:=by rw [length_append,length_singleton];omega
def ShK.set{l:List Cac}(h:ShK l)(i:Nat){x:Cac}(b:x.words.length<1000)(a:x.blk.ops.length<1000000)(d:x.blk.pc<=1000000):ShK (l.set i x):=by
 refine⟨by rw [length_set];exact h.1,λc hc=> ?_⟩;rcases mem_or_eq_of_mem_set hc with g | rfl
 .exact h.2 c g
 .exact⟨b,a,d⟩
theorem apY{p1 f1 p2 f2 p3 f3 p4 f4 p5 f5 p6 f6 p7 f7 p8 f8}(U1:ajz p1 f1)(D:au9 p2 f2)(U3:Y39 p3 f3)(s:Y38 p4 f4)(J:Y40 p5 f5)(I:Y83 p6 f6)(v:Y84 p7 f7)(U8:avl p8 f8)(n:Int)(b:List Int)(p:Int)(h:Bt b)(k:0<=p)(t:p<200000000):Xl.F (p1,f1,p2,f2,p3,f3,p4,f4,p5,f5,p6,f6,p7,f7,p8,f8,()) (n,b,p,()) (λy=>EoD b p y):=by
 have mE:∀c:Blk,Co.mk .blk (c.pc,c.len,c.ops,c.fin,c.x,c.y,c.k,())=c:=λ_=>rfl
 have mI:∀x y z u:Int,Co.mk .ins (x,y,z,u,())=⟨x,y,z,u⟩:=λ_ _ _ _=>rfl
 obtain⟨w,⟨e,q,E,e1,e2,H⟩⟩:=U8 b p h k ah;have R:=pkS h s;have P:=λn p k t=>(s n b p h k t).1
 obtain⟨OP,⟨O,T⟩⟩:=U3 n b q h ah ah;obtain⟨P2,M⟩:=D 1 b (q+1+1) h ah ah;have Q:=M.b;obtain⟨N,⟨W,W2,W3,_⟩⟩:=J b (q+1+1) h ah ah;obtain⟨P7,K⟩:=v b (q+1+1) h ah ah;have Kb:=K.b;have K1:=K.lo;have K2:=K.hi;obtain⟨o,j⟩:=v b (f7 (b,q+1+1,())).2.2.2.2.2.2.2.1 h ah ah;have l:=j.b;have i:=E.k.at (Int.toNat 0);obtain⟨Z,⟨B,S⟩⟩:=I (e.cache.getD (Int.toNat 0) default).blk b (q+1+1) i.2.1 h ah ah;have Bb:=B.b;obtain⟨A,H1⟩:=U1 3 [⟨1,0,0,0⟩] (by decide);have lw:((lower 3 [⟨1,0,0,0⟩]).ops.length:Int)<=5000:=BG 3 [⟨1,0,0,0⟩];have m:(lower 3 [⟨1,0,0,0⟩]).ops.length<1000000:=by omega
 have Y:=afO 3 [⟨1,0,0,0⟩];have a:=E.kl;have f:e.ay.outs.length<=2000:=Nat.le_trans E.o (by decide);have d:=E.cl;have V:0<e.cache.length->0<=(e.cache.getD (Int.toNat 0) default).blk.pc/\(e.cache.getD (Int.toNat 0) default).blk.pc<e.ay.mem.length:=λg=>by rw [getD_lt (show Int.toNat 0<_ from g)];exact E.v _ (getElem_mem _)
 have fin:∀(M:aG) (K:List Cac) (C:List Cer) (r:Int),MSh M->M.outs.length<=2000->ShK K->K.length<=10->ShC C->C.length<=10->p<=r->r<=p+40000000->EoD b p (⟨M,K,C⟩,b,r,()):=λM K C r a1 a2 a3 U X a6 F a8=>⟨a1,a2,a3,U,X,a6,rfl,F,a8⟩
 have L:∀x:Cac,(([x]:List Cac).length:Int)=1:=λ_=>rfl
 have G:∀x:Cer,(([x]:List Cer).length:Int)=1:=λ_=>rfl
 dsimp only [Xl,gm,mJ];simp (disch:=omega) only [RR,CAB,mE,mI,w,H,R,P,O,T,OP,P2,Q,N,W,P7,Kb,o,l,Z,Bb,A,H1,L,G]
 repeat' (first | (refine And.intro ?_ ?_) | intro _)
 all_goals try omega
 .exact fin ⟨_,_,_,_,_,_,_,_,_,_⟩ _ _ _ ⟨Nat.lt_of_le_of_lt M.r (by decide),Nat.lt_of_le_of_lt M.m (by decide),Nat.lt_of_le_of_lt M.i (by decide),Nat.lt_of_le_of_lt M.o (by decide)⟩ (Nat.le_trans M.o (by decide)) E.k (Nat.le_trans a (by decide)) E.c (Nat.le_trans d (by decide)) (Int.le_trans ah M.lo) (Int.le_trans M.hi ah)
 .exact fin e.ay _ _ _ E.m f (E.k.add ah (show 1<1000 by decide) m Y) (Nh a) E.c (Nat.le_trans d (by decide)) ah ah
 .exact fin e.ay _ _ _ E.m f (E.k.set _ i.1 (Nat.lt_of_le_of_lt B.len i.2.1) (show _<=(1000000:Int) by rw [S];exact i.2.2)) (Nat.le_trans (Nat.le_of_eq length_set) (Nat.le_trans a (by decide))) E.c (Nat.le_trans d (by decide)) (Int.le_trans ah B.lo) (Int.le_trans B.hi ah)
 .exact fin e.ay _ _ _ E.m f E.k (Nat.le_trans a (by decide)) E.c (Nat.le_trans d (by decide)) ah ah
 .exact fin e.ay _ _ _ E.m f E.k (Nat.le_trans a (by decide)) (E.c.add ah (Nat.lt_of_le_of_lt K.len (by decide)) (Nat.lt_of_le_of_lt j.len (by decide))) (Nh (Nat.le_trans d (by decide))) (Int.le_trans ah j.lo) (Int.le_trans j.hi ah)
 .exact fin ⟨_,_,_,_,_,_,_,_,_,_⟩ _ _ _ ⟨E.m.1,by rw [length_set];exact E.m.2.1,E.m.2.2⟩ f E.k (Nat.le_trans a (by decide)) E.c (Nat.le_trans d (by decide)) ah ah
 .exact fin e.ay _ _ _ E.m f E.k (Nat.le_trans a (by decide)) E.c (Nat.le_trans d (by decide)) ah ah
 .exact fin e.ay _ _ _ E.m f (E.k.add ah i.1 i.2.1 i.2.2) (Nh a) E.c (Nat.le_trans d (by decide)) ah ah
 .exact fin e.ay _ _ _ E.m f E.k (Nat.le_trans a (by decide)) E.c (Nat.le_trans d (by decide)) ah ah
 .exact fin e.ay _ _ _ E.m f E.k (Nat.le_trans a (by decide)) E.c (Nat.le_trans d (by decide)) ah ah
def ajI{y:Eng}(h:vI y):y.cache.filter (dK y.ay.mem)=y.cache:=by
 refine filter_eq_self.2 λx b=> ?_
 obtain⟨i,a,rfl⟩:=getElem_of_mem b;have k:=h.2.1.2.1 i ah ah;rw [show((i:Int)).toNat=i from rfl,getD_lt a]at k;exact aL ⟨k.1.2.1.pc.1,k.2⟩
abbrev atM(a : Int × List Int × Int × Unit -> Bool)(c : Int × List Int × Int × Unit -> Eng × List Int × Int × Unit) : Prop := ∀ n b p, Bt b -> 0 <= p -> p < 200000000 -> a (n, b, p, ()) = true /\ EoD b p (c (n, b, p, ()))
def apZ{p1 f1 p2 f2}(f:Y41 p1 f1)(h:atM p2 f2)(c:List Int)(hc:By c)(e:c.length<1000000000):Xm.F (p1,f1,p2,f2,()) (c,()) (λy=>MSh y.1.ay/\y.1.ay.outs.length<=2000/\ShK y.1.cache/\ShC y.1.aX):=by
 obtain⟨d,g⟩:=(f c hc e).2;generalize a:(f1 (c,())).1=b at d;obtain⟨i,E⟩:=h 2 b 0 d ah ah;dsimp only [Xm,gm];simp (disch:=omega) only [RR,(f c hc e).1,a,g,i];exact⟨E.m,E.o,E.k,E.c⟩
abbrev avn(b : List Int × Unit -> Bool)(a : List Int × Unit -> Eng × Unit) : Prop := ∀ c, By c -> c.length < 1000000000 -> b (c, ()) = true /\ MSh (a (c, ())).1.ay /\ (a (c, ())).1.ay.outs.length <= 2000 /\ ShK (a (c, ())).1.cache /\ ShC (a (c, ())).1.aX
variable{l:List Cac}{cs:List Cer}
def akt:∀w:List Int,kr w=D5 w
 | []=>rfl
 | w::r=>by unfold kr D5;rw [akt r]
structure KpE(l:List Cac)(cs:List Cer):Prop where
 n:l.length<=4
 r:∀x∈l,nH x
 u:l.Pairwise λa b=>a.blk.pc≠b.blk.pc
 p:uS cs
def aku{e:Eng}(h:vI e):KpE e.cache e.aX:=⟨h.2.1.1,λx c=>by
 obtain⟨i,a,rfl⟩:=getElem_of_mem c;have k:=h.2.1.2.1 i ah ah;rw [show((i:Int)).toNat=i from rfl,getD_lt a]at k;exact k.1,pairwise_iff_getElem.2 λi j a b d=>by
 have k:=h.2.1.2.2 i j ah ah ah
 rwa [show((i:Int)).toNat=i from rfl,show((j:Int)).toNat=j from rfl,getD_lt a,getD_lt b]at k,h.2.2⟩
def afS(h:KpE l cs){m:aG}(hm:MOK m):vI ⟨m,l.filter (dK m.mem),cs⟩:=by
 refine⟨hm,⟨Nat.le_trans (length_filter_le _ _) h.n,λj b a=> ?_,λi j c d a=> ?_⟩,h.p⟩
 .rw [getD_lt (show j.toNat< (l.filter (dK m.mem)).length by dsimp only at a;omega)];have k:=mem_filter.1 (getElem_mem (show j.toNat< (l.filter (dK m.mem)).length by dsimp only at a;omega));exact⟨h.r _ k.1,(aH.1 (show bp _=true from k.2)).2⟩
 .dsimp only at a ⊢;rw [getD_lt (show i.toNat< (l.filter (dK m.mem)).length by omega),getD_lt (show j.toNat< (l.filter (dK m.mem)).length by omega)];exact pairwise_iff_getElem.1 (h.u.filter _) _ _ _ _ ah
def ap0{b:Blk}(hc:uS cs)(d:bR b)(a:Ask):chk b (lQ cs b a).1=true/\uS (lQ cs b a).2:=by
 have s:chk b b=true:=by rw [afs,aL d]
 unfold lQ;split
 .exact⟨s,hc⟩
 split
 .rename_i g;obtain⟨q,f,e,h⟩:=aH.1 g;have:=hc.2 q f;rw [e,h]at this;exact⟨this,hc⟩
 split
 .rename_i g;refine⟨g,by unfold M6;rw [length_drop,length_append,length_singleton];omega,λq c=> ?_⟩;have c:=mem_of_mem_drop c;rw [mem_append,mem_singleton]at c;rcases c with k | rfl
  .exact hc.2 q k
  .exact g
 .exact⟨s,hc⟩
def aah{cs c:List Cer}(h:KpE l cs){x:Cac}(g:nH x)(hc:uS c):KpE (kD l x) c:=by
 refine⟨?_,λy d=> ?_,?_,hc⟩
 .unfold kD;rw [length_drop,length_append,length_singleton];omega
 .have d:=mem_of_mem_drop (show y∈drop _ _ from d);rw [mem_append,mem_singleton]at d;rcases d with k | rfl
  .exact h.r y (mem_filter.1 k).1
  .exact g
 .unfold kD;refine Pairwise.sublist (drop_sublist _ _) ?_;rw [pairwise_append];refine⟨h.u.filter _,pairwise_singleton _ _,λa f b e=> ?_⟩;rw [mem_singleton]at e;subst e;have:=(mem_filter.1 f).2;simpa [neP]using this
def Qe(mem:List Int):∀(n:Nat) (p:Int),0<=p->∀t:Nat,t< (dF mem n p).length->((mem).getD (p+t).toNat default)=gH ((dF mem n p).getD t default)
 | 0,_,_,t,h=>absurd h (by simp [dF])
 | n+1,p,p0,t,h=>by
  unfold dF at h ⊢;split at h
  .rename_i g;rw [if_pos g];obtain⟨d,⟨a,b⟩,c⟩:=aH.1 g;have z:gH (eH ((mem).getD (p).toNat default))=((mem).getD (p).toNat default):=afL a b;split at h
   .rename_i e;rw [if_pos e];have:t=0:=by simp at h;omega
    subst this;rw [show p+((0:Nat):Int)=p by omega];exact z.symm
   .rename_i e;rw [if_neg e];cases t with
    | zero=>rw [show p+((0:Nat):Int)=p by omega];exact z.symm
    | succ t=>
     have:=Qe mem n (p+1) ah t (by simpa using h);rw [show p+((t+1:Nat):Int)=p+1+t by omega,this];rfl
  .exact absurd h (by simp)
def ap1{e:Eng}(ok:vI e)(a:Ask):KpE (dG e a).1.cache (dG e a).1.aX/\(0<=(dG e a).2.1->nH ((((dG e a).1.cache).getD ((dG e a).2.1).toNat default))/\((((dG e a).1.cache).getD ((dG e a).2.1).toNat default)).blk.pc=e.ay.pc/\There ((((dG e a).1.cache).getD ((dG e a).2.1).toNat default)).words e.ay.mem e.ay.pc):=by
 have K:=aku ok;have fc:=XP e.cache e.ay.pc;have B:=qb e.ay;unfold dG;split
 .refine⟨K,λg=> ?_⟩;rcases fc with f | ⟨t,s,n,_⟩
  .dsimp only at g;omega
  .have k:=ok.2.1.2.1 _ t s;dsimp only;rw [n]at k;exact⟨k.1,n,k.2⟩
 split
 .exact⟨K,λg=>absurd (show(0:Int)<= -1 from g) (by decide)⟩
 .rename_i g;obtain⟨m,c⟩:=B.2 ah;have ir:=kW c;have A:=ap0 K.p ir a;have Q:=XQ A.1;have q:=La c;have al:∀i∈findF e.ay,bP i:=λi o=>by
   obtain⟨j,h,rfl⟩:=getElem_of_mem o;have:=(c.ok j h).1
   rwa [getD_lt h]at this
  have r:kr ((findF e.ay).map gH)=findF e.ay:=by rw [akt,K8 al]
  have l:(lQ e.aX (lower e.ay.pc (findF e.ay)) a).1.pc=e.ay.pc:=by rw [<-Q.2.2.1,q]
  have R:nH ⟨(findF e.ay).map gH,(lQ e.aX (lower e.ay.pc (findF e.ay)) a).1⟩:=by
   unfold nH;dsimp only;rw [r,l,length_map];exact⟨rfl,c,A.1⟩
  refine⟨aah K R A.2,λ_=> ?_⟩;dsimp only;rw [Dk];refine⟨R,l,λk u d=> ?_⟩;rw [length_map]at d;have p:=c.pc;have v:=m.m64;refine⟨ah,?_⟩;have b:=Qe e.ay.mem 8 e.ay.pc p.1 k.toNat;unfold findF at d ⊢;rw [aL m,if_pos rfl]at d ⊢;have b:=b ah;rw [show((k.toNat:Nat):Int)=k by omega]at b;rw [b,getD_lt ah,getD_lt (by rw [length_map];omega),getElem_map]
structure TuL(e:Eng)(q:List Int)(left:Int)(x:Eng)(k:Nat):Prop where
 ok:vI x
 k1:1<=k
 kl:(k:Int)<=left
 run:Dh q k e.ay=x.ay
 cnt:(k:Int)=x.ay.count-e.ay.count+(if 2<=x.ay.halt then 1 else 0)
end Go.TX.F
namespace Go.TX.F
open Go Go.AE Go.TX List
def abj:Ask:=⟨true,[]⟩
noncomputable def ap2 (q:List Int) (d:Int):Nat->Eng->List Ask->Eng
 | 0,e,_=>e
 | f+1,e,l=>if e.ay.halt=0/\e.ay.count<1000000/\e.ay.count<d then ap2 q d f (goE e q (d-e.ay.count) (l.headD abj)).1 (if(goE e q (d-e.ay.count) (l.headD abj)).2=true then l.tail else l)else e
def avo(d:Int)(e:Eng):Nat:=(d-e.ay.count).toNat+(if e.ay.halt=0 then 1 else 0)
variable{cs:List Cer}
def ap3{b:Blk}(hc:uS cs)(a:Ask):(lQ cs b a).1=if(mdF b a).2=true/\chk b (mdF b a).1=true then(mdF b a).1 else b:=by
 unfold lQ;cases hm:(mdF b a).2 with
 | false=>rw [if_pos rfl,if_neg (λz=>by cases z.1)]
 | true=>
  rw [if_neg (by decide)];split
  .rename_i g;obtain⟨q,d,c,e⟩:=aH.1 g;have:=hc.2 q d;rw [c,e]at this;rw [if_pos ⟨rfl,this⟩]
  split
  .rename_i g;rw [if_pos ⟨rfl,g⟩]
  .rename_i g;rw [if_neg (λz=>g z.2)]
def ajJ{b:Blk}(hc:uS cs)(c:bR b){a:Ask}(h:a.own=true):(lQ cs b a).1=kV b:=by
 rw [ap3 hc];unfold mdF;rw [if_pos h,if_pos ⟨rfl,(K6 c).chk⟩]
end Go.TX.F
namespace Go.TX.F
open Go Go.AE Go.TX List
def aai(l:List Cac)(mem:List Int)(j:Int):Prop:=dK mem ((l).getD (j).toNat default)=true/\nH ((l).getD (j).toNat default)/\FC l (((l).getD (j).toNat default)).blk.pc j
def aaj(l:List Cac)(mem:List Int):xu l mem↔l.length<=4/\∀j:Int,0<=j->j<l.length->aai l mem j:=by
 refine⟨λ⟨h,g,m⟩=>⟨h,λj f d=> ?_⟩,λ⟨h,g⟩=>⟨h,λj f d=> ?_,λi j k o d e=> ?_⟩⟩
 .obtain⟨a,b⟩:=g j f d;exact⟨aL ⟨a.2.1.pc.1,b⟩,a,Or.inr ⟨f,d,rfl,λi k n=>m i j k n d⟩⟩
 .obtain⟨a,b,_⟩:=g j f d;exact⟨b,(aH.1 (show bp _=true from a)).2⟩
 .obtain⟨_,_,c⟩:=g j ah d;rcases c with⟨c,_⟩ | ⟨_,_,_,c⟩
  .omega
  .exact c i k o e
theorem avp{p1 f1}(k:afI p1 f1)(w:List Int)(h:w.length<1000000000):alX.F (p1,f1,()) (w,()) (λy=>y=(kr w,())):=by
 have e:∀x y z u:Int,Co.mk .ins (x,y,z,u,())=⟨x,y,z,u⟩:=λ_ _ _ _=>rfl
 dsimp only [alX,gm];simp only [RR];refine au (λ(y:List Int×Int×Int×avL)=>y.1=w/\y.2.1=w.length/\0<=y.2.2.1/\y.2.2.1<=w.length/\y.2.2.2.1=(w.take y.2.2.1.toNat).map eH/\∀x∈w.take y.2.2.1.toNat,Wo x/\bP (eH x)) (λy=>(w.length-y.2.2.1).toNat) ⟨rfl,rfl,by simp,by simp,by simp,by simp⟩ ?_;rintro⟨(w:List Int),(n:Int),(i:Int),(o:List Ins),⟨⟩⟩ hI;dsimp only at hI ⊢;obtain⟨rfl,rfl,j,p,rfl,a⟩:=hI;simp (disch:=omega) only [RR,k];have r:=length_take_le' i.toNat w;refine⟨λg=>⟨j,g,?_⟩,λg=> ?_⟩
 .have dr:w=w.take i.toNat++(w.getD i.toNat default::w.drop (i.toNat+1)):=by
   rw [getD_lt ah,<-drop_eq_getElem_cons ah,take_append_drop]
  unfold tkI;by_cases c:Wo (w.getD i.toNat default)/\bP (eH (w.getD i.toNat default))
  .rw [if_pos (aL c)];simp (disch:=omega) only [RR,e];have b:=bq (d:=default) j g (l:=w) rfl;have m:((w.take i.toNat).map eH).length=i.toNat:=by rw [length_map,length_take];omega
   refine⟨by rw [m];simp only [length_cons,length_nil];omega,⟨ah,ah,by rw [<-b,map_append];rfl,λx f=> ?_⟩,ah⟩;rw [<-b,mem_append,mem_singleton]at f;exact f.elim (a x) (λq=>q▸c)
  .rw [if_neg (by rw [aV c];decide)];simp (disch:=omega) only [RR]
   conv=>rhs;rw [dr]
   rw [xq _ _ a,kr,if_neg (by rw [aV c];decide),append_nil]
   done
 .rw [take_of_length_le ah]at a ⊢;have:=xq w [] a;rw [append_nil]at this;rw [this];simp [kr]
theorem atN{p1 f1 p2 f2 p3 f3 p4 f4 p5 f5 p6 f6}(H:atf p1 f1)(B:atc p2 f2)(I:atw p3 f3)(S:atI p4 f4)(K:atz p5 f5)(J:Y96 p6 f6)(l:List Cac)(mem:List Int)(h:ShX l)(hm:mem.length<1000000000):aeK.F (p1,f1,p2,f2,p3,f3,p4,f4,p5,f5,p6,f6,()) (l,mem,()) (λy=>y=(bp (xu l mem),())):=by
 have mE:∀c:Blk,Co.mk .blk (c.pc,c.len,c.ops,c.fin,c.x,c.y,c.k,())=c:=λ_=>rfl
 have mC:=CAM;have R:=h.1;dsimp only [aeK,gm,mJ];refine au (λ(y:List Cac×List Int×List Cac×ni)=>y.1=l/\y.2.1=mem/\y.2.2.1=l/\y.2.2.2.1=l.length/\0<=y.2.2.2.2.1/\y.2.2.2.2.1<=l.length/\∀j:Int,0<=j->j<y.2.2.2.2.1->aai l mem j) (λy=>(l.length-y.2.2.2.2.1).toNat) ⟨rfl,rfl,rfl,rfl,by simp,by simp,λj Y P=>absurd P (by simp;omega)⟩ ?_;rintro⟨(V:List Cac),(b:List Int),(a:List Cac),(n:Int),(i:Int),⟨⟩⟩ hI;dsimp only at hI ⊢;obtain⟨rfl,rfl,rfl,rfl,u,W,w⟩:=hI;obtain⟨v,N⟩:=h.at i.toNat;have X:=Nc (((a).getD (i).toNat default)).words;obtain⟨D,T⟩:=I (((a).getD (i).toNat default)).words v;obtain⟨G,O⟩:=S ((a).getD (i).toNat default) b v hm;obtain⟨L,E⟩:=B (((a).getD (i).toNat default)).blk.pc (kr (((a).getD (i).toNat default)).words) ah;obtain⟨x,Q⟩:=H (((a).getD (i).toNat default)).blk.pc (kr (((a).getD (i).toNat default)).words) ah;have U:((lower (((a).getD (i).toNat default)).blk.pc (kr (((a).getD (i).toNat default)).words)).ops.length:Int)<=5000:=BG _ _;obtain⟨F,C⟩:=J (lower (((a).getD (i).toNat default)).blk.pc (kr (((a).getD (i).toNat default)).words)) (((a).getD (i).toNat default)).blk ah N;obtain⟨M,t⟩:=K a (((a).getD (i).toNat default)).blk.pc R;generalize hk:(f5 (a,(((a).getD (i).toNat default)).blk.pc,())).1=k at t;by_cases c:i<a.length
 .simp (disch:=omega) only [RR,CAB,mE,c,x,Q,L,E,D,T,G,O,M,hk,F,C];have m:aai a b i↔((dK b ((a).getD (i).toNat default)=true/\((kr (((a).getD (i).toNat default)).words).length:Int)=(((a).getD (i).toNat default)).words.length)/\bp (oC (((a).getD (i).toNat default)).blk.pc (kr (((a).getD (i).toNat default)).words))=true)/\chk (lower (((a).getD (i).toNat default)).blk.pc (kr (((a).getD (i).toNat default)).words)) (((a).getD (i).toNat default)).blk=true/\k=i:=
   ⟨λ⟨d,⟨p,f,q⟩,o5⟩=>⟨⟨⟨d,ah⟩,aL f⟩,q,FC.one t o5⟩,λ⟨⟨⟨d,p⟩,f⟩,q,o5⟩=>⟨d,⟨ah,aH.1 f,q⟩,o5▸t⟩⟩
  have r:¬aai a b i->((false,()):mQ)=(bp (xu a b),()):=λn=>by rw [aV (λz=>n (((aaj a b).1 z).2 i u c))]
  refine⟨u,λg=>⟨λe=>r (λo=> ?_),λe=>⟨⟨ah,ah,λj s A=> ?_⟩,ah⟩⟩,λg=>⟨g,r (λo=> ?_),λz=>z.1.elim⟩⟩
  .obtain⟨⟨⟨d,p⟩,f⟩,q,o5⟩:=m.1 o;rcases e with(((e | e) | e) | e) | e
   .rw [d]at e;cases e
   .exact e p
   .rw [f]at e;cases e
   .rw [q]at e;cases e
   .exact e o5
  .by_cases z:j<i
   .exact w j s z
   .rw [show j=i by omega];exact m.2 ⟨e.1.1,e.1.2,e.2⟩
  .obtain⟨⟨⟨d,p⟩,f⟩,_⟩:=m.1 o;rcases g with(e | e) | e
   .rw [d]at e;cases e
   .exact e p
   .rw [f]at e;cases e
 .simp (disch:=omega) only [RR,c];refine Prod.ext (Bool.eq_iff_iff.2 ?_) rfl;rw [decide_eq_true_eq,aH,aaj];exact⟨λg=>⟨ah,λj s A=>w j s ah⟩,λg=>by have:=g.1;omega⟩
abbrev mK(K : List Cac)(C : List Cer)(m : aG) : Int × Int × Bool × Bool × Int × List Int × Int × List Cac × List Cer × List Int × List Int × List Int × Unit := (m.pc, m.save, m.bG, m.waits, m.halt, m.ins, m.count, K, C, m.regs, m.mem, m.outs, ())
structure EgZ(e:Eng):Prop where
 m:MSh e.ay
 o:e.ay.outs.length<600000000
 k:ShK e.cache
 c:ShC e.aX
def AsK(l:List Ask):Prop:=l.length<1000000000/\∀a∈l,By a.bytes/\a.bytes.length<1000000000
abbrev mC(K : List Cac)(C : List Cer)(m : aG) : Int × Int × Bool × Bool × Int × List Int × Int × List Cer × List Int × List Int × List Int × List Cac × Unit := (m.pc, m.save, m.bG, m.waits, m.halt, m.ins, m.count, C, m.regs, m.mem, m.outs, K, ())
theorem avq{p1 f1 p2 f2 p3 f3}(v:afA p1 f1)(t:afI p2 f2)(w:XK p3 f3)(m:aG)(h:MSh m):al2.F (p1,f1,p2,f2,p3,f3,()) (m,()) (λy=>y=(findF m,())):=by
 have p:=λa=>(v a).1
 have f:=λa=>(v a).2
 have k:=λa=>(t a).1
 have s:=λa=>(t a).2
 have r:=λa l=>(w a l).1
 have j:=λa l=>(w a l).2
 replace f:∀i:Int,f1 (i,())=(bp (11<=i/\i<=13),()):=λi=>by rw [f i,Prod.ext_iff];exact⟨by rw [Bool.eq_iff_iff,bD,aH],rfl⟩
 have C:∀x y z u:Int,Co.mk .ins (x,y,z,u,())=⟨x,y,z,u⟩:=λ_ _ _ _=>rfl
 dsimp only [al2,gm,pF];simp (disch:=omega) only [RR,MRB,r _ h,j _ h];refine⟨λg=>by unfold findF;rw [g];rfl,λg=> ?_⟩;have ok:=aH.1 g;have A:0<=m.pc/\m.pc<=65535:=ok.pc;have F:=ok.m64;have E:findF m=dF m.mem 8 m.pc:=by unfold findF;rw [g,if_pos rfl]
 rw [E];generalize D:dF m.mem 8 m.pc=G;refine au (λ(y:Int×aG×avL)=>0<=y.1/\y.1<=70000/\y.2.1=m/\y.2.2.1.length<=8/\y.2.2.1++dF m.mem (8-y.2.2.1.length) y.1=G) (λy=>(8- (y.2.2.1.length:Int)).toNat) ⟨A.1,by dsimp only;omega,rfl,by simp,by simpa using D⟩ ?_;rintro⟨(i:Int),(m:aG),(o:List Ins),⟨⟩⟩ hI;dsimp only at hI ⊢;obtain⟨I,H,rfl,J,b⟩:=hI;simp (disch:=omega) only [RR,p,f,k,s,MRB,F,length_cons,length_nil,length_append,C];refine⟨λc=> ?_,λc=> ?_⟩
 .obtain⟨n,hn⟩:∃n,8-o.length=n+1:=⟨8-o.length-1,ah⟩;rw [hn]at b;unfold dF at b;by_cases z:Wo ((m.mem).getD (i).toNat default)/\bP (eH ((m.mem).getD (i).toNat default))
  .rw [aks z];generalize hd:eH ((m.mem).getD (i).toNat default)=d at*;have B:(⟨d.op,d.d,d.a,d.k⟩:Ins)=d:=rfl;dsimp only;rw [B];refine⟨ah,ah,λe=> ?_,λe=>⟨ah,λq=> ?_,λq=>⟨⟨ah,ah,ah,?_⟩,ah⟩⟩⟩
   .rw [if_neg (by rw [aV (λy=>y.2.2 (by simpa using e))];decide)]at b;rw [<-b,append_nil]
   .rw [if_pos (aL ⟨ah,z,by simpa using e⟩),if_pos q]at b;rw [<-b]
   .rw [if_pos (aL ⟨ah,z,by simpa using e⟩),if_neg (by rw [q];decide)]at b;rw [show 8- (o.length+1)=n by omega,<-b,append_assoc];rfl
  .have tf:(tkI ((m.mem).getD (i).toNat default)).2.2.2.2.1=false:=by unfold tkI;rw [if_neg (by rw [aV z];decide)]
   rw [if_neg (by rw [aV (λy=>z y.2.1)];decide),append_nil]at b;rw [tf];refine⟨ah,ah,λ_=>by rw [<-b],λe=>by simp at e⟩
 .rw [<-b];by_cases z:o.length<8
  .obtain⟨n,hn⟩:∃n,8-o.length=n+1:=⟨8-o.length-1,ah⟩;rw [hn];unfold dF;have c:=Bool.and_eq_false_iff.1 c;rw [decide_eq_false_iff_not,decide_eq_false_iff_not]at c;rw [if_neg (by rw [aV (λy=>by have:=y.1;omega)];decide),append_nil]
  .rw [show 8-o.length=0 by omega];unfold dF;rw [append_nil]
structure avK(b:Blk)(c:Int)(s:MS):Prop where
 ok:MOK s.m
 wv:Wos s.vals
 d:(s.left=false/\s.m.count=c/\s.m.halt=0/\s.m.pc=b.pc)\/(s.left=true/\((s.m.halt=0/\c<s.m.count/\s.m.count<=c+b.len)\/(s.m.halt=3/\c<=s.m.count/\s.m.count<c+b.len)))
structure RnI(e:Eng)(q:List Int)(n:Int)(l:List Ask)(x:Eng)(f:Nat)(r:List Ask):Prop where
 ok:vI x
 s:EgS x (e.ay.outs.length+50*(n.toNat+1-f))
 o:avo (e.ay.count+n) x<=f
 fl:f<=n.toNat+1
 run:ap2 q (e.ay.count+n) f x r=ap2 q (e.ay.count+n) (n.toNat+1) e l
 a:AsK r
structure DrR(y:Eng×Int×List Int×List Ask×Unit):Prop where
 z:EgZ y.1
 o:y.1.ay.outs.length<=2000
 n: -1000<=y.2.1/\y.2.1<=1000
 q:y.2.2.1.length<1000
 a:AsK y.2.2.2.1
structure DrT(y:Eng×Int×Bool×Ms):Prop where
 z:EgZ y.1
 o:y.1.ay.outs.length<=2000
 n: -1000<=y.2.1/\y.2.1<=400
 q:y.2.2.2.1.length<1000
 a:By y.2.2.2.2.1
 l:y.2.2.2.2.1.length<1000000000
def ap4{p1 f1 p2 f2}(f:Y41 p1 f1)(h:atM p2 f2)(c:List Int)(hc:By c)(e:c.length<1000000000):Xo.F (p1,f1,p2,f2,()) (c,()) (λy=>ShK y.1/\y.2.1.length<1000000000):=by
 obtain⟨d,g⟩:=(f c hc e).2;generalize a:(f1 (c,())).1=b at d;obtain⟨i,E⟩:=h 2 b 0 d ah ah;dsimp only [Xo,gm];simp (disch:=omega) only [RR,(f c hc e).1,a,g,i,EGB];exact⟨E.k,E.m.2.1⟩
def Rj{m:aG}{C:List Cer}(h:MOK m)(b:uS C):vI ⟨m,[],C⟩:=afS (l:=[]) ⟨by decide,λx a=>(by cases a),Pairwise.nil,b⟩ h
theorem abk{e:Eng}(ok:vI e)(h:0< (findF e.ay).length):nH ⟨(findF e.ay).map gH,kV (lower e.ay.pc (findF e.ay))⟩/\(kV (lower e.ay.pc (findF e.ay))).pc=e.ay.pc/\There ((findF e.ay).map gH) e.ay.mem e.ay.pc:=by
 have b:vI ⟨e.ay,[],e.aX⟩:=Rj ok.1 ok.2.2;have F:=(ap1 b abj).2;have d:=((qb e.ay).2 h).2;have f:=ajJ (a:=abj) ok.2.2 (kW d) rfl;have g:dG ⟨e.ay,[],e.aX⟩ abj=(⟨e.ay,kD [] ⟨(findF e.ay).map gH,kV (lower e.ay.pc (findF e.ay))⟩,(lQ e.aX (lower e.ay.pc (findF e.ay)) abj).2⟩,((kD [] ⟨(findF e.ay).map gH,kV (lower e.ay.pc (findF e.ay))⟩).length:Int)-1,true):=by
  have c:fcI [] e.ay.pc= -1:=rfl;unfold dG;dsimp only;rw [c,if_neg (by decide),if_neg ah,f]
 rw [g]at F;have i:0< (kD [] ⟨(findF e.ay).map gH,kV (lower e.ay.pc (findF e.ay))⟩).length:=by rw [ajH,length_append];exact Nat.succ_pos _
 have F:=F (by dsimp only;omega);dsimp only at F;rw [Dk]at F;exact F
def afT{e:Eng}(ok:vI e){x:Cac}(b:dK e.ay.mem x=true):(kD e.cache x).filter (dK e.ay.mem)=kD e.cache x:=by
 refine filter_eq_self.2 λy a=> ?_
 have a:=mem_of_mem_drop (show y∈drop _ _ from a);rw [mem_append,mem_singleton]at a;rcases a with k | rfl
 .have k:=(mem_filter.1 k).1;rw [<-ajI ok]at k;exact(mem_filter.1 k).2
 .exact b
set_option maxHeartbeats 2000000 in
theorem ap5{p1 f1 p2 f2 p3 f3 p4 f4 p5 f5 p6 f6 p7 f7 p8 f8 p9 f9 p11 f11 p12 f12 p13 f13}{q:bf->Bool}{f:bf->Ns}(U1:apH p1 f1)(U:atf p2 f2)(U3:ao7 p3 f3)(U4:apq p4 f4)(n:apm p5 f5)(W:avm p6 f6)(U7:auS p7 f7)(U8:Y47 p8 f8)(x:apm p9 f9)(v:∀c,By c->c.length<1000000000->q (c,())=true/\ShK (f (c,())).1/\(f (c,())).2.1.length<1000000000)(D:avn p11 f11)(E:atB p12 f12)(s:Y10 p13 f13)(c:List Int)(hc:By c):Xp.F (p1,f1,p2,f2,p3,f3,p4,f4,p5,f5,p6,f6,p7,f7,p8,f8,p9,f9,q,f,p11,f11,p12,f12,p13,f13,()) (c,()) (λy=>y=(true,())):=by
 have mM:=MKM;have mE:∀c:Blk,Co.mk .blk (c.pc,c.len,c.ops,c.fin,c.x,c.y,c.k,())=c:=λ_=>rfl
 have N:∀(w:List Int) (b:Blk),Co.mk .cac (w,b.pc,b.len,b.ops,b.fin,b.x,b.y,b.k,())=⟨w,b⟩:=λ_ _=>rfl
 dsimp only [Xp,gm,pF,mJ,map_cons,map_nil]at N ⊢;by_cases r:1048576< (c.length:Int)
 .simp (disch:=omega) only [RR,r]
 obtain⟨l,⟨i,j⟩⟩:=v c hc ah;generalize u:f (c,())=y at*;obtain⟨k,⟨o,m2,p,I⟩⟩:=D c hc ah;generalize t:f11 (c,())=z at*;obtain⟨e,⟨⟩⟩:=z;obtain⟨K,mem,⟨⟩⟩:=y;dsimp only at i j o m2 p I;obtain⟨h,a⟩:=E e o p.x I.d;obtain⟨F,O⟩:=U1 e.ay o;have C:(bp (xu K mem)==bp (xu K mem))=true:=beq_self_eq_true _;by_cases ok:vI e
 case neg=>
  rw [aV ok]at a;simp (disch:=omega) only [RR,r,k,t,l,u,n K mem i.x j,x K mem i.x j,h,a,C,U8]
 rw [aL ok]at a;by_cases g:(findF e.ay).length=0
 .have A:(((findF e.ay).length:Int)=0)=True:=eq_true ah;simp (disch:=omega) only [RR,r,k,t,l,u,n K mem i.x j,x K mem i.x j,h,a,C,EGB,mM,F,O,A,n e.cache e.ay.mem p.x o.2.1,aL ok.2.1]
 .obtain⟨r1,r2,r3⟩:=abk ok ah;have A:(((findF e.ay).length:Int)=0)=False:=eq_false ah;have fl:=(qb e.ay).1;have lw:=BG e.ay.pc (findF e.ay);obtain⟨P2,V⟩:=U e.ay.pc (findF e.ay) ah;obtain⟨P3,H3⟩:=U3 (findF e.ay) ah;have bk:=((qb e.ay).2 ah).2;have G:=ok.1.m64;have pb:=bk.pc;have ol:=Dc (lower e.ay.pc (findF e.ay));generalize lower e.ay.pc (findF e.ay)=b at*;obtain⟨P7,H7⟩:=U7 b ah;generalize kV b=B at*;have T:dK e.ay.mem ⟨(findF e.ay).map gH,B⟩=true:=aL (show 0<=B.pc/\There ((findF e.ay).map gH) e.ay.mem B.pc from⟨ah,r2▸r3⟩);obtain⟨P6,H6⟩:=W e.cache ⟨(findF e.ay).map gH,B⟩ p (by rw [length_map];omega) (by dsimp only;omega) (by dsimp only;omega);have S:=(Ng (e:=⟨(findF e.ay).map gH,B⟩) p (by rw [length_map];omega) (by dsimp only;omega) (by dsimp only;omega)).1;have H:=aah (aku ok) r1 ok.2.2;have L:=(afS H ok.1).2.1;rw [afT ok T]at L;generalize kD e.cache ⟨(findF e.ay).map gH,B⟩=X at*;have k2:=λd (hm:d.length=64) (Q:Wos d)=>(afS (m:={e.ay with mem:=d}) H {ok.1 with m64:=hm,mw:=Q}).2.1
  have wv:IntKind.i64.wrap (((e.ay.mem).getD (e.ay.pc).toNat default)+1)=((e.ay.mem).getD (e.ay.pc).toNat default)+1:=by
   have:=ok.1.mw.at e.ay.pc;exact w64 (by have:=this.1;omega) (by have:=this.2;omega)
  have Z:(e.ay.mem.set e.ay.pc.toNat ((((e.ay.mem).getD (e.ay.pc).toNat default)+1)%65536)).length=64:=by rw [length_set];exact G
  have k3:=k2 _ Z (ok.1.mw.set ⟨ah,ah⟩ _);dsimp only at k3;obtain⟨Y,P⟩:=n X e.ay.mem S.x o.2.1;rw [aL L]at P;obtain⟨P4,H4⟩:=U4 X _ S (show(e.ay.mem.set e.ay.pc.toNat ((((e.ay.mem).getD (e.ay.pc).toNat default)+1)%65536)).length<1000000000 by omega);generalize hM:e.ay.mem.set e.ay.pc.toNat ((((e.ay.mem).getD (e.ay.pc).toNat default)+1)%65536)=M at*;obtain⟨R,J⟩:=n _ M (EU S (dK M)).x ah;rw [aL k3]at J;simp (disch:=omega) only [RR,r,k,t,l,u,n K mem i.x j,x K mem i.x j,h,a,C,EGB,mM,F,O,A,P2,V,mE,P7,H7,RB,P3,H3,N,P6,H6,nil_append,length_nil,wv,s,Y,P,P4,H4,R,J,G,hM];exact⟨ah,ah,ah,ah,ah,ah,ah,ah,ah,rfl⟩
end Go.TX.F
namespace Go.TX
open Go Go.AE
variable{P:Program}{f:FuncId}{v:Value}{W:World}
def enters_of{b:Func}{c:Code}(h:P.funcs[f]? =some b)(a:(b.name== "runtime.NumGoroutine")=false)(e:b.body=some c):Enters P f:=by
 intro d w;have g:b.name≠ "runtime.NumGoroutine" :=by simpa using a
 simp [callFunc,h,g,e,mark]
def aak(P:Program):Nat->List Field->Bool
 | _,[]=>true
 | k,f::fs=> !(f.name== "_")&&f.offset==k&& (match P.underlying f.type with | some (.int _)=>true | _=>false)&&aak P (k+1) fs
def aal(w:World)(d:Nat)(xs a:List Int)(s:xs.length=a.length):∀(g:List Field) (k:Nat),aak P k g=true->k+g.length=xs.length->
  (Op.eqFields (d+1) (xs.map (Value.int .i64)).toArray (a.map (Value.int .i64)).toArray g).run P w= .ok (xs.drop k==a.drop k) w
 | [],k,_,h2=>by
  rw [List.drop_eq_nil_of_le (show xs.length<=k by simp only [List.length_nil]at h2;omega),List.drop_eq_nil_of_le (show a.length<=k by simp only [List.length_nil]at h2;omega)];simp [Op.eqFields]
 | f::g,k,h1,h2=>by
  simp only [List.length_cons]at h2;simp only [aak,Bool.and_eq_true,Bool.not_eq_true',beq_eq_false_iff_ne,beq_iff_eq]at h1;obtain⟨⟨⟨q,l⟩,i⟩,r⟩:=h1;have hk:k<xs.length:=by omega
  have h:k<a.length:=by omega
  obtain⟨j,b⟩:∃j,P.underlying f.type=some (.int j):=by
   cases b:P.underlying f.type with
   | none=>rw [b]at i;cases i
   | some z=>cases z<;>(first | exact⟨_,rfl⟩ | (rw [b]at i;cases i))
  have m:P.plainKey f.type=true:=by unfold Program.plainKey;rw [b]
  have n:=run_part_plain w m (xs:=(xs.map (Value.int .i64)).toArray) (off:=f.offset) (v:= .int .i64 xs[k]) (by rw [l];simp [hk]);have o:=run_part_plain w m (xs:=(a.map (Value.int .i64)).toArray) (off:=f.offset) (v:= .int .i64 a[k]) (by rw [l];simp [h]);have p:=aal w d xs a s g (k+1) r ah;simp only [Op.eqFields,if_pos q,Sem.run_bind,n,o,Result.andThen_ok,run_equalIn_int w d f.type .i64 j _ _ b];have e:(xs.drop k==a.drop k)=((xs[k]==a[k])&& (xs.drop (k+1)==a.drop (k+1))):=by rw [List.drop_eq_getElem_cons hk,List.drop_eq_getElem_cons h];rfl
  rw [e];by_cases c:(xs[k]==a[k])=true
  .rw [c];simp only [Bool.not_true,Bool.false_eq_true,if_false,p,Bool.true_and]
  .have c2:(xs[k]==a[k])=false:=by simpa using c
   rw [c2];simp only [Bool.not_false,if_true,Sem.run_pure,Bool.false_and]
def ap6{t:TypeId}{n:Nat}(c:P.underlying t=some (.struct (P.fieldsOf t)))(f:P.stoodInHeld t=false)(d:P.eqGuardType P.depth t=false)(e:aak P 0 (P.fieldsOf t).toList=true)(hn:(P.fieldsOf t).size=n)(b a:List Int)(g:b.length=n)(h:a.length=n)(w:World):
  (Op.equal t (.agg (b.map (Value.int .i64)).toArray) (.agg (a.map (Value.int .i64)).toArray)).run P w= .ok (b==a) w/\
  (eqGuard .eql t (.tmp 0) (.tmp 0) (.agg (b.map (Value.int .i64)).toArray) (.agg (a.map (Value.int .i64)).toArray)).run P w= .ok () w:=by
 refine⟨?_,run_eqGuard_agg w _ _ _ _ _ _ d⟩;show(Op.equalIn (9999+1) t _ _).run P w=_;rw [run_equalIn_struct w 9999 t _ _ c f,aal w 9998 b a ah _ 0 e (by rw [Array.length_toList];omega)];rfl
noncomputable def never (s:Sig):Ct aF s:={pre:=λ_=>false,fn:=λ_=>Classical.choice (wQ _)}
def mh{E:Tab}{s:Sig}(h:Enters E.P f):dP E f (dL (never s)) where
 enters:=h
 calls:=by
  rintro b g n K ⟨m,d,i,k,j,e,o,a,c,l⟩;exfalso;unfold tF at a;split at a
  .split at a
   .split at a
    .split at a
     .cases a;have:=c false (List.mem_append_right _ (List.mem_singleton.2 rfl));cases this
     .cases a
    .cases a
   .cases a
  .cases a
abbrev avr:Sig:={args:=[.c (.rows true .u8)],objs:=[],res:=[.c .bool],dV:=[]}
def entry(W:World):Ctx:={K:=λ_ b=>b<W.heap.size,ν:=λ_=>none,n:=0}
def XR(W:World):bL (entry W) W []:=
 ⟨λl o h=>(by cases h),λl o c a b h=>(by cases h),λf b ⟨l,o,h,_⟩=>(by cases h),λf b h=>h,λb h=>h⟩
def Qf{W a:World}{b:Ctx}{c:Heap}(g:Grow (entry W) W [] b a c):RowKit.Below W.heap.size W a:=
 ⟨g.os,g.tape,g.output,g.size,λk hk=>g.kept k hk λ⟨l,o,h,_⟩=>by cases h⟩
def ajK{c:Ctx}{w:World}{r:PV}{N:NM}{b:Bool}(g:bK c w v r)(e:PVR N r (.c (.d true (.bool b)))):v= .bool b:=by
 cases e with
 | one h=>
  cases h with
  | c h=>
   cases h with
   | d i _=>
    subst i;cases g with
    | c _ _ f=>cases f with
     | d _ _ _ a=>cases a;rfl
  | agg h=>cases h
def avs{E:Tab}{c:Ct aF avr}(hc:dP E f (dL c)){a:List Int}(p:dM (λb=>b<W.heap.size) W v (.rows 1 (aO .u8 a)))
  (m:qW E (entry W) W) (k:c.pre (a,())=true):Go.Calls E.P f #[v] W λe d=>e= .returned (.bool (c.fn (a,())).1)/\RowKit.Below W.heap.size W d:=by
 refine(hc.calls [.c (.d true (.rows 1 (aO .u8 a)))] [] 0 (λr _ _=>PVR (nmh []) r (.c (.d true (.bool (c.fn (a,())).1)))) ?_ (entry W) W [v] rfl (.cons (.c _ _ (.d true _ _ p)) .nil) (XR W) m).mono ?_
 .refine⟨0,[.c (.d true (.rows .u8 a))],[],.cons (.one (.c (.d rfl λ_=> .inl rfl))) .nil,⟨λl o h=>(by cases h),λ_ _=>rfl⟩,rfl,_,rfl,?_,_,_,rfl,?_⟩
  .intro b hb;rcases List.mem_append.1 hb with h | h
   .cases h
   .rw [List.mem_singleton]at h;rw [h];exact k
  .intro r _ _ h _ _ _;exact h
 .rintro e d he;cases e with
  | returned u=>
   obtain⟨s,r,q,j,g,_,_,n,i⟩:=he;exact⟨by rw [ajK n i],Qf g⟩
  | outgrown=>exact he.elim
  | panicked _=>exact he.elim
open Go.RowKit Go.ChangeShapes Go.WideShapes Go.ChangeAt in
def afU{H:Type}{enc:TypeId×Value->H}{t e:TypeId}(D:P.underlying t=some (.slice e))(K:P.underlying e=some (.int .u8))(hc:P.cellsOf e=1){o:Nat}{d:DataW H}{p:List MemPlace}
  (q:Value.okWide P W .any o t v) (h:DataW.Trod enc P W 0 (λ_=>true) true t v d p) (C:∀x∈p,x.block<W.heap.size):
  ∃G:List Int,dM (λb=>b<W.heap.size) W v (.rows 1 (aO .u8 G))/\∀z∈G,0<=z/\z<=255:=by
 obtain⟨O,len,B,rfl⟩:=okWide_slice D q;obtain⟨F,M⟩:=h;rcases open_ints D K hc M with⟨k,y⟩ | ⟨a,I,E,m,k,_,N,hm,A,y,g,s⟩
 .simp [Value.cells]at k;obtain⟨rfl,rfl,rfl⟩:=k;exact⟨[],.none _ _ _,λ_ h=>by cases h⟩
 .simp [Value.cells]at k;obtain⟨rfl,rfl,rfl⟩:=k;simp only [Prod.mk.injEq]at y;obtain⟨rfl,rfl⟩:=y;simp only [if_true]at A;have u:∀z∈m,0<=z/\z<=255:=λz A=>by
   obtain⟨i,f,rfl⟩:=List.getElem_of_mem A;have:=range_u8 s i
   rwa [List.getElem?_eq_getElem f]at this
  refine⟨m.take len,?_,λz h=>u z (List.mem_of_mem_take h)⟩;by_cases L:len=0
  .subst L;exact .none _ _ _
  .obtain⟨b,off,spot⟩:=a;have n:spot=none:=by simpa [Addr.add]using World.cell?_spot (g 0 ah)
   subst n;have w:b<W.heap.size:=C (.cell b off) (MemPlace.mem_row.2 ⟨0,ah,by simp⟩);have c:(aO .u8 (m.take len)).length=len:=by simp only [aO,List.length_map,List.length_take];omega
   have l:∀i,i<len->(aO .u8 (m.take len)).getD i []=[.int .u8 (m.getD i 0)]:=λi f=>by
    simp only [aO,List.getD,List.getElem?_map,List.getElem?_take_of_lt f,List.getElem?_eq_getElem (show i<m.length by omega)];rfl
   refine .rows b off B 1 len _ (λi j=> .int .u8 (m.getD i 0)) w c.symm N (λi j f J=> ?_) (λi f=> ?_) (λi j f J=> ?_)
   .rw [c]at f;have:=g i ah;rw [add_plain]at this;rw [show off+i*1+j=off+i by omega];exact this
   .rw [c]at f;rw [l i f];rfl
   .rw [c]at f;have r:j=0:=by omega
    subst r;unfold gd;rw [l i f];exact .int _ _
end Go.TX
namespace Go.TX
open Go Go.AE Go.ChangeShapes Go.WideShapes Go.ChangeAt List
theorem aam{w:World}{a:Addr}{v:Value}(h:w.cell? a=some v):a.block<w.heap.size:=by
 unfold World.cell? at h;cases hb:w.heap[a.block]? with
 | none=>rw [hb]at h;simp at h
 | some o=>exact(Array.getElem?_eq_some_iff.1 hb).1
section
variable {H:Type} {enc:TypeId×Value->H} {P:Program} {W:World} {sp:Nat->Bool} {hd:Bool}
def atO:DataW H->Bool
 | .lit (.bool b)=>b
 | _=>default
def eH:DataW H->Int
 | .lit (.int _ n)=>n
 | _=>default
def afV:DataW H->ByteArray
 | .lit (.string b)=>⟨b.toArray⟩
 | _=>default
def ap7{α:Type}(f:DataW H->α):DataW H->List α
 | .slice l _=>l.map f
 | _=> []
def atP:DataW H->Form
 | .agg [a,b,n,s]=>⟨atO a,atO b,eH n,ap7 afV s⟩
 | _=>default
variable (enc P W sp hd) in
def ED(c:Co)(dec:DataW H->c.den)(t:TypeId):Prop:=∀a cs x,DataW.trod enc P W 0 sp hd a t cs=some x->F2 (dM (λb=>b<W.heap.size) W) cs (c.row (dec x.1))
theorem atQ{α β:Type}{R:α->β->Prop}{l:List α}{m:List β}(h:F2 R l m){j:Nat}(a:α)(b:β)(c:j<m.length):R (l.getD j a) (m.getD j b):=by
 obtain⟨x,e,d⟩:=F2.get h (getElem?_eq_getElem c);rw [getD_eq_getElem?_getD,e,getD_eq_getElem?_getD,getElem?_eq_getElem c];exact d
theorem akv{c:Co}{dec:DataW H->c.den}{t e:TypeId}(F:P.underlying t=some (.slice e))(hc:P.cellsOf e=c.size)(E:0<c.size)(hE:ED enc P W sp hd c dec e){r:Nat}{cs:List Value}{x:DataW H×List MemPlace}
  (h:DataW.trod enc P W 0 sp hd r t cs=some x):∃v,cs=[v]/\dM (λb=>b<W.heap.size) W v (.rows c.size (aO c (ap7 dec x.1))):=by
 rcases Deep.open_slice F h with⟨rfl,rfl⟩ | ⟨a,len,B,m,n,D,O,rfl,_,M,hm,A,rfl,J⟩
 .exact⟨_,rfl,.none _ _ _⟩
 have N:len<=m:=by rw [A];split<;>omega
 have u:∀i,i<len->∃q:List Value,W.cells? 0 (a.add (i*c.size)) c.size=some q/\F2 (dM (λb=>b<W.heap.size) W) q (c.row (dec (D i))):=λi d=>by
  obtain⟨p,L,G⟩:=J i ah;exact⟨p,by rw [<-hc];exact L,hE n p _ G⟩
 obtain⟨q,w⟩:=Deep.choose_lt u;refine⟨_,rfl,?_⟩;by_cases I:len=0
 .subst I;exact .none _ _ _
 obtain⟨b,s,g⟩:=a;have cell:∀i j,i<len->j<c.size->W.cell? (((⟨b,s,g⟩:Addr).add (i*c.size)).add j)=(q i)[j]? :=λi j d o=>(World.cells?_some (w i d).1).2.2 j o
 have C:∀i,i<len->(q i).length=c.size:=λi d=>(World.cells?_some (w i d).1).2.1
 have y:=cell 0 0 ah E;rw [getElem?_eq_getElem (by rw [C 0 ah];exact E)]at y;have l:g=none:=by simpa [Addr.add]using World.cell?_spot y
 subst l;have z:b<W.heap.size:=by have:=aam y;simpa [Addr.add]using this
 have K:ap7 dec (.slice ((range len).map D) ((range (m-len)).map λj=>D (len+j)))=(range len).map λi=>dec (D i):=by show((range len).map D).map dec=_;rw [map_map];rfl
 dsimp only;rw [K];have f:(aO c ((range len).map λi=>dec (D i))).length=len:=by rw [aO,length_map,length_map,length_range]
 have k:∀i,i<len->(aO c ((range len).map λi=>dec (D i))).getD i []=c.row (dec (D i)):=λi d=>by
  rw [getD_eq_getElem?_getD,aO,map_map,getElem?_map,getElem?_range d];rfl
 refine .rows b s B c.size len _ (λi j=>(q i).getD j undef) z f.symm M (λi j d o=> ?_) (λi d=> ?_) (λi j d o=> ?_)
 .rw [f]at d;have:=cell i j d o;rw [add_plain,add_plain]at this;rw [this,getD_eq_getElem?_getD,getElem?_eq_getElem (by rw [C i d];exact o)];rfl
 .rw [f]at d;rw [k i d];exact tH c _
 .rw [f]at d;unfold gd;rw [k i d];exact atQ (w i d).2 _ _ (by rw [tH];exact o)
theorem ap8{t:TypeId}(b:P.underlying t=some .string):ED enc P W sp hd .str afV t:=by
 intro a cs x h;obtain⟨s,rfl,rfl,_⟩:=DataW.trod_string b h;have e:afV (.lit (.string s.data.toList):DataW H)=s:=by unfold afV;simp
 dsimp only;rw [e];exact .cons (.str s) .nil
theorem ajL{t i d j l:TypeId}{a g f b:Field}(E:P.underlying t=some (.struct #[a,g,f,b]))(hn:P.cellsOf t=4)(o:a.offset=0/\g.offset=1/\f.offset=2/\b.offset=3)(y:a.type=d/\g.type=d/\f.type=j/\b.type=i)
  (u:P.underlying d=some .bool) (H:P.underlying j=some (.int .i64)) (D:P.underlying i=some (.slice l)) (M:P.underlying l=some .string) (k:P.cellsOf d=1/\P.cellsOf j=1/\P.cellsOf i=1/\P.cellsOf l=1):ED enc P W sp hd .form atP t:=by
 intro p cs x h;obtain⟨F,n,rfl,rfl,z,N,e⟩:=DataW.trod_struct E h;rw [hn]at z;obtain⟨B,G,C,I⟩:=o;obtain⟨L,y1,y2,y3⟩:=y;obtain⟨m,R,Q,k3⟩:=k
 match cs,z with
 | [v0,v1,v2,v3],_=>
  match F,N with
  | [x0,x1,x2,x3],_=>
   have q:=e 0 a rfl;have A:=e 1 g rfl;have s:=e 2 f rfl;have w:=e 3 b rfl;rw [L,B,m]at q;rw [y1,G,m]at A;rw [y2,C,R]at s;rw [y3,I,Q]at w;obtain⟨V,O,rfl⟩:=DataW.trod_bool u (show _=some x0 from q);obtain⟨U,J,rfl⟩:=DataW.trod_bool u (show _=some x1 from A);obtain⟨T,S,rfl,_⟩:=DataW.trod_int H (show _=some x2 from s);obtain⟨v,K,r⟩:=akv (c:= .str) (dec:=afV) D k3 (by decide) (ap8 M) (show _=some x3 from w);cases O;cases J;cases S;cases K;exact .cons (.bool _) (.cons (.bool _) (.cons (.int _ _) (.cons r .nil)))
end
end Go.TX
namespace Go.TX.Seat
open Go Go.AE Go.TX Go.TX.F Go.Proofs List
set_option maxRecDepth 100000
theorem avt:∀t n,E.ieq t=some n->∀(d a:List Int),d.length=n->a.length=n->∀w,
  (Op.equal t (.agg (d.map (Value.int .i64)).toArray) (.agg (a.map (Value.int .i64)).toArray)).run E.P w= .ok (d==a) w/\
  (eqGuard .eql t (.tmp 0) (.tmp 0) (.agg (d.map (Value.int .i64)).toArray) (.agg (a.map (Value.int .i64)).toArray)).run E.P w= .ok () w:=by
 intro t n h;obtain⟨c,hc,rfl⟩:∃c,ieq t=some c/\c.size=n:=by
  have b:(ieq t).map (λc=>c.size)=some n:=h;cases hi:ieq t with
  | none=>rw [hi]at b;cases b
  | some c=>rw [hi]at b;cases b;exact⟨c,rfl,rfl⟩
 unfold ieq at hc;split at hc
 all_goals first | (cases hc;exact ap6 (by kernel_rfl) (by kernel_rfl) (by kernel_rfl) (by kernel_rfl) (by kernel_rfl)) | cases hc
theorem hE:aI E:=⟨auD,avt⟩
theorem avu:∀t c,X.ieq t=some c->(c= .ins/\E.ieq t=some 4)\/(c= .iop/\E.ieq t=some 5):=by
 intro t c h;have h:ieq t=some c:=h;have e:E.ieq t=(ieq t).map λc=>c.size:=rfl
 rw [e,h];unfold ieq at h;split at h
 all_goals first | (cases h;first | exact Or.inl ⟨rfl,rfl⟩ | exact Or.inr ⟨rfl,rfl⟩) | cases h
theorem xok:XOK X E:=⟨rfl,λg c h=>(by
    first
    | (cases h;done)
    | (dsimp only [X] at h
       split at h
       · rename_i e;cases h;unfold E;dsimp only;rw [if_pos e];rfl
       · cases h)),avu⟩
theorem hm:E.P.follows .mixedOrders=true:=by kernel_rfl
structure HL(l:List (Nat×Sig)) where
 C:Cs (std 0) l
 h:∀p∈csl (std 0) l C,dP E p.1 (dL p.2.2)
abbrev hn : HL [] := ⟨(), λ_ h => by cases h⟩
abbrev hk{f : FuncId}{s : Sig}{c : Ct aF s}{l : List (Nat × Sig)}(h : dP E f (dL c))(r : HL l) : HL ((f, s) :: l) := ⟨(c.pre, c.fn, r.C), λp a => by
 rcases mem_cons.1 a with rfl | a
 .exact h
 .exact r.h p a⟩
structure Mt{lk:aB}{s:Sig}{an:Ann}{fn:Func}{l:List (Nat×Sig)}(f:FuncId)(g:Gt lk X E an s fn l) where
 H:HL l
 k:Fn E f (g.F H.C) (cn (g.F H.C))
section
variable {lk:aB} {s:Sig} {an:Ann} {fn:Func} {l:List (Nat×Sig)} {f:FuncId}
@[irreducible] noncomputable def Mt.c {g : Gt lk X E an s fn l} (t : Mt f g) : Ct aF s := cn (g.F t.H.C)
theorem Mt.cs{g:Gt lk X E an s fn l}(t:Mt f g){x:iQ s.inp}{Q:iQ s.out->Prop}(h:g.F t.H.C x Q):t.c.pre x=true/\Q (t.c.fn x):=by unfold Mt.c;exact t.k.cs h
theorem Mt.ok{g:Gt lk X E an s fn l}(t:Mt f g):dP E f (dL t.c):=by unfold Mt.c;exact t.k.ok
@[reducible] noncomputable def hc {r : List (Nat × Sig)} {g : Gt lk X E an s fn l} (t : Mt f g) (h : HL r) : HL ((f, s) :: r) := hk t.ok h
theorem mkF(a:E.P.funcs[f]? =some fn)(g:Gt lk X E an s fn l)(H:HL l)
 (b:fn.body.isSome=true:=by rfl) (hn:(fn.name== "runtime.NumGoroutine")=false:=by kernel_rfl):Fn E f (g.F H.C) (cn (g.F H.C)):=auA hE xok hm a b (λ_=>enters_of a hn) H.h (g.h H.C)
noncomputable def mk (g:Gt lk X E an s fn l) (b:E.P.funcs[f]? =some fn) (H:HL l)
 (a:fn.body.isSome=true:=by rfl) (hn:(fn.name== "runtime.NumGoroutine")=false:=by kernel_rfl):Mt f g:=⟨H,mkF b g H a hn⟩
end
theorem afW{E:Tab}{f:FuncId}{c:Ct aF {args:=[.c (.int .u64)],objs:=[],res:=[.c (.int .i64)],dV:=[]}}{g:Int->Int}(t:Enters E.P f)(Q:(λx:Int=>(c.fn (x,())).1)=g)
  (h:∀(x:Int) (w:World),c.pre (x,())=true->Go.Calls E.P f #[.int .u64 x] w λe C=>e= .returned (.int .i64 (g x))/\C=w):dP E f (dL c) where
 enters:=t
 calls:=by
  rintro args G n K ⟨m,u,z,i,HR,o,U,a,aiH,v,W,l,hK⟩ I w D A sI L V;have B:∀b (x:Int),u=[.c (.d b (.int .u64 x))]->tF (std m) z {args:=[.c (.int .u64)],objs:=[],res:=[.c (.int .i64)],dV:=[]} c u=some {ck:=[c.pre (x,())],ts:=[.i],y:=c.fn (x,()),touched:=[],pure:=true,k:=λy=>some (.c (.d true (.int .i64 y.1)),z)}:=by
   intro b x e;subst e;rfl
  have J:∃b x,u=[.c (.d b (.int .u64 x))]:=by
   unfold tF at a;cases u with
   | nil=>simp [qL]at a
   | cons q r=>
    cases r with
    | cons S T=>
     exfalso;simp only [qL]at a;cases hx:Js (std m) z (.c (.int .u64)) q (es0 (std m) 0 [])with
     | none=>rw [hx]at a;simp at a
     | some s=>rw [hx]at a;simp [qL]at a
    | nil=>
     simp only [qL]at a;cases q with
     | c y=>
      simp only [Js,extC]at a;cases y with
      | d b y=>
       cases y with
       | int k x=>
        by_cases hk:IntKind.u64=k
        .subst hk;exact⟨b,x,rfl⟩
        .simp [hk]at a
       | _=>simp at a
      | _=>simp at a
     | _=>simp [Js]at a
  obtain⟨b,x,rfl⟩:=J;rw [B b x rfl]at a;simp only [Option.some.injEq]at a;subst a;simp only [Option.some.injEq,Prod.mk.injEq]at l;obtain⟨rfl,rfl⟩:=l;have p:=aiH _ (mem_singleton.2 rfl);have R:D=[.int .u64 x]:=by
   cases i with
   | cons j N=>
    cases N;cases sI with
    | cons H P=>
     cases P;cases j with
     | one j=>
      cases j with
      | c j=>
       cases j with
       | d F _=>
        subst F;cases H with
        | c _ _ M=>cases M with
         | d _ _ _ O=>cases O;rfl
      | agg j=>cases j
  subst R;refine(h x w p).mono ?_;rintro e C ⟨rfl,rfl⟩;refine⟨I,.c (.d true (.int .i64 (g x))),G,0,.refl _ _ _,L,A,.c _ _ (.d _ _ _ (.int _ _)),hK _ _ _ ?_ HR (.refl _ _ _) o⟩;rw [<-Q];exact .one (.c (.d rfl λ_=> .inl rfl))
end Go.TX.Seat
noncomputable section
namespace Go.TX.F
open Go Go.AE Go.TX Go.TX.Seat Go.Proofs List
set_option maxRecDepth 100000
set_option maxHeartbeats 4000000
def XU:=mk R9 Tryz.func51 hn
def xA:=λb c a=>XU.cs (ani b c a:)
def iX:=mk Sb Tryz.func54 hn
def aP:=λn b p a d c=>iX.cs (ank n b p a d c:)
def Ib:=mk Sc Tryz.func55 (hc iX hn)
def jT:=λn b p a d c=>Ib.cs (anl aP n b p a d c:)
def XV:=mk Sd Tryz.func53 (hc iX hn)
def xB:=λb p a d c=>XV.cs (ao4 aP b p a d c:)
def xC:=mk Sg Tryz.func62 hn
def iY:=λa=>xC.cs (amN a:)
def XW:=mk Si Tryz.func61 (hc xC hn)
def xD:=λl h=>XW.cs (aoF iY l h:)
def XY:=mk Sj Tryz.func177 (hc XW hn)
def zo:=λw i b a=>XY.cs (ao0 xD w i b a:)
def Ni:=mk Sk Tryz.func124 (hc iX hn)
def qc:=λb p a d c=>Ni.cs (anm aP b p a d c:)
def nI:=mk Sl Tryz.func63 hn
def dU:=λa b c=>nI.cs (amM a b c:)
def afX:=mk Sn Tryz.func248 hn
def JB:=λi=>afX.cs (Hy i:)
def Ic:=mk Sq Tryz.func196 (hc nI (hc afX hn))
def oO:=λi=>Ic.cs (Ju dU JB i:)
def XZ:=mk Sv Tryz.func212 (hc Ic hn)
def zq:=λi=>XZ.cs (aoW oO i:)
def X3:=mk Sw Tryz.func153 (hc XZ hn)
def uU:=λl a=>X3.cs (aoY zq l a:)
def Nj:=mk Sy Tryz.func197 hn
def qd:=λa=>Nj.cs (Ei a:)
def X4:=mk Sz Tryz.func195 (hc Nj (hc Ic hn))
def xE:=λi=>X4.cs (Ej qd oO i:)
def X5:=mk SA Tryz.func234 (hc iX hn)
def zu:=λb p a d c=>X5.cs (anJ aP b p a d c:)
def Nk:=mk SB Tryz.func235 (hc X5 (hc iX (hc X4 hn)))
def qg:=λb p c e d=>Nk.cs (anK zu aP (λa=>(xE a).1) b p c e d:)
def afY:=mk SE Tryz.func232 (hc Nk (hc iX hn))
def Ie:=λt b p a e d c=>afY.cs (ao6 qg aP t b p a e d c:)
def afZ:=mk SF Tryz.func233 (hc iX hn)
def Ig:=λt b p a e d c=>afZ.cs (ao5 aP t b p a e d c:)
def X6:=mk SG Tryz.func178 (hc X3 (hc XZ (hc afY (hc Nk (hc X5 (hc afZ (hc Ib (hc iX (hc Ni hn)))))))))
def uV:=λb p a d c=>X6.cs (ao8 uU zq Ie qg zu Ig jT aP qc b p a d c:)
def X7:=mk SH Tryz.func179 (hc Ni hn)
def uW:=λn b p a hn d c=>X7.cs (anu qc n b p a hn d c:)
def Ai:=mk SK Tryz.func19 (hc xC (hc nI (hc XW hn)))
def jU:=λm h=>Ai.cs (aoG iY dU xD m h:)
def Dl:=mk SL Tryz.func70 hn
def kE:=λm h=>Dl.cs (aoH m h:)
def Ih:=mk SN Tryz.func94 hn
def oP:=λl n h=>Ih.cs (aoT l n h:)
def Nl:=mk SQ Tryz.func194 (hc Ic (hc xC hn))
def qh:=λw=>Nl.cs (aoV oO iY w:)
def af0:=mk SX Tryz.func206 hn
def Em:=λm b=>af0.cs (aoS m b:)
def Nn:=mk SY Tryz.func207 hn
def rD:=λm h=>Nn.cs (aoI m h:)
def um:=mk S9 Tryz.func37 hn
def eZ:=λa=>um.cs (amQ a:)
def Ii:=mk Ta Tryz.func217 (hc um (hc xC hn))
def oQ:=λc a b=>Ii.cs (am0 iY eZ c a b:)
def Dm:=mk Tc Tryz.func275 (hc um hn)
def kF:=λm n h=>Dm.cs (aoJ eZ m n h:)
def af2:=mk Td Tryz.func271 (hc Nn (hc Dm hn))
def JC:=λm i h a=>af2.cs (aoQ rD kF m i h a:)
def Np:=mk Te Tryz.func272 (hc Dm hn)
def uo:=λm d v h a b=>Np.cs (aoK kF m d v h a b:)
def af3:=mk Tf Tryz.func273 (hc um hn)
def Ij:=λv k h a b=>af3.cs (aoL eZ v k h a b:)
def af4:=mk Tg Tryz.func274 (hc um (hc Nn (hc Dm (hc Np hn))))
def Ik:=λm i h a b=>af4.cs (aoO eZ rD kF uo m i h a b:)
def af5:=mk Ti Tryz.func276 (hc Dm (hc Np hn))
def JD:=λm i h a c hn b=>af5.cs (aoP kF uo m i h a c hn b:)
def af6:=mk Tj Tryz.func208 (hc Ii (hc Dm (hc af5 (hc af4 (hc Np (hc af3 (hc af2 hn)))))))
def Qg:=λm i h a hn b=>af6.cs (aoR oQ kF JD Ik uo Ij JC m i h a hn b:)
def X8:=mk Tk Tryz.func149 (hc Nl (hc Ai (hc Dl (hc af6 (hc Nn (hc af0 hn))))))
def xG:=λm b h a=>X8.cs (ao2 qh jU kE Qg rD Em m b h a:)
def af7:=mk Tm Tryz.func180 (hc Ai (hc X8 (hc Dl (hc Ih hn))))
def JE:=λm q n h b a=>af7.cs (ao3 jU xG kE oP m q n h b a:)
def af8:=mk Tn Tryz.func110 (hc XY (hc af7 (hc X6 (hc XV (hc Ib (hc iX (hc X7 hn)))))))
def Il:=λb p a d c=>af8.cs (ao9 zo JE uV xB jT aP uW b p a d c:)
def af9:=mk Tp Tryz.func52 (hc af8 (hc Ib (hc iX hn)))
def Dn:=λn b p a d c=>af9.cs (apa Il jT aP n b p a d c:)
def iG:=mk Tq Tryz.func114 hn
def cZ:=λa b c=>iG.cs (amf a b c:)
def aga:=mk adY Tryz.func78 (hc iG hn)
def xH:=λa=>aga.cs (atb cZ a:)
def Nq:=mk Tt Tryz.func193 (hc iG hn)
def uw:=λa=>Nq.cs (ami cZ a:)
def aan:=mk adZ Tryz.func126 (hc iG (hc Nq hn))
def uz:=λi=>aan.cs (ata cZ uw i:)
def ap9:=mk alV Tryz.func73 (hc aga (hc aan (hc iG hn)))
def BI:=λb l a=>ap9.cs (au3 xH uz cZ b l a:)
def agb:=mk ad1 Tryz.func166 (hc iG hn)
def qP:=λo=>agb.cs (asD cZ o:)
def Dp:=mk Tv Tryz.func137 (hc agb hn)
def gQ:=λi x y k e f c d g j a b h=>Dp.cs (aoy qP i x y k e f c d g j a b h:)
def agc:=mk Tw Tryz.func136 (hc Dp hn)
def uD:=λv i e f c d g j a b h=>agc.cs (aoC gQ v i e f c d g j a b h:)
def agd:=mk Tx Tryz.func138 (hc Dp hn)
def Aj:=λk e f c d g i a b h=>agd.cs (aoz gQ k e f c d g i a b h:)
def agf:=mk Tz Tryz.func139 (hc Dp hn)
def Ak:=λk e f c d g i a b h=>agf.cs (aoA gQ k e f c d g i a b h:)
def agh:=mk TA Tryz.func140 (hc Dp hn)
def BJ:=λj x y e f c d g i a b h=>agh.cs (aoB gQ j x y e f c d g i a b h:)
def agi:=mk TB Tryz.func83 (hc agh (hc agf (hc agc (hc Dp (hc agd hn)))))
def xI:=λi B a h c b=>agi.cs (aoD BJ Ak uD gQ Aj i B a h c b:)
def Qh:=mk ad2 Tryz.func84 hn
def gT:=λb a=>Qh.cs (asR b a:)
def aqa:=mk alW Tryz.func34 (hc ap9 (hc Qh (hc agi hn)))
def uX:=λb l a=>aqa.cs (au4 BI gT xI b l a:)
def rE:=mk TD Tryz.func64 (hc iG hn)
def fV:=λa=>rE.cs (amg cZ a:)
def agj:=mk ad3 Tryz.func77 (hc aan (hc rE hn))
def xJ:=λw=>agj.cs (atr uz fV w:)
def atS:=mk alX Tryz.func44 (hc agj hn)
def Im:=λw h=>atS.cs (avp xJ w h:)
def Qi:=mk ad4 Tryz.func165 (hc iG hn)
def kJ:=λo=>Qi.cs (asB cZ o:)
def X9:=mk TF Tryz.func218 (hc iG hn)
def D6:=λa=>X9.cs (amh cZ a:)
def akw:=mk ad5 Tryz.func279 (hc iG hn)
def xK:=λo=>akw.cs (asC cZ o:)
def agk:=mk ad6 Tryz.func219 (hc akw (hc iG hn))
def nU:=λb x n a d c=>agk.cs (asE xK cZ b x n a d c:)
def akx:=mk ad7 Tryz.func159 (hc agk (hc Qi (hc rE (hc iG (hc X9 (hc Nq hn))))))
def yY:=λb i a d c e=>akx.cs (asF nU kJ fV cZ D6 uw b i a d c e:)
def Qj:=mk ad8 Tryz.func171 hn
def gG:=λb=>Qj.cs (asG b:)
def aky:=mk ad9 Tryz.func160 (hc Qj (hc agk (hc rE (hc iG hn))))
def xL:=λb a=>aky.cs (asH gG nU fV cZ b a:)
def Io:=mk aea Tryz.func100 (hc aky (hc akx (hc iG hn)))
def lK:=λb a=>Io.cs (asI xL yY cZ b a:)
def agl:=mk TG Tryz.func161 hn
def kX:=λa b c=>agl.cs (an3 a b c:)
def akz:=mk aeb Tryz.func101 (hc agl hn)
def JF:=λa b c=>akz.cs (asN kX a b c:)
def akA:=mk aec Tryz.func311 hn
def BK:=λa n=>akA.cs (ar5 a n:)
def agm:=mk TH Tryz.func239 (hc akA hn)
def jJ:=λa n b=>agm.cs (amm BK a n b:)
end Go.TX.F
end
noncomputable section
namespace Go.TX.F
open Go Go.AE Go.TX Go.TX.Seat Go.Proofs List
set_option maxRecDepth 100000
set_option maxHeartbeats 4000000
def agn:=mk TI Tryz.func183 (hc agm hn)
def iL:=λa n e=>agn.cs (amn (λb c d=>(jJ b c d).1) (λb c d=>(jJ b c d).2) a n e:)
def agp:=mk aed Tryz.func280 (hc agn hn)
def uY:=λa n e=>agp.cs (ar6 (λb c d=>(iL b c d).1) (λb c d=>(iL b c d).2) a n e:)
def aqb:=mk alY Tryz.func316 hn
def uZ:=λa=>aqb.cs (auJ a:)
def ajM:=mk alZ Tryz.func287 (hc aqb hn)
def mq:=λa b=>ajM.cs (auK uZ a b:)
def aqc:=mk al0 Tryz.func288 hn
def BL:=λa b=>aqc.cs (auM a b:)
def agq:=mk TJ Tryz.func317 (hc ajM hn)
def rF:=λa b c=>agq.cs (amj mq a b c:)
def Ip:=mk TK Tryz.func289 (hc aqc (hc ajM (hc agq hn)))
def jw:=λa b c=>Ip.cs (amk mq rF BL a b c:)
def ajN:=mk al1 Tryz.func318 (hc aqb hn)
def xM:=λa b=>ajN.cs (auL uZ a b:)
def agr:=mk TL Tryz.func291 (hc ajN hn)
def qB:=λa b=>agr.cs (aml xM a b:)
def akB:=mk aee Tryz.func293 hn
def Iq:=λm=>akB.cs (ar7 m:)
def ags:=mk TM Tryz.func319 (hc akB hn)
def iH:=λa b=>ags.cs (amo (G:=(λm:aj=>0<m.atoms.length/\m.atoms.getD 0 default<0)) Iq a b:)
def agt:=mk TN Tryz.func292 (hc ags hn)
def gU:=λa b=>agt.cs (amq (G:=(λm:aj=>0<m.atoms.length/\m.atoms.getD 0 default<0)) iH a b:)
def D7:=mk aef Tryz.func227 (hc iG (hc agp (hc agr (hc Ip (hc agt hn)))))
def iZ:=λa b=>D7.cs (ar8 cZ uY qB jw gU a b:)
def agu:=mk aeg Tryz.func221 (hc iG (hc X9 (hc agp (hc D7 (hc Nq hn)))))
def mD:=λa n b=>agu.cs (asj cZ D6 uY iZ uw a n b:)
def aao:=mk aeh Tryz.func224 (hc aqc (hc ajM (hc Ip hn)))
def nZ:=λa b c=>aao.cs (ar9 BL mq jw a b c:)
def Am:=mk TP Tryz.func175 (hc aao hn)
def dQ:=λa b c=>Am.cs (amr nZ a b c:)
def akC:=mk aei Tryz.func283 (hc Am hn)
def yZ:=λa b c=>akC.cs (asg dQ a b c:)
def akD:=mk aej Tryz.func282 (hc akC hn)
def xO:=λa b c=>akD.cs (ash yZ a b c:)
def agv:=mk TQ Tryz.func281 (hc akD hn)
def iI:=λa b d c=>agv.cs (amx xO a b d c:)
def agw:=mk aek Tryz.func222 (hc agv hn)
def qm:=λa b d c=>agw.cs (asi iI a b d c:)
def agx:=mk TS Tryz.func290 hn
def jA:=λa=>agx.cs (amw a:)
def agy:=mk ael Tryz.func225 (hc agu (hc agw (hc agx hn)))
def qQ:=λt a c b=>agy.cs (asn mD qm jA t a c b:)
def agz:=mk aem Tryz.func226 (hc iG hn)
def xP:=λa=>agz.cs (asb cZ a:)
def Ya:=mk TT Tryz.func170 (hc agz (hc agy hn))
def sN:=λc k t a b=>Ya.cs (anF xP qQ c k t a b:)
def Yb:=mk TU Tryz.func162 (hc Ya hn)
def qR:=λt a b c=>Yb.cs (anG sN t a b c:)
def Nr:=mk TW Tryz.func115 hn
def nJ:=λa b=>Nr.cs (amu a b:)
def aap:=mk aen Tryz.func220 (hc Nr hn)
def jK:=λa b=>aap.cs (ase nJ a b:)
def agA:=mk aeo Tryz.func163 (hc aap hn)
def oD:=λa b=>agA.cs (asf jK a b:)
def akE:=mk aep Tryz.func102 (hc agA (hc Yb hn))
def JG:=akE.cs (asK oD qR:)
def akF:=mk aer Tryz.func164 (hc agu (hc agw hn))
def Nt:=λa b=>akF.cs (asl mD qm a b:)
def agB:=mk T9 Tryz.func167 hn
def jo:=λa b c=>agB.cs (anH a b c:)
def aaq:=mk aes Tryz.func168 (hc iG hn)
def og:=λa=>aaq.cs (asa cZ a:)
def Nu:=mk Ua Tryz.func186 hn
def qo:=λa=>Nu.cs (ams a:)
def Yc:=mk Ub Tryz.func133 (hc rE (hc Nu hn))
def BM:=λc a b=>Yc.cs (amt fV qo c a b:)
def agC:=mk aeu Tryz.func229 (hc D7 hn)
def zw:=λa b=>agC.cs (asc iZ a b:)
def Ao:=mk Uc Tryz.func328 (hc Ip hn)
def BN:=λa b c=>Ao.cs (amv jw a b c:)
def agD:=mk Ud Tryz.func347 (hc Ao hn)
def jc:=λa b d hd e c f=>agD.cs (amB BN a b d hd e c f:)
def agE:=mk Ue Tryz.func356 hn
def jL:=λa b n d h f c g e=>agE.cs (amy a b n d h f c g e:)
def Dq:=mk Uf Tryz.func354 (hc agE hn)
def kG:=λa m b d h f c g e=>Dq.cs (amA jL a m b d h f c g e:)
def cK:Nat->Ct aF RD
 | 0=>never RD
 | k+1=>cn (GV.F (Ao.c.pre,Ao.c.fn,Dq.c.pre,Dq.c.fn,(cK k).pre,(cK k).fn,()))
def kK:∀k:Nat,dP E 348 (dL (cK k))/\∀(a m b:Int) (d:List aj),GY a m b d->b-a<k->(cK k).pre (a,m,b,d,())=true/\Mrg d ((cK k).fn (a,m,b,d,())).1 a b
 | 0=>⟨mh (enters_of Tryz.func348 (by kernel_rfl) rfl),λa m b d c f=>(by have h:=c.h2;have g:=c.h3;omega)⟩
 | k+1=>by
  have e:=kK k;have t:Fn E 348 (GV.F (Ao.c.pre,Ao.c.fn,Dq.c.pre,Dq.c.fn,(cK k).pre,(cK k).fn,())) (cK (k+1)):=mkF Tryz.func348 GV (hc Ao (hc Dq (hk e.1 hn)));exact⟨t.ok,λa m b d c f=>t.cs (amC BN kG (k:Int) e.2 a m b d c ah)⟩
def aqd:Ct aF RD:=cK 1000000000
def aqe:dP E 348 (dL aqd):=(kK 1000000000).1
def akG{a m b:Int}{d:List aj}(h:GY a m b d):b-a< ((1000000000:Nat):Int):=by have f:=h.sh.1;have e:=h.h1;have c:=h.h4;omega
def aqf:=λa m b d h=>((kK 1000000000).2 a m b d h (akG h)).1
def aqg:=λa m b d h=>((kK 1000000000).2 a m b d h (akG h)).2
def agF:=mk Ug Tryz.func336 (hc agD (hk aqe hn))
def kH:=λn d hd hn=>agF.cs (amD jc (λb c e a f=>⟨aqf b c e a f,aqg b c e a f⟩) n d hd hn:)
def agG:=mk Uh Tryz.func327 (hc agF hn)
def gI:=λd hd=>agG.cs (amE kH d hd:)
def Yd:=mk Ui Tryz.func312 (hc Ip (hc D7 (hc Nu (hc Nr (hc agG hn)))))
def Ir:=λl a hc=>Yd.cs (amF jw iZ qo nJ gI l a hc:)
def agH:=mk Uj Tryz.func329 hn
def jB:=λn b a=>agH.cs (amG n b a:)
def agI:=mk Uk Tryz.func313 (hc agH hn)
def jh:=λa b d c=>agI.cs (amH jB a b d c:)
def akH:=mk aev Tryz.func284 (hc D7 (hc Yd (hc agI hn)))
def JH:=λa b d c=>akH.cs (asq iZ Ir jh a b d c:)
def agJ:=mk Ul Tryz.func330 hn
def vJ:=λn a b=>agJ.cs (amI n a b:)
def agK:=mk Um Tryz.func314 (hc agJ hn)
def sO:=λa b d c=>agK.cs (amJ vJ a b d c:)
def agL:=mk Un Tryz.func337 (hc ajN hn)
def lS:=λa b d hd e c=>agL.cs (anp xM a b d hd e c:)
def aqh:Ct aF acS:=never acS
def aqi:dP E 338 (dL aqh):=mh (enters_of Tryz.func338 (by kernel_rfl) rfl)
def aqj:Ct aF acT:=never acT
def aqk:dP E 339 (dL aqj):=mh (enters_of Tryz.func339 (by kernel_rfl) rfl)
def aql:Ct aF RG:=never RG
def aqm:dP E 340 (dL aql):=mh (enters_of Tryz.func340 (by kernel_rfl) rfl)
end Go.TX.F
end
noncomputable section
namespace Go.TX.F
open Go Go.AE Go.TX Go.TX.Seat Go.Proofs List
set_option maxRecDepth 100000
set_option maxHeartbeats 4000000
def aqn:Ct aF acU:=never acU
def aqo:dP E 341 (dL aqn):=mh (enters_of Tryz.func341 (by kernel_rfl) rfl)
def aqp:Ct aF RH:=never RH
def aqr:dP E 342 (dL aqp):=mh (enters_of Tryz.func342 (by kernel_rfl) rfl)
def aqs:Ct aF RL:=never RL
def aqt:dP E 343 (dL aqs):=mh (enters_of Tryz.func343 (by kernel_rfl) rfl)
def aqu:Ct aF RN:=never RN
def aqv:dP E 344 (dL aqu):=mh (enters_of Tryz.func344 (by kernel_rfl) rfl)
def oh:Ct aF GK:=never GK
def om:dP E 331 (dL oh):=mh (enters_of Tryz.func331 (by kernel_rfl) rfl)
def agM:=mk Uo Tryz.func331 (hc ajN (hc agL (hk aqi (hk aqk (hk aqm (hk aqo (hk aqr (hk aqt (hk aqv (hk om hn))))))))))
def oU:=λa b k d hd e c=>agM.cs (anq lS _ _ _ _ _ _ _ _ _ _ _ _ _ _ _ _ a b k d hd e c:)
def agN:Ct aF acV:={pre:=λx=>decide ((0:Int)<=x.1)&&decide ((x.1:Int)<=18446744073709551615),fn:=λx=>((Lib.bitLen (x.1:Int).toNat:Int),())}
def aqw(n:Int)(b:0<=n)(a:n<=18446744073709551615):agN.pre (n,())=true:=by
 show(decide _&&decide _)=true;simp only [Bool.and_eq_true,decide_eq_true_eq];exact⟨b,a⟩
def aqx:dP E 332 (dL agN):=
 afW (enters_of Tryz.func332 (by kernel_rfl) rfl) rfl λx w h=>by
  have a:(decide ((0:Int)<=x)&&decide (x<=18446744073709551615))=true:=h;simp only [Bool.and_eq_true,decide_eq_true_eq]at a;exact bits_Len x w a.1 a.2
def agO:=mk Uq Tryz.func315 (hc agM (hk aqx hn))
def vK:=λa b=>agO.cs (anr oU aqw a b:)
def agP:=mk aew Tryz.func286 (hc D7 (hc Nu (hc Yd (hc agK (hc agO hn)))))
def zy:=λa b d c=>agP.cs (asr iZ qo Ir sO vK a b d c:)
def akI:=mk aex Tryz.func285 (hc D7 (hc aaq (hc rE (hc agP hn))))
def En:=λa n b=>akI.cs (asu iZ og fV zy a n b:)
def agQ:=mk Ur Tryz.func223 (hc Am (hc aaq (hc Yc (hc akH (hc agP (hc akI (hc agC hn)))))))
def JI:=λc x y a b=>agQ.cs (amK dQ og BM JH zy En zw c x y a b:)
def akJ:=mk aey Tryz.func169 (hc aao (hc agQ (hc agy (hc agz hn))))
def Dr:=λt d x y b a c=>akJ.cs (asv nZ JI qQ xP t d x y b a c:)
def Ye:=mk Us Tryz.func134 (hc rE hn)
def zB:=λr a b=>Ye.cs (anD fV r a b:)
def agR:=mk Ut Tryz.func294 (hc aap hn)
def BO:=λa b=>agR.cs (anE jK a b:)
def akK:=mk aez Tryz.func228 (hc aap (hc agR hn))
def y7:=λs a=>akK.cs (asJ jK BO s a:)
def akL:=mk aeA Tryz.func172 (hc agC (hc D7 (hc aao (hc akK (hc Am (hc Ye hn))))))
def JJ:=λs n c a b=>akL.cs (asL zw iZ nZ y7 dQ zB s n c a b:)
def akM:=mk aeB Tryz.func103 (hc Qj (hc Io (hc agb (hc Qi (hc aaq (hc akL (hc akF (hc agA (hc akJ (hc Ya (hc Yb (hc agB hn))))))))))))
def JK:=λt b c a=>akM.cs (asM gG lK qP kJ og JJ Nt oD Dr sN qR jo t b c a:)
def agS:=mk Uu Tryz.func231 (hc Am hn)
def Aq:=λa b c=>agS.cs (an4 dQ a b c:)
def agT:=mk Uv Tryz.func230 (hc agS hn)
def dz:=λa b c=>agT.cs (an5 Aq a b c:)
def Yf:=mk Uw Tryz.func176 (hc agT hn)
def sP:=λa b c=>Yf.cs (an6 dz a b c:)
def akN:=mk aeC Tryz.func174 (hc Am (hc Yf hn))
def Dt:=λa b c=>akN.cs (asO dQ sP a b c:)
def agU:=mk Ux Tryz.func173 (hc akN hn)
def cB:=λa b c=>agU.cs (an7 Dt a b c:)
def akO:=mk aeD Tryz.func104 (hc Am (hc Yf (hc agU hn)))
def Iu:=λa b c=>akO.cs (asP dQ sP cB a b c:)
def akP:=mk aeE Tryz.func45 (hc Io (hc akz (hc akE (hc akM (hc akO hn)))))
def Iw:=λb c a hc=>akP.cs (asQ lK JF JG JK Iu b c a hc:)
def agV:=mk aeF Tryz.func87 hn
def u7:=λe x=>agV.cs (atC e x:)
def agW:=mk Uy Tryz.func125 hn
def uE:=λa b c=>agW.cs (apV a b c:)
def agX:=mk aeG Tryz.func72 (hc iG (hc agW hn))
def lM:=λe mem a hm=>agX.cs (atH cZ uE e mem a hm:)
def agY:=mk aeH Tryz.func90 (hc agX hn)
def sQ:=λe mem b hm a=>agY.cs (atJ lM e mem b hm a:)
def akQ:=mk aeI Tryz.func106 hn
def Du:=λe a=>akQ.cs (atx e a:)
def agZ:=mk Uz Tryz.func105 (hc akQ hn)
def gW:=λl a h=>agZ.cs (apt Du l a h:)
def ag0:=mk UA Tryz.func105 (hc agV hn)
def gJ:=λl x h=>ag0.cs (apR u7 l x h:)
def ag1:=mk UC Tryz.func105 (hc agY hn)
def gK:=λl mem h hm=>ag1.cs (apW sQ l mem h hm:)
def akR:=mk aeJ Tryz.func46 (hc agZ hn)
def Iy:=λl a h=>akR.cs (aty gW l a h:)
def akS:=mk aeK Tryz.func29 (hc aqa (hc ap9 (hc atS (hc agX (hc akR (hc akP hn))))))
def Nv:=λl mem h hm=>akS.cs (atN uX BI Im lM Iy Iw l mem h hm:)
def ag2:=mk UD Tryz.func113 (hc rE hn)
def Iz:=λa b=>ag2.cs (ant fV a b:)
def akT:=mk aeL Tryz.func59 (hc rE (hc iG (hc ag2 hn)))
def Nw:=λm h=>akT.cs (as4 fV cZ Iz m h:)
def akU:=mk aeM Tryz.func141 (hc Qh (hc Nr hn))
def vL:=λe a b=>akU.cs (atE gT nJ e a b:)
def Yg:=mk UE Tryz.func86 (hc akU hn)
def qU:=λl h=>Yg.cs (apT vL l h:)
def ag3:=mk UF Tryz.func85 (hc agV (hc ag0 hn))
def gV:=λl x h=>ag3.cs (apS u7 gJ l x h:)
end Go.TX.F
end
noncomputable section
namespace Go.TX.F
open Go Go.AE Go.TX Go.TX.Seat Go.Proofs List
set_option maxRecDepth 100000
set_option maxHeartbeats 4000000
def ag4:=mk UG Tryz.func85 (hc agY (hc ag1 hn))
def gy:=λl mem h hm=>ag4.cs (apX sQ gK l mem h hm:)
def akV:=mk aeN Tryz.func38 (hc Yg (hc ag4 hn))
def IB:=λl mem h hm=>akV.cs (atL qU gy l mem h hm:)
def atT:=mk al2 Tryz.func32 (hc aga (hc agj (hc akT hn)))
def IC:=λm h=>atT.cs (avq xH xJ Nw m h:)
def ag5:=mk UH Tryz.func88 hn
def oV:=λl n c a b=>ag5.cs (apU l n c a b:)
def akW:=mk aeO Tryz.func35 (hc Yg (hc ag5 (hc ag3 hn)))
def JL:=λl e h b a c=>akW.cs (atG qU oV gV l e h b a c:)
def akX:=mk aeP Tryz.func89 (hc aan hn)
def JM:=λi=>akX.cs (att uz i:)
def atU:=mk al3 Tryz.func36 (hc akX hn)
def Ep:=λl a=>atU.cs (ava JM l a:)
def ag6:=mk aeQ Tryz.func135 (hc Qj (hc Qi hn))
def mU:=λnm b len fin x y k a h=>ag6.cs (asT gG kJ nm b len fin x y k a h:)
def ag7:=mk aeR Tryz.func130 (hc ag6 hn)
def oF:=λb a ok hk=>ag7.cs (asU mU b a ok hk:)
def akY:=mk aeS Tryz.func131 (hc Qj (hc Qi hn))
def y8:=λb ok=>akY.cs (asX gG kJ b ok:)
def akZ:=mk aeT Tryz.func79 (hc ag7 (hc akY (hc Io hn)))
def IE:=λb a=>akZ.cs (asZ oF y8 lK b a:)
def ak0:=mk aeU Tryz.func80 (hc ag7 (hc Io hn))
def IG:=λb a=>ak0.cs (asY oF lK b a:)
def ak1:=mk aeV Tryz.func132 hn
def BP:=λi d e b c f g a h=>ak1.cs (asS i d e b c f g a h:)
def ak2:=mk aeW Tryz.func81 (hc Qh (hc Io (hc ak1 (hc Yc (hc Ye hn)))))
def Er:=λb a=>ak2.cs (asV gT lK BP BM zB b a:)
def ak3:=mk aeX Tryz.func82 (hc Qh (hc ag6 (hc Io hn)))
def II:=λb a=>ak3.cs (asW gT mU lK b a:)
def ak4:=mk aeY Tryz.func33 (hc ak2 (hc ak3 (hc akZ (hc ak0 hn))))
def JN:=λb a=>ak4.cs (as0 Er II IE IG b a:)
def ag8:=mk UJ Tryz.func20 (hc rE hn)
def Qk:=ag8.cs (amL fV:)
def ag9:=mk UK Tryz.func26 (hc Ai (hc Dl hn))
def JO:=λm h=>ag9.cs (apo jU kE m h:)
def Yh:=mk UL Tryz.func128 (hc Nj (hc Ic (hc nI (hc X4 hn))))
def BQ:=λb l a=>Yh.cs (JA qd oO dU xE b l a:)
def Dv:=mk UM Tryz.func240 hn
def mF:=λd e b c f g o a h=>Dv.cs (Jv d e b c f g o a h:)
def Yi:=mk UN Tryz.func241 (hc Dv hn)
def BR:=λd e b c f g k x a h=>Yi.cs (Jy mF d e b c f g k x a h:)
def IJ:=mk UO Tryz.func242 (hc Dv hn)
def oW:=λd e b c f g k a h=>IJ.cs (Jw mF d e b c f g k a h:)
def Yj:=mk UQ Tryz.func243 (hc IJ (hc Dv hn))
def vg:=λe g c d f i k a o b h=>Yj.cs (Di oW mF e g c d f i k a o b h:)
def aha:=mk UR Tryz.func244 hn
def IK:=λk a b=>aha.cs (Eh k a b:)
def ahb:=mk UU Tryz.func245 (hc IJ (hc Dv (hc Yj (hc Yi hn))))
def IL:=λe f c d g j i n a b h=>ahb.cs (Ef oW mF vg BR e f c d g j i n a b h:)
def ahc:=mk UW Tryz.func246 (hc IJ hn)
def JQ:=λB i a h=>ahc.cs (H9 oW B i a h:)
def ahd:=mk UY Tryz.func189 (hc IJ (hc ahc (hc Dv (hc ahb (hc Yj (hc Yi (hc aha hn)))))))
def Ny:=λB i n a b h=>ahd.cs (Jz oW JQ mF IL vg BR IK B i n a b h:)
def Dw:=mk UZ Tryz.func121 (hc Yh (hc ahd hn))
def gM:=λb l a=>Dw.cs (Dj BQ Ny b l a:)
def ahe:=mk Va Tryz.func127 (hc Nl hn)
def IQ:=λw h=>ahe.cs (aph qh w h:)
end Go.TX.F
end
noncomputable section
namespace Go.TX.F
open Go Go.AE Go.TX Go.TX.Seat Go.Proofs List
set_option maxRecDepth 100000
set_option maxHeartbeats 4000000
def ahf:=mk Vb Tryz.func310 (hc nI hn)
def IU:=λk=>ahf.cs (anx dU k:)
def Yk:=mk Vd Tryz.func278 (hc ahf hn)
def BS:=λa x n b=>Yk.cs (anz IU a x n b:)
def ahg:=mk Ve Tryz.func213 (hc xC (hc nI (hc Yk hn)))
def Ql:=λa i len b c d=>ahg.cs (anA iY dU BS a i len b c d:)
def ahh:=mk Vf Tryz.func214 (hc xC (hc Yk hn))
def Nz:=λb=>ahh.cs (anB iY BS b:)
def qp:=mk Vg Tryz.func154 (hc nI (hc ahh (hc ahg hn)))
def fZ:=λb a=>qp.cs (anC dU Nz Ql b a:)
def Yl:=mk Vh Tryz.func198 hn
def zC:=λa b c=>Yl.cs (an8 a b c:)
def IV:=mk Vi Tryz.func249 (hc nI hn)
def mH:=λa=>IV.cs (amP dU a:)
def Ym:=mk Vj Tryz.func199 (hc IV hn)
def zD:=Ym.cs (ano mH:)
def NA:=mk Vk Tryz.func307 hn
def qw:=λa b c=>NA.cs (amR a b c:)
def ahi:=mk Vm Tryz.func326 (hc nI hn)
def JR:=λm hm=>ahi.cs (amS dU m hm:)
def Ar:=mk Vn Tryz.func303 (hc ahi (hc NA hn))
def jV:=λa b=>Ar.cs (amT JR qw a b:)
def ahj:=mk Vo Tryz.func320 hn
def JU:=λa=>ahj.cs (amW a:)
def ahk:=mk Vp Tryz.func321 hn
def Es:=λa n b=>ahk.cs (amU a n b:)
def Yn:=mk Vq Tryz.func297 (hc nI (hc Ar (hc ahk (hc ahj hn))))
def zF:=λa n b=>Yn.cs (amX dU jV Es JU a n b:)
def xQ:=mk Vr Tryz.func264 (hc NA hn)
def fO:=λa b c=>xQ.cs (amV qw a b c:)
def Yo:=mk Vt Tryz.func298 (hc xQ hn)
def zG:=λa b c=>Yo.cs (amY fO a b c:)
def ahl:=mk Vu Tryz.func250 (hc Yn (hc Yo hn))
def NC:=λa b=>ahl.cs (amZ zF zG a b:)
def rG:=mk Vv Tryz.func259 hn
def eP:=λa b=>rG.cs (am2 a b:)
def Yp:=mk Vw Tryz.func299 (hc rG hn)
def zH:=λa b=>Yp.cs (am4 eP a b:)
def ahm:=mk Vx Tryz.func251 (hc Yp hn)
def JV:=λa b=>ahm.cs (am5 zH a b:)
def ND:=mk Vy Tryz.func252 (hc Yn (hc Yo (hc Yp hn)))
def uF:=λa t d c b=>ND.cs (am6 zF zG zH a t d c b:)
def ahn:=mk Vz Tryz.func253 hn
def Qm:=λk l=>ahn.cs (aob k l:)
def Yq:=mk VA Tryz.func254 (hc nI hn)
def vk:=λa=>Yq.cs (amO dU a:)
def Yr:=mk VB Tryz.func333 (hc NA (hc um hn))
def zI:=λl m b hn hm a=>Yr.cs (anb qw eZ l m b hn hm a:)
def Yt:=mk VD Tryz.func334 (hc rG hn)
def BU:=λa b=>Yt.cs (am3 eP a b:)
def aho:=mk VE Tryz.func322 (hc Ar (hc Yr (hc Yt hn)))
def JW:=λa b d c=>aho.cs (anf jV zI BU a b d c:)
def ahp:=mk VF Tryz.func323 (hc Ar (hc um (hc rG (hc xC hn))))
def Eu:=λa n b=>ahp.cs (anh jV eZ eP iY a n b:)
def ahq:=mk VG Tryz.func335 hn
def IW:=λa b f d c e=>ahq.cs (ane a b f d c e:)
def ahr:=mk VH Tryz.func324 (hc Ar (hc um (hc Yr (hc ahq (hc Yt hn)))))
def JX:=λa b d c=>ahr.cs (ang jV eZ zI IW BU a b d c:)
def ahs:=mk VI Tryz.func300 (hc ahr (hc aho (hc ahp hn)))
def JY:=λc x y a b=>ahs.cs (am9 JX JW Eu c x y a b:)
def NG:=mk VJ Tryz.func304 (hc Ar hn)
def rH:=λa b=>NG.cs (am1 jV a b:)
def aht:=mk VK Tryz.func325 (hc rG hn)
def JZ:=λb n y a=>aht.cs (am7 eP b n y a:)
def ahu:=mk VL Tryz.func301 (hc xQ (hc rG (hc Ii (hc Yq (hc NG (hc aht hn))))))
def J2:=λc x y a b=>ahu.cs (am8 fO eP oQ vk rH JZ c x y a b:)
def ahv:=mk VN Tryz.func255 (hc IV (hc xQ (hc ahs (hc ahu (hc ND hn)))))
def Qn:=λf x y t b c e d a=>ahv.cs (ana mH fO JY J2 uF f x y t b c e d a:)
def ahw:=mk VO Tryz.func302 hn
def IX:=λl k a=>ahw.cs (aoc l k a:)
def ahx:=mk VP Tryz.func256 (hc IV (hc ND (hc ahw hn)))
def IY:=λl k t b a hk=>ahx.cs (aod mH uF IX l k t b a hk:)
def NH:=mk VQ Tryz.func258 (hc rG hn)
def qx:=λa b=>NH.cs (aoa eP a b:)
def ahy:=mk VR Tryz.func257 (hc rG (hc NH hn))
def IZ:=λo x y r b c a=>ahy.cs (aoe eP qx o x y r b c a:)
def ahz:=mk VT Tryz.func260 hn
def Yu:=λb=>ahz.cs (aog b:)
def ahA:=mk VU Tryz.func261 hn
def Yv:=λb=>ahA.cs (aoh b:)
def Yw:=mk VW Tryz.func305 hn
def D8:=λs k=>Yw.cs (aof s k:)
def ahB:=mk VX Tryz.func306 (hc NG (hc xQ (hc Yw hn)))
def Qo:=λs n c a b d=>ahB.cs (aoi rH fO D8 s n c a b d:)
def ahC:=mk VY Tryz.func262 (hc NG (hc Ar (hc rG (hc Yw (hc ahB (hc NH hn))))))
def J3:=λs n a=>ahC.cs (aoj rH jV eP D8 Qo qx s n a:)
def ahD:=mk VZ Tryz.func200 (hc qp (hc IV (hc Yq (hc ahC (hc Ym (hc ahl (hc rG (hc ahm (hc ahv (hc ND (hc ahx (hc ahy (hc ahn (hc NH (hc ahz (hc ahA hn))))))))))))))))
def J4:=λt b a c=>ahD.cs (aol fZ mH vk J3 zD NC eP JV Qn uF IY IZ Qm qx Yu Yv t b a c:)
def Yx:=mk V3 Tryz.func263 (hc xQ hn)
def xR:=λa b c=>Yx.cs (aon fO a b c:)
def ahE:=mk V4 Tryz.func265 (hc xQ (hc Yx hn))
def I4:=λa b c=>ahE.cs (aoo fO xR a b c:)
def ahF:=mk V5 Tryz.func201 (hc xQ (hc ahE (hc Yx hn)))
def I5:=λa b c=>ahF.cs (aop fO I4 xR a b c:)
def NI:=mk V6 Tryz.func129 (hc qp (hc Yl (hc Ym (hc ahD (hc ahF hn)))))
def qy:=λb c a hc=>NI.cs (aoq fZ zC zD J4 I5 b c a hc:)
def ahG:=mk V7 Tryz.func74 (hc Dw (hc Yh (hc ahe (hc NI hn))))
def Ew:=λe a b=>ahG.cs (apk gM BQ IQ qy e a b:)
def Yy:=mk V8 Tryz.func75 hn
def vo:=λw mem d b hm c a=>Yy.cs (ape w mem d b hm c a:)
def Yz:=mk V9 Tryz.func30 (hc ahG (hc Yy hn))
def BX:=λl mem h hm=>Yz.cs (apl Ew vo l mem h hm:)
def ahH:=mk Wh Tryz.func76 (hc NI hn)
def NJ:=λl h=>ahH.cs (aor qy l h:)
def YA:=mk Wi Tryz.func31 (hc Yz (hc ahH (hc Ai hn)))
def BZ:=λe b a c=>YA.cs (apn BX NJ jU e b a c:)
def Au:=mk Wj Tryz.func190 hn
def jm:=λb a=>Au.cs (anM b a:)
def NK:=mk Wm Tryz.func142 (hc Au hn)
def oq:=λe a b=>NK.cs (apf jm e a b:)
def YB:=mk Wn Tryz.func143 (hc Au hn)
def xS:=λq b a=>YB.cs (aos jm q b a:)
def ahI:=mk Wp Tryz.func92 (hc NK (hc YB (hc Dl hn)))
def I6:=λe b a c=>ahI.cs (aps oq xS kE e b a c:)
def YC:=mk Wq Tryz.func99 (hc NK (hc Yy hn))
def xU:=λl mem h hm=>YC.cs (apg oq vo l mem h hm:)
def ahJ:=mk Ws Tryz.func95 (hc YC (hc X8 (hc Ih hn)))
def Ey:=λe q b c a d=>ahJ.cs (apr xU xG oP e q b c a d:)
def YD:=mk Wt Tryz.func144 (hc Nj (hc Nl (hc Ai hn)))
def xV:=λm h=>YD.cs (apC qd qh jU m h:)
def ahK:=mk Wu Tryz.func150 hn
def I7:=λl a h=>ahK.cs (apd l a h:)
def YE:=mk Wv Tryz.func247 (hc nI hn)
def vw:=λo al hk a b=>YE.cs (anQ dU o al hk a b:)
def YF:=mk Ww Tryz.func192 (hc qp (hc YE (hc Au hn)))
def xW:=λb a=>YF.cs (anZ fZ vw jm b a:)
def YG:=mk Wx Tryz.func266 (hc YE hn)
def xX:=λb a ok hk=>YG.cs (anV vw b a ok hk:)
def ahL:=mk Wy Tryz.func267 (hc qp (hc nI hn))
def I8:=λb a=>ahL.cs (anU fZ dU b a:)
def ahM:=mk Wz Tryz.func203 (hc qp (hc ahL (hc YG hn)))
def I9:=λb a=>ahM.cs (anW fZ I8 xX b a:)
def ahN:=mk WA Tryz.func268 hn
def Ja:=λa k b d c=>ahN.cs (anR a k b d c:)
def ahO:=mk WB Tryz.func204 (hc qp (hc YG (hc ahN hn)))
def Jb:=λb a=>ahO.cs (anX fZ xX Ja b a:)
def YH:=mk WE Tryz.func269 hn
def vB:=λa k=>YH.cs (anN a k:)
def ahP:=mk WG Tryz.func308 hn
def NP:=λb k=>ahP.cs (anO b k:)
def ahQ:=mk WH Tryz.func270 (hc ahP (hc YH hn))
def Jd:=λb h=>ahQ.cs (anP NP vB b h:)
def ahR:=mk WI Tryz.func205 (hc qp (hc Ii (hc ahQ (hc YH (hc Au hn)))))
def Ez:=λb a=>ahR.cs (anT fZ oQ Jd vB jm b a:)
def NQ:=mk WJ Tryz.func147 (hc ahR (hc YF (hc ahM (hc ahO hn))))
def rJ:=λb a=>NQ.cs (anS Ez xW I9 Jb b a:)
def ahS:=mk WK Tryz.func309 hn
def J5:=λb k c a d e=>ahS.cs (apz b k c a d e:)
def ahT:=mk WL Tryz.func277 (hc qp (hc ahS hn))
def J6:=λl b a=>ahT.cs (apE fZ J5 l b a:)
end Go.TX.F
end
noncomputable section
namespace Go.TX.F
open Go Go.AE Go.TX Go.TX.Seat Go.Proofs List
set_option maxRecDepth 100000
set_option maxHeartbeats 4000000
def ahU:=mk WM Tryz.func209 (hc ahT (hc NQ hn))
def Je:=λb a h d c=>ahU.cs (apF J6 rJ b a h d c:)
def ahV:=mk WO Tryz.func210 (hc Yl hn)
def J7:=λl b c h=>ahV.cs (an9 zC l b c h:)
def ahW:=mk WQ Tryz.func211 (hc YB hn)
def J8:=λl q h b a=>ahW.cs (aot xS l q h b a:)
def ahX:=mk WR Tryz.func151 (hc ahV (hc ahW (hc NI (hc ahU hn))))
def EA:=λe b a h d c f=>ahX.cs (apG J7 J8 qy Je e b a h d c f:)
def ahY:=mk WS Tryz.func152 (hc NK hn)
def J9:=λl e h b a=>ahY.cs (apj oq l e h b a:)
def ahZ:=mk WT Tryz.func96 (hc YD (hc Dw (hc X3 (hc ahK (hc ahY (hc ahX hn))))))
def Jf:=λe a d c f b g=>ahZ.cs (apI xV gM uU I7 J9 EA e a d c f b g:)
def ah0:=mk WU Tryz.func97 (hc Ih hn)
def Jg:=λm q left size c b a=>ah0.cs (apy oP m q left size c b a:)
def ah1:=mk WW Tryz.func215 hn
def Ji:=λm b n h c a d=>ah1.cs (apu m b n h c a d:)
def ah2:=mk WX Tryz.func216 hn
def Ka:=λb a n c e d=>ah2.cs (apv b a n c e d:)
def ah3:=mk WY Tryz.func155 (hc ah1 (hc ah2 hn))
def Jj:=λm b o x y hm f a h e c g d=>ah3.cs (apB Ji Ka m b o x y hm f a h e c g d:)
def ah4:=mk WZ Tryz.func156 hn
def Qp:=λl k=>ah4.cs (apc l k:)
def ah5:=mk Xa Tryz.func157 (hc Ii hn)
def Kc:=λm o x y h=>ah5.cs (apw oQ m o x y h:)
def ah6:=mk Xb Tryz.func158 hn
def Qq:=λb v e c a d=>ah6.cs (apx b v e c a d:)
def ah7:=mk Xc Tryz.func98 (hc qp (hc Ai (hc Dl (hc ah4 (hc ah3 (hc ah6 (hc ah5 hn)))))))
def NR:=λb m d a c=>ah7.cs (apN fZ jU kE Qp Jj Qq Kc b m d a c:)
def ah8:=mk Xd Tryz.func43 (hc YC (hc YA (hc ah7 (hc ahI (hc ahZ (hc ahJ (hc ah0 (hc Ih hn))))))))
def Jk:=λe q left a h f d b c g i=>ah8.cs (apO xU BZ NR I6 Jf Ey Jg oP e q left a h f d b c g i:)
def YI:=mk MC Tryz.func122 (hc iX (hc Au hn))
def xY:=λc b p hc a e d=>YI.cs (an2 aP jm c b p hc a e d:)
def ah9:=mk Xe Tryz.func191 (hc Nk (hc iX hn))
def Jl:=λb p a d c=>ah9.cs (anL qg aP b p a d c:)
def YJ:=mk Xf Tryz.func123 (hc Dw (hc NQ (hc YF (hc iX (hc ah9 hn)))))
def vC:=λb p g j i=>YJ.cs (an0 (λd e f c=>⟨(λa (l:List Ins) (h:(l.length:Int)<1000) _=>(gM a l ah).1) d e f c,(λa (l:List Ins) (h:(l.length:Int)<1000) _=>Nb (gM a l ah).2) d e f c⟩) rJ xW aP Jl b p g j i:)
def aia:=mk Xg Tryz.func202 hn
def Ke:=λn b a d c=>aia.cs (apJ n b a d c:)
def aib:=mk Xh Tryz.func145 (hc qp (hc aia hn))
def Jm:=λb a=>aib.cs (apK fZ Ke b a:)
def aic:=mk Xi Tryz.func146 (hc iX (hc Au hn))
def Dx:=λc b p ok hc a e d=>aic.cs (an1 aP jm c b p ok hc a e d:)
def aie:=mk Xj Tryz.func148 (hc iX hn)
def Jo:=λl b p e h a d c=>aie.cs (apL aP l b p e h a d c:)
def aif:=mk ME Tryz.func93 (hc YD (hc Dw (hc aib (hc NQ (hc iX (hc YI (hc YJ (hc aic (hc aie hn)))))))))
def Kg:=λm b p h a d c=>aif.cs (apM xV gM Jm rJ aP xY vC Dx Jo m b p h a d c:)
def aii:=mk Xk Tryz.func120 (hc ag9 (hc ah8 (hc XY (hc X6 (hc XV (hc iX (hc X7 (hc aif hn))))))))
def Kh:=λb p a d c=>aii.cs (apQ JO Jk zo uV xB aP uW Kg b p a d c:)
def YK:=mk Xl Tryz.func71 (hc Dw (hc af9 (hc Ib (hc iX (hc Ni (hc YI (hc YJ (hc aii hn))))))))
def vD:=λn b p a d c=>YK.cs (apY gM Dn jT aP qc xY vC Kh n b p a d c:)
def aij:=mk Xm Tryz.func27 (hc XU (hc YK hn))
def Dy:=λc hc a=>aij.cs (apZ xA vD c hc a:)
def aik:=mk Xo Tryz.func28 (hc XU (hc YK hn))
def Dz:=λc hc a=>aik.cs (ap4 xA vD c hc a:)
def ail:=mk Xp Tryz.func5 (hc atT (hc aqa (hc atU (hc akV (hc akS (hc akW (hc ak4 (hc ag8 (hc Yz (hc aik (hc aij (hc YA (hc um hn)))))))))))))
def xZ:=λc hc=>ail.cs (ap5 IC uX Ep IB Nv JL JN Qk BX Dz Dy BZ eZ c hc:)
def aqy:=λc hc=>(xZ c hc).1
def aqz:=λc hc=>(xZ c hc).2
end Go.TX.F
end
