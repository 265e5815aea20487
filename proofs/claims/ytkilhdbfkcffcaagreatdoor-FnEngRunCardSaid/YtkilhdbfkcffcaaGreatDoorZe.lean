/- Part 5 of a proof: what the last part needs. No condition. -/
import Derived.Test.YtkilhdbfkcffcaaGreatDoorZd
set_option maxHeartbeats 1000000
set_option linter.all false
set_option linter.unusedSectionVars false
set_option linter.unusedVariables false
set_option linter.unusedSimpArgs false
namespace Go.TX.F
open Go Go.AE Go.TX List
def aa7{m:aC}(h:MOK m){i:Ins}(e:bg i):MOK (eff m i):=by
 obtain⟨⟨s,n⟩,⟨o,l⟩,⟨r,t⟩,c,k,b,q,g,u,p,d,f⟩:=e;have a:∀(j:Nat) (v:Int),Wo v->MOK {m with regs:=m.regs.set j v}:=λj v w=> {h with r4:=by rw [length_set];exact h.r4,rw:=h.rw.set w j}
 unfold eff;split
 .exact a _ _ ⟨c,by have:=b ‹_›;omega⟩
 split
 .exact a _ _ (h.rw.at _)
 split
 .exact a _ _ (by unfold Wo;omega)
 split
 .exact a _ _ (h.mw.at _)
 split
 .exact {h with m64:=by rw [length_set];exact h.m64,mw:=h.mw.set (h.rw.at _) _}
 split
 .exact {h with ow:=h.ow.snoc (h.rw.at _)}
 split
 .exact {a i.d.toNat (m.ins.getD 0 default) h.iw.hd with iw:=h.iw.drop 1}
 split
 .split
  .exact {h with ha:=⟨show(0:Int)<=1 by decide,show(1:Int)<=4 by decide⟩}
  split
  .exact {h with}
  .exact {h with}
 split
 .exact h
 .exact a _ _ (Dr _ _ _)
def xr(pc len:Int):Int->aC->List Ins->aC×Bool
 | _,m,[]=>(m,false)
 | n,m,i::r=>if(i.op=9\/i.op=10)/\64<=adr m i then(leave m n 3,true)else if i.op=10/\pc+n+1<=adr m i/\adr m i<=pc+len-1 then(leave (eff m i) (n+1) m.halt,true)else xr pc len (n+1) (eff m i) r
def Hy(B:Blk){S:MS}(h:S.left=true)(w:List IOp):w.foldl (aK B) S=S:=by
 obtain⟨m,v,l⟩:=S;dsimp only at h;subst h;exact QB B m v w
def adl(B:Blk)(s:MS):∀(r:List Ins) (n:Int) (b:Blk) (m:aC) (v:List Int),(∀i∈r,Mid i)->b.ops.foldl (aK B) s=⟨m,v,false⟩->v.length=b.ops.length->MOK m->
  ((jV n b r).ops.foldl (aK B) s).left=(xr B.pc B.len n m r).2/\((jV n b r).ops.foldl (aK B) s).m=(xr B.pc B.len n m r).1/\
  ((xr B.pc B.len n m r).2=false->((jV n b r).ops.foldl (aK B) s).vals.length=(jV n b r).ops.length/\MOK (xr B.pc B.len n m r).1)
 | [],n,b,m,v,_,h1,h2,h3=>by
  show(b.ops.foldl (aK B) s).left=false/\(b.ops.foldl (aK B) s).m=m/\_;rw [h1];exact⟨rfl,rfl,λ_=>⟨by show(b.ops.foldl (aK B) s).vals.length=b.ops.length;rw [h1];exact h2,h3⟩⟩
 | i::r,n,b,m,v,hr,h1,h2,h3=>by
  have f:=hr i (mem_cons_self ..);obtain⟨o,k,p⟩:=azb B n h3 v f.1 f.2.1;have e:(dz n b i).ops.foldl (aK B) s=(bW n v.length i).foldl (aK B) ⟨m,v,false⟩:=by rw [zk,foldl_append,h1,h2]
  obtain⟨w,l⟩:=TQ r (n+1) (dz n b i);have h:(jV n b (i::r)).ops.foldl (aK B) s=w.foldl (aK B) ((bW n v.length i).foldl (aK B) ⟨m,v,false⟩):=by
   show(jV (n+1) (dz n b i) r).ops.foldl (aK B) s=_;rw [l,foldl_append,e]
  by_cases a:rch m i
  .obtain⟨q1,q2⟩:=o a;have c:xr B.pc B.len n m (i::r)=(leave m n 3,true):=by show(if _ then _ else _)=_;rw [eB (show(i.op=9\/i.op=10)/\64<=adr m i from a)]
   rw [h,Hy B q1,c];exact⟨q1,q2,λg=>by cases g⟩
  by_cases d:ovr B n m i
  .obtain⟨q1,q2⟩:=k a d;have c:xr B.pc B.len n m (i::r)=(leave (eff m i) (n+1) m.halt,true):=by show(if _ then _ else if _ then _ else _)=_;rw [dY (show¬((i.op=9\/i.op=10)/\64<=adr m i)from a),eB (show i.op=10/\B.pc+n+1<=adr m i/\adr m i<=B.pc+B.len-1 from d)]
   rw [h,Hy B q1,c];exact⟨q1,q2,λg=>by cases g⟩
  .obtain⟨w',q1,q2,_,_⟩:=p a d;have c:xr B.pc B.len n m (i::r)=xr B.pc B.len (n+1) (eff m i) r:=by show(if _ then _ else if _ then _ else _)=_;rw [dY (show¬((i.op=9\/i.op=10)/\64<=adr m i)from a),dY (show¬(i.op=10/\B.pc+n+1<=adr m i/\adr m i<=B.pc+B.len-1)from d)]
   rw [c];exact adl B s r (n+1) (dz n b i) (eff m i) (v++w') (λj q=>hr j (mem_cons_of_mem _ q)) (by rw [e,q1]) (by rw [zk,eG,eG,q2,h2]) (aa7 h3 f.1)
def epc(pc len:Int)(m:aC)(i:Ins):Int:=if i.op=11\/i.op=12 then(if xP (i.op-10) ((m.regs).getD (i.d).toNat default) ((m.regs).getD (i.a).toNat default)=true then i.k else pc+len)else if i.op=13 then((m.regs).getD (i.a).toNat default)else pc+len
theorem anZ{pc:Int}{r:List Ins}{i:Ins}{m:aC}(h:ni pc (r++ [i]))(E:∀j∈r,Mid j)(W:bg i)(N:i.op≠0)(hm:MOK m)(g0:m.halt=0)(g1:m.pc=pc)(g2:m.count<=1000000- (r.length+1)):
  eZ (lower pc (r++ [i])) m=if(xr pc (r.length+1) 0 m r).2=true then((xr pc (r.length+1) 0 m r).1,true)else
   if(xr pc (r.length+1) r.length (xr pc (r.length+1) 0 m r).1 [i]).2=true then((xr pc (r.length+1) r.length (xr pc (r.length+1) 0 m r).1 [i]).1,true)else
   ({eff (xr pc (r.length+1) 0 m r).1 i with count:=(eff (xr pc (r.length+1) 0 m r).1 i).count+(r.length+1),pc:=epc pc (r.length+1) (xr pc (r.length+1) 0 m r).1 i},true):=by
 have ok:=ku h;have H:(((r++ [i]).length:Nat):Int)=(r.length:Int)+1:=by rw [eG];rfl
 have u:lower pc (r++ [i])=dz r.length (jV 0 (pV pc (r++ [i])) r) i:=by
  unfold lower;rw [aJ h,eB rfl,uZ];simp
 have O:OKS (pV pc (r++ [i])).ops (pV pc (r++ [i])).len:=λj j0 M=>absurd M (by show¬j< ((0:Nat):Int);omega)
 obtain⟨_,a2⟩:=Km r 0 (pV pc (r++ [i])) E O ah (by show 0+(r.length:Int)<=(((r++ [i]).length:Nat):Int);omega);generalize R:jV 0 (pV pc (r++ [i])) r=L at*;have P:L.pc=pc/\L.len=(r.length:Int)+1/\L.fin=1/\L.x=0/\L.y=0/\L.k=pc+(r.length+1):=by
  rw [a2];exact⟨rfl,H,rfl,rfl,rfl,by show pc+(((r++ [i]).length:Nat):Int)=_;rw [H]⟩
 obtain⟨F,G,T,l4,l5,l6⟩:=P;generalize hB:lower pc (r++ [i])=B at*;have U:B.pc=pc/\B.len=(r.length:Int)+1:=by
  rw [u];unfold dz;split
  .exact⟨F,G⟩
  split<;>exact⟨F,G⟩
 obtain⟨k,n⟩:=U;have S:=adl B ⟨m,[],false⟩ r 0 (pV pc (r++ [i])) m [] E rfl rfl hm;rw [R,k,n]at S;obtain⟨f,o,Y⟩:=S;have run:eZ B m=(qE B (B.ops.foldl (aK B) ⟨m,[],false⟩),true):=by
  unfold eZ;rw [aJ ⟨ok,hm⟩,eB rfl,dY (by rw [k,n];omega)]
 have A:B.ops=L.ops++bW r.length L.ops.length i:=by rw [u];exact zk _ _ _
 rw [run,A,foldl_append];by_cases c:(xr pc (r.length+1) 0 m r).2=true
 .rw [eB c,Hy B (by rw [f];exact c)];unfold qE;rw [eB (by rw [f];exact c),o]
 have D:(xr pc (r.length+1) 0 m r).2=false:=by simpa using c
 rw [dY c];obtain⟨l,K⟩:=Y D;generalize hq:(xr pc (r.length+1) 0 m r).1=q at*;obtain⟨S,hS⟩:∃S,S=L.ops.foldl (aK B) ⟨m,[],false⟩:=⟨_,rfl⟩;rw [<-hS]at f o l ⊢;obtain⟨x,s,sl⟩:=S;dsimp only at f o l;subst o;rw [D]at f;subst f;rw [<-l];obtain⟨u1,u2,u3⟩:=azb B r.length K s W N;have t:∀d,xr pc (r.length+1) r.length d [i]=if(i.op=9\/i.op=10)/\64<=adr d i then(leave d r.length 3,true)else if i.op=10/\pc+r.length+1<=adr d i/\adr d i<=pc+(r.length+1)-1 then(leave (eff d i) (r.length+1) d.halt,true)else(eff d i,false):=λ_=>rfl
 by_cases p:rch x i
 .obtain⟨z,I⟩:=u1 p;rw [t,eB (show _/\_ from p),eB rfl];unfold qE;rw [eB z,I]
 by_cases e:ovr B r.length x i
 .unfold ovr at e;rw [k,n]at e;omega
 obtain⟨w,z,I,Q,V⟩:=u3 p e;unfold ovr at e;rw [k,n]at e;rw [t,dY (show¬(_/\_)from p),dY e,dY (show¬(false=true) by decide),z];unfold qE;rw [dY (show¬(false=true) by decide)];refine Prod.ext ?_ rfl;have J:B.fin=(if i.op=11\/i.op=12 then i.op-8 else if i.op=13 then 2 else 1)/\(i.op=11\/i.op=12->B.x=L.ops.length/\B.y=L.ops.length+1/\B.k=i.k)/\(i.op=13->B.x=L.ops.length)/\(¬(i.op=11\/i.op=12)->¬i.op=13->B.k=pc+(r.length+1)):=by
  rw [u];unfold dz;by_cases a:i.op=11\/i.op=12
  .rw [eB a,eB a];exact⟨rfl,λ_=>⟨rfl,rfl,rfl⟩,λg=>by omega,λg=>absurd a g⟩
  by_cases b:i.op=13
  .rw [dY a,eB b,dY a,eB b];exact⟨rfl,λg=>absurd g a,λ_=>rfl,λ_ g=>absurd b g⟩
  .rw [dY a,dY b,dY a,dY b];exact⟨T,λg=>absurd g a,λg=>absurd g b,λ_ _=>l6⟩
 obtain⟨y,X,f3,Z⟩:=J;dsimp only;rw [k,n];have C:(if B.fin=1 then B.k else if B.fin=2 then((s++w).getD (B.x).toNat default)else if xP (B.fin-2) ((s++w).getD (B.x).toNat default) ((s++w).getD (B.y).toNat default)=true then B.k else pc+(r.length+1))=epc pc (r.length+1) x i:=by
  unfold epc;by_cases a:i.op=11\/i.op=12
  .obtain⟨t,x2,x3⟩:=X a;have v:=Q a;subst v;rw [eB a,y,eB a,dY ah,dY ah,t,x2,x3,<-l,va0,va1,show i.op-8-2=i.op-10 by omega];rfl
  by_cases b:i.op=13
  .have v:=V b;subst v;rw [dY a,eB b,y,dY a,eB b,dY (by decide),eB rfl,f3 b,<-l,va0];rfl
  .rw [dY a,dY b,y,dY a,dY b,eB rfl,Z a b]
 rw [C]
abbrev upd(m:aC)(u v:Int):aC:={m with count:=u,pc:=v}
theorem adn(m:aC)(u v:Int)(i:Ins):eff (upd m u v) i=upd (eff m i) u v:=by
 have a:adr (upd m u v) i=adr m i:=rfl;unfold eff;rw [a];by_cases h:i.op=1
 .rw [eB h,eB h]
 rw [dY h,dY h];by_cases k:i.op=2
 .rw [eB k,eB k]
 rw [dY k,dY k];by_cases l:i.op=8
 .rw [eB l,eB l]
 rw [dY l,dY l];by_cases n:i.op=9
 .rw [eB n,eB n]
 rw [dY n,dY n];by_cases e:i.op=10
 .rw [eB e,eB e]
 rw [dY e,dY e];by_cases d:i.op=14
 .rw [eB d,eB d]
 rw [dY d,dY d];by_cases c:i.op=15
 .rw [eB c,eB c]
 rw [dY c,dY c];by_cases g:i.op=0
 .rw [eB g,eB g];by_cases j:i.k=0
  .rw [eB j,eB j]
  rw [dY j,dY j];by_cases f:i.k=1
  .rw [eB f,eB f]
  rw [dY f,dY f]
 rw [dY g,dY g];by_cases b:11<=i.op
 .rw [eB b,eB b]
 rw [dY b,dY b]
theorem ado(a len n:Int)(m:aC)(i:Ins)(r:List Ins):xr a len n m (i::r)=if(i.op=9\/i.op=10)/\64<=adr m i then(leave m n 3,true)else if i.op=10/\a+n+1<=adr m i/\adr m i<=a+len-1 then(leave (eff m i) (n+1) m.halt,true)else xr a len (n+1) (eff m i) r:=rfl
def Kn{m:aC}{i:Ins}(h:i.op≠0):(eff m i).count=m.count/\(eff m i).pc=m.pc/\(eff m i).halt=m.halt:=by
 unfold eff
 repeat' split
 all_goals first | exact⟨rfl,rfl,rfl⟩ | (exfalso;omega)
def adp{pc len:Int}:∀(a:List Ins) (n:Int) (m:aC),(∀i∈a,bg i/\i.op≠0)->MOK m->(xr pc len n m a).2=false->(xr pc len n m a).1.count=m.count/\(xr pc len n m a).1.pc=m.pc/\(xr pc len n m a).1.halt=m.halt/\MOK (xr pc len n m a).1
 | [],n,m,_,hm,h=>⟨rfl,rfl,rfl,hm⟩
 | i::a,n,m,ha,hm,h=>by
  simp only [ado]at h ⊢;split at h
  .cases h
  split at h
  .cases h
  .rename_i c1 c2;rw [dY c1,dY c2];have b:=ha i (mem_cons_self ..);obtain⟨c,d,k3,k⟩:=adp a (n+1) (eff m i) (λj g=>ha j (mem_cons_of_mem _ g)) (aa7 hm b.1) h;obtain⟨e,l,f⟩:=Kn (m:=m) b.2;exact⟨c.trans e,d.trans l,k3.trans f,k⟩
theorem at7(pc len n:Int)(m:aC)(i:Ins):xr pc len n m [i]=if(i.op=9\/i.op=10)/\64<=adr m i then(leave m n 3,true)else if i.op=10/\pc+n+1<=adr m i/\adr m i<=pc+len-1 then(leave (eff m i) (n+1) m.halt,true)else(eff m i,false):=rfl
def aua{pc:Int}{l:List Ins}(h:ni pc l):(lower pc l).pc=pc/\(lower pc l).len=l.length:=by
 have k:∀(a:List Ins) (n:Int) (b:Blk),(jV n b a).pc=b.pc/\(jV n b a).len=b.len:=by
  intro a
  induction a with
  | nil=>exact λ_ _=>⟨rfl,rfl⟩
  | cons i r c=>
   intro n b;have e:(dz n b i).pc=b.pc/\(dz n b i).len=b.len:=by
    unfold dz;split
    .exact⟨rfl,rfl⟩
    split<;>exact⟨rfl,rfl⟩
   exact⟨(c (n+1) (dz n b i)).1.trans e.1,(c (n+1) (dz n b i)).2.trans e.2⟩
 unfold lower;rw [aJ h,eB rfl];exact k l 0 (pV pc l)
abbrev azo(c:mQ->Bool)(b:mQ->bf):Prop:=∀a l,l.length<1000000000->c (a,l,())=true/\b (a,l,())=bk7 (lower a l)
abbrev aub(d:aC×aCa->Bool)(c:aC×aCa->lX):Prop:=∀a b,MSh a->d (a,b,())=true/\c (a,b,())=(bp (a=b),())
def auc{p1 f1}(c:Y9 p1 f1)(l:List Int)(h:l.length<1000000000):Wp.F (p1,f1,()) (l,()) (λy=>y=(bp (Wos l),())):=by
 dsimp only [Wp,gm];simp (disch:=omega) only [RR];refine ay (λ(y:lT)=>y.1=l/\0<=y.2.1/\y.2.1<=l.length/\Wos (l.take y.2.1.toNat)) (λy=>(l.length-y.2.1).toNat) ⟨rfl,by simp,by simp,by intro n hn;cases hn⟩ ?_;rintro⟨(l:List Int),(i:Int),⟨⟩⟩ hI;dsimp only at hI ⊢;obtain⟨rfl,b,d,a⟩:=hI;simp (disch:=omega) only [RR,c,bF,jJ];refine⟨λg=>⟨b,g,λe=> ?_,λe=>⟨⟨ah,ah,?_⟩,ah⟩⟩,λg=> ?_⟩
 .rw [aV];intro v;exact e (v _ (bV b g))
 .rw [show(i+1).toNat=i.toNat+1 by omega];intro n hn;rw [take_succ_eq_append_getElem ah,mem_append,mem_singleton]at hn;rcases hn with hn | rfl
  .exact a n hn
  .rw [getD_lt ah]at e;exact e
 .rw [take_of_length_le ah]at a;rw [aJ a]
def aud{p1 f1 p2 f2 p3 f3}(c:Y9 p1 f1)(f:Y1 p2 f2)(a:atS p3 f3)(m:aC)(h:MSh m):Ws.F (p1,f1,p2,f2,p3,f3,()) (m,()) (λy=>y=(bp (MOK m),())):=by
 obtain⟨d,e,g,b⟩:=h;dsimp only [Ws,gm];simp (disch:=omega) only [RR,MRB,c,f,a _ d,a _ e,a _ g,a _ b,zi,nO];simp only [<-eH];refine Prod.ext (gP ⟨λh=> ?_,λh=> ?_⟩) rfl
 .obtain⟨⟨⟨⟨⟨⟨⟨⟨⟨h1,h2⟩,h3⟩,h4⟩,h5⟩,h6⟩,h7⟩,h8⟩,h9⟩,h10⟩:=h;exact⟨ah,h2,ah,h5,h3,h6,h8,h9,h7,h10⟩
 .exact⟨⟨⟨⟨⟨⟨⟨⟨⟨by have:=h.r4;omega,h.rw⟩,h.pc⟩,by have:=h.m64;omega⟩,h.mw⟩,h.sv⟩,h.ha⟩,h.iw⟩,h.ow⟩,h.ct⟩
variable{m:aC}{i:Ins}
def aue(m:aC)(h:MSh m):X4.F () (m,()) (λy=>y=m10 m):=by
 obtain⟨b,c,d,a⟩:=h;dsimp only [X4,gm];simp (disch:=omega) only [RR,MRB,nil_append,fE];exact⟨ah,ah,ah,ah⟩
def auf(m:aC)(h:Int):Yc.F () (m.pc,m.save,m.aL,m.waits,m.halt,m.ins,m.count,h,m.regs,m.mem,m.outs,()) (λy=>y=mB {m with halt:=h}):=by
 dsimp only [Yc,gm]
def aug{p1 f1}(a:Y10 p1 f1)(m:aC)(n:Int)(h:0<=m.count/\m.count<=1000000):Yd.F (p1,f1,()) (m.pc,m.save,m.aL,m.waits,m.halt,m.ins,m.count,n,m.regs,m.mem,m.outs,()) (λy=>y=mB {m with pc:=n%65536,count:=m.count+1}):=by
 dsimp only [Yd,gm];simp (disch:=omega) only [RR,a]
abbrev ajJ(b:sw->Bool)(a:sw->iK):Prop:=∀(m:aC) (n:Int),(0<=m.count/\m.count<=1000000)->b (m.pc,m.save,m.aL,m.waits,m.halt,m.ins,m.count,n,m.regs,m.mem,m.outs,())=true/\a (m.pc,m.save,m.aL,m.waits,m.halt,m.ins,m.count,n,m.regs,m.mem,m.outs,())=mB {m with pc:=n%65536,count:=m.count+1}
def auh{p1 f1}(e:ajJ p1 f1)(m:aC)(d v:Int)(h:MOK m)(b:0<=d)(g:d<=3):Yf.F (p1,f1,()) (m.pc,m.save,m.aL,m.waits,m.halt,m.ins,m.count,d,v,m.regs,m.mem,m.outs,()) (λy=>y=mB {m with regs:=m.regs.set d.toNat v,pc:=(m.pc+1)%65536,count:=m.count+1}):=by
 have a:=h.r4;have c:=h.ct;have f:0<=m.pc/\m.pc<=65535:=h.pc;obtain⟨P,H⟩:=e {m with regs:=m.regs.set d.toNat v} (m.pc+1) c;dsimp only at H P;dsimp only [Yf,gm];simp (disch:=omega) only [RR,H,P,a,b];omega
def dbl(v:Int)(j:Nat):(v*2^j%65536+v*2^j%65536)%65536=v*2^ (j+1)%65536:=by
 rw [Int.pow_succ,<-Int.mul_assoc];omega
def aui{p1 f1}(b:Y10 p1 f1)(v k:Int)(h:Wo v)(c:0<=k)(d:k<=15):Yg.F (p1,f1,()) (v,k,()) (λy=>y=(v*2^k.toNat%65536,())):=by
 dsimp only [Yg,gm];simp (disch:=omega) only [RR];refine ay (λ(y:aCf)=>y.1=k/\0<=y.2.2.1/\y.2.2.1<=k/\y.2.1=v*2^y.2.2.1.toNat%65536) (λy=>(k-y.2.2.1).toNat) ⟨rfl,by simp,c,by have:=h.1;have:=h.2;dsimp only;rw [show Int.toNat 0=0 from rfl,Int.pow_zero];omega⟩ ?_;rintro⟨(z:Int),(a:Int),(i:Int),⟨⟩⟩ hI;dsimp only at hI ⊢;obtain⟨rfl,e,f,rfl⟩:=hI;by_cases g:i<z
 .simp (disch:=omega) only [RR,b,g];exact⟨⟨ah,ah,by rw [show(i+1).toNat=i.toNat+1 by omega];exact dbl v i.toNat⟩,ah⟩
 .simp (disch:=omega) only [RR,b,g];rw [show i=z by omega]
def IR:(∀i:Ins,cO .ins 0 i=i.op)/\(∀i:Ins,cO .ins 1 i=i.d)/\(∀i:Ins,cO .ins 2 i=i.a)/\(∀i:Ins,cO .ins 3 i=i.k):=⟨λ_=>rfl,λ_=>rfl,λ_=>rfl,λ_=>rfl⟩
def Hz{u:aC}(h:exec m i=u):mB u=mB (exec m i):=by rw [h]
def bL(h:¬((i.op=9\/i.op=10)/\64<=adr m i)){u:aC}(e:eff m i=u){n:Int}(f:nxt m i=n):mB {u with pc:=n,count:=m.count+1}=mB (exec m i):=by
 refine Hz ?_;unfold exec;rw [dY h,e,f]
def ef0(e:i.op=0):eff m i=(if i.k=0 then {m with halt:=1}else if i.k=1 then {m with aL:=true}else {m with aL:=decide (i.k=2)}):=by
 unfold eff;(iterate 7 rw [dY ah]);rw [eB e]
def ef1(e:i.op=1):eff m i={m with regs:=m.regs.set i.d.toNat i.k}:=by unfold eff;rw [eB e]
def ef2(e:i.op=2):eff m i={m with regs:=m.regs.set i.d.toNat ((m.regs).getD (i.a).toNat default)}:=by unfold eff;rw [dY ah,eB e]
def ef8(e:i.op=8):eff m i={m with regs:=m.regs.set i.d.toNat (((m.regs).getD (i.a).toNat default)*2^i.k.toNat%65536)}:=by unfold eff;(iterate 2 rw [dY ah]);rw [eB e]
def ef9(e:i.op=9):eff m i={m with regs:=m.regs.set i.d.toNat ((m.mem).getD (adr m i).toNat default)}:=by unfold eff;(iterate 3 rw [dY ah]);rw [eB e]
def an0(e:i.op=10):eff m i={m with mem:=m.mem.set (adr m i).toNat ((m.regs).getD (i.d).toNat default)}:=by unfold eff;(iterate 4 rw [dY ah]);rw [eB e]
def auj(e:i.op=14):eff m i={m with outs:=m.outs++ [((m.regs).getD (i.d).toNat default)]}:=by unfold eff;(iterate 5 rw [dY ah]);rw [eB e]
def an1(e:i.op=15):eff m i={m with regs:=m.regs.set i.d.toNat (m.ins.getD 0 default),ins:=m.ins.drop 1}:=by unfold eff;(iterate 6 rw [dY ah]);rw [eB e]
def efj(e:11<=i.op/\i.op<=13):eff m i=m:=by unfold eff;(iterate 8 rw [dY ah]);rw [eB ah]
def efd(e:3<=i.op/\i.op<=7):eff m i={m with regs:=m.regs.set i.d.toNat (wdo (i.op-2) ((m.regs).getD (i.a).toNat default) ((m.regs).getD (i.k).toNat default))}:=by unfold eff;(iterate 9 rw [dY ah])
def nxp(h:(i.op=0->i.k≠1)/\¬(11<=i.op/\i.op<=13)):nxt m i=(m.pc+1)%65536:=by unfold nxt;rw [dY (λq=>h.1 q.1 q.2),dY (λq=>h.2 ah),dY ah]
def n9(h:¬(i.op=9\/i.op=10)):¬((i.op=9\/i.op=10)/\64<=adr m i):=λq=>h q.1
abbrev auk(b:sw->Bool)(a:sw->iK):Prop:=∀(m:aC) (h:Int),b (m.pc,m.save,m.aL,m.waits,m.halt,m.ins,m.count,h,m.regs,m.mem,m.outs,())=true/\a (m.pc,m.save,m.aL,m.waits,m.halt,m.ins,m.count,h,m.regs,m.mem,m.outs,())=mB {m with halt:=h}
abbrev aul(b:aCx->Bool)(a:aCx->iK):Prop:=∀(m:aC) (d v:Int),MOK m->0<=d->d<=3->b (m.pc,m.save,m.aL,m.waits,m.halt,m.ins,m.count,d,v,m.regs,m.mem,m.outs,())=true/\a (m.pc,m.save,m.aL,m.waits,m.halt,m.ins,m.count,d,v,m.regs,m.mem,m.outs,())=mB {m with regs:=m.regs.set d.toNat v,pc:=(m.pc+1)%65536,count:=m.count+1}
theorem aum{p1 f1 p2 f2 p3 f3 p4 f4}(A:Y10 p1 f1)(t:auk p2 f2)(k:ajJ p3 f3)(l:aul p4 f4)(m:aC)(i:Ins)(h:MOK m)(x:bg i)(j:i.op=9\/i.op=10):Yh.F (p1,f1,p2,f2,p3,f3,p4,f4,()) (m.pc,m.save,m.aL,m.waits,m.halt,m.ins,m.count,i,m.regs,m.mem,m.outs,()) (λy=>y=mB (exec m i)):=by
 obtain⟨_,⟨a,f⟩,⟨z,F⟩,D,_,_,_,_,_,w,_⟩:=x;have C:=w ah;have p:=h.r4;have n:=h.m64;have c:=h.ct;have E:0<=m.pc/\m.pc<=65535:=h.pc;have b:=λmem=>(k {m with mem:=mem} (m.pc+1) c).2
 have d:=λmem=>(k {m with mem:=mem} (m.pc+1) c).1
 dsimp only at b d;have r:=λv=>(l m i.d v h a f).2
 have o:=λv=>(l m i.d v h a f).1
 have G:0<=((m.regs).getD (i.a).toNat default)/\((m.regs).getD (i.a).toNat default)<=65535:=h.rw.at i.a;dsimp only [Yh,gm];simp (disch:=omega) only [RR,IR,A,t,b,d,r,o,p,n,a,z,fH];have s:(((m.regs).getD (i.a).toNat default)+i.k)%65536=adr m i:=rfl;rw [s];have B:0<=adr m i:=by unfold adr;omega
 refine⟨ah,ah,λg=>Hz (by unfold exec;rw [eB ⟨j,g⟩]),λg=>⟨λe=>⟨ah,ah,ah,ah,?_⟩,λe=>⟨ah,ah,ah,ah,ah,ah,?_⟩⟩⟩
 .exact bL (u:={m with regs:=m.regs.set i.d.toNat ((m.mem).getD (adr m i).toNat default)}) (λq=>by omega) (ef9 e) (nxp ah)
 .exact bL (u:={m with mem:=m.mem.set (adr m i).toNat ((m.regs).getD (i.d).toNat default)}) (λq=>by omega) (an0 (j.resolve_left e)) (nxp ah)
def aun{p1 f1 p2 f2}(s:ajJ p1 f1)(f:aul p2 f2)(m:aC)(i:Ins)(h:MOK m)(C:bg i)(q:i.op=14\/i.op=15)(hn:m.ins.length<1000000000)(F:m.outs.length<900000000):Yi.F (p1,f1,p2,f2,()) (m.pc,m.save,m.aL,m.waits,m.halt,m.ins,m.count,i,m.regs,m.mem,m.outs,()) (λy=>y=mB (exec m i)):=by
 obtain⟨_,⟨b,d⟩,⟨H,I⟩,E,_⟩:=C;have z:=h.r4;have w:=h.m64;have c:=h.ct;have G:0<=m.pc/\m.pc<=65535:=h.pc;have n:=λo=>(s {m with outs:=o} (m.pc+1) c).2
 have p:=λo=>(s {m with outs:=o} (m.pc+1) c).1
 dsimp only at n p;have mk:∀l:List Int,l=m.ins\/l=m.ins.drop 1->MOK {m with ins:=l}:=λl B=> {h with iw:=by rcases B with rfl | rfl;exact h.iw;exact h.iw.drop 1}
 have A:=λv=>(f m i.d v h b d).2
 have x:=λv=>(f m i.d v h b d).1
 have k:=λv=>(f {m with ins:=m.ins.drop 1} i.d v (mk _ (Or.inr rfl)) b d).2
 have t:=λv=>(f {m with ins:=m.ins.drop 1} i.d v (mk _ (Or.inr rfl)) b d).1
 dsimp only at k t;have D:drop (Int.toNat 1) (take (Int.toNat (m.ins.length:Int)) m.ins)=m.ins.drop 1:=by rw [show Int.toNat (m.ins.length:Int)=m.ins.length by omega,take_of_length_le (Nat.le_refl _)];rfl
 dsimp only [Yi,gm];simp (disch:=omega) only [RR,IR,n,p,A,x,k,t,D,z,w,b,fA,fE,fH];have n9:¬((i.op=9\/i.op=10)/\64<=adr m i):=n9 ah;have j:nxt m i=(m.pc+1)%65536:=nxp ah;refine⟨λe=>⟨ah,ah,ah,?_⟩,λe=>⟨λg=>⟨ah,g,ah,ah,ah,?_⟩,λg=> ?_⟩⟩
 .exact bL (u:={m with outs:=m.outs++ [((m.regs).getD (i.d).toNat default)]}) n9 (auj e) j
 .exact bL (u:={m with regs:=m.regs.set i.d.toNat (m.ins.getD 0 default),ins:=m.ins.drop 1}) n9 (an1 (q.resolve_left e)) j
 .have e0:m.ins=[]:=by
   cases hm:m.ins with
   | nil=>rfl
   | cons a r=>rw [hm]at g;simp only [fA]at g;omega
  have:=bL (u:={m with regs:=m.regs.set i.d.toNat (m.ins.getD 0 default),ins:=m.ins.drop 1}) n9 (an1 (q.resolve_left e)) j;rw [e0]at this;rw [<-this,e0];rfl
def auo{p1 f1 p2 f2}(t:auk p1 f1)(d:ajJ p2 f2)(m:aC)(i:Ins)(h:MOK m)(o:i.op=0):Ye.F (p1,f1,p2,f2,()) (m.pc,m.save,m.aL,m.waits,m.halt,m.ins,m.count,i.k,m.regs,m.mem,m.outs,()) (λy=>i.k<=3->0<=i.k->y=mB (exec m i)):=by
 have c:=h.ct;have x:0<=m.pc/\m.pc<=65535:=h.pc;have z:0<=m.save/\m.save<=65535:=h.sv;obtain⟨r,s⟩:=t m 1;have p:=λb n=>(d {m with aL:=b} n c).2
 have l:=λb n=>(d {m with aL:=b} n c).1
 have g:=λn=>(d {m with halt:=1} n c).2
 have j:=λn=>(d {m with halt:=1} n c).1
 dsimp only at p l g j;have n9:¬((i.op=9\/i.op=10)/\64<=adr m i):=n9 ah;have a:=ef0 (m:=m) o;have f:i.k≠1->nxt m i=(m.pc+1)%65536:=λe=>nxp ⟨λ_=>e,ah⟩
 dsimp only [Ye,gm];simp (disch:=omega) only [RR,s,r,p,l,g,j];refine⟨λe _ _=> ?_,λe=>⟨λk _ _=> ?_,λk=>⟨λq _ _=> ?_,λq v w=> ?_⟩⟩⟩
 .rw [show m.save%65536=m.save by omega];exact bL (u:={m with aL:=true}) n9 (by rw [a,dY ah,eB e]) (by unfold nxt;rw [eB ⟨o,e⟩])
 .exact bL (u:={m with aL:=true}) n9 (by rw [a,dY ah,dY ah,k];rfl) (f ah)
 .exact bL (u:={m with aL:=false}) n9 (by rw [a,dY ah,dY ah,q];rfl) (f ah)
 .exact bL (u:={m with halt:=1}) n9 (by rw [a,eB ah]) (f ah)
def HV{a b:Int}(c:Wo a)(d:Wo b):(xP 1 a b=true↔a=b)/\(xP 2 a b=true↔a<b):=by
 rw [QE,QF,zi,zi,aJ (show 0<=a/\a<=65535 from c),aJ (show 0<=b/\b<=65535 from d)];simp
def aup{p1 f1 p2 f2 p5 f5}{s:uy->Bool}{K:uy->iK}{t:uy->Bool}{J:uy->iK}{x:sj->Bool}{H:sj->eu}{A:sw->Bool}{B:sw->iK}(W:Y24 p1 f1)(F:ajJ p2 f2)(T:∀(m:aC) (i:Ins),MOK m->bg i->(i.op=14\/i.op=15)->m.ins.length<1000000000->m.outs.length<900000000->s (m.pc,m.save,m.aL,m.waits,m.halt,m.ins,m.count,i,m.regs,m.mem,m.outs,())=true/\K (m.pc,m.save,m.aL,m.waits,m.halt,m.ins,m.count,i,m.regs,m.mem,m.outs,())=mB (exec m i))(V:∀(m:aC) (i:Ins),MOK m->bg i->(i.op=9\/i.op=10)->t (m.pc,m.save,m.aL,m.waits,m.halt,m.ins,m.count,i,m.regs,m.mem,m.outs,())=true/\J (m.pc,m.save,m.aL,m.waits,m.halt,m.ins,m.count,i,m.regs,m.mem,m.outs,())=mB (exec m i))(E:aul p5 f5)(Q:∀(v k:Int),Wo v->0<=k->k<=15->x (v,k,())=true/\H (v,k,())=(v*2^k.toNat%65536,()))(w:∀(m:aC) (i:Ins),MOK m->i.op=0->A (m.pc,m.save,m.aL,m.waits,m.halt,m.ins,m.count,i.k,m.regs,m.mem,m.outs,())=true/\(i.k<=3->0<=i.k->B (m.pc,m.save,m.aL,m.waits,m.halt,m.ins,m.count,i.k,m.regs,m.mem,m.outs,())=mB (exec m i)))(m:aC)(i:Ins)(h:MOK m)(I:bg i)(hn:m.ins.length<1000000000)(S:m.outs.length<900000000):Yj.F (p1,f1,p2,f2,s,K,t,J,p5,f5,x,H,A,B,()) (m.pc,m.save,m.aL,m.waits,m.halt,m.ins,m.count,i,m.regs,m.mem,m.outs,()) (λy=>y=mB (exec m i)):=by
 have l:=I;obtain⟨⟨o0,o1⟩,⟨d,C⟩,⟨j,a1⟩,b,P,Z,r2,N,X,G,_⟩:=I;have f:=h.r4;have c:=h.ct;have pw:0<=m.pc/\m.pc<=65535:=h.pc;have r:=h.rw.at i.a;have Y:=h.rw.at i.d;obtain⟨D,L⟩:=HV Y r;have O:0<=((m.regs).getD (i.a).toNat default)/\((m.regs).getD (i.a).toNat default)<=65535:=r;have o:=λv=>(E m i.d v h d C).2
 have p:=λv=>(E m i.d v h d C).1
 have U:=λn=>(F m n c).2
 have R:=λn=>(F m n c).1
 dsimp only [Yj,gm];rcases(by omega:i.op=0\/i.op=1\/i.op=2\/(3<=i.op/\i.op<=7)\/i.op=8\/(i.op=9\/i.op=10)\/i.op=11\/i.op=12\/i.op=13\/(i.op=14\/i.op=15))with e | e | e | e | e | e | e | e | e | e
 case inr.inr.inr.inl=>
  have a:∀z:Int,z<3\/7<z->¬i.op=z:=λz g q=>by omega
  have kk:=N e;simp (disch:=omega) only [RR,IR,a 0 ah,a 1 ah,a 2 ah,a 8 ah,a 9 ah,a 10 ah,a 11 ah,a 12 ah,a 13 ah,a 14 ah,a 15 ah,W,o,p,f,d,j,b];refine⟨ah,ah,ah,ah,?_⟩;rw [show i.op-3+1=i.op-2 by omega];exact bL (u:={m with regs:=m.regs.set i.d.toNat (wdo (i.op-2) ((m.regs).getD (i.a).toNat default) ((m.regs).getD (i.k).toNat default))}) (n9 ah) (efd e) (nxp ah)
 case inr.inr.inr.inr.inr.inl=>
  rcases e with e | e<;>simp (disch:=omega) only [RR,IR,e,Int.reduceEq,V m i h l ah,f,d,j,b]
  all_goals exact⟨ah,ah⟩
 case inr.inr.inr.inr.inr.inr.inr.inr.inr=>
  rcases e with e | e<;>simp (disch:=omega) only [RR,IR,e,Int.reduceEq,T m i h l ah hn S,f,d,j,b]
  all_goals exact⟨ah,ah⟩
 case inl=>
  simp (disch:=omega) only [RR,IR,e,Int.reduceEq,(w m i h e).1,f,d,j,b];exact⟨ah,ah,(w m i h e).2 (P e).2.2 b⟩
 case inr.inr.inr.inr.inl=>
  simp (disch:=omega) only [RR,IR,e,Int.reduceEq,Q _ _ r b (X e),o,p,f,d,j,b];exact⟨ah,ah,bL (u:={m with regs:=m.regs.set i.d.toNat (((m.regs).getD (i.a).toNat default)*2^i.k.toNat%65536)}) (n9 ah) (ef8 e) (nxp ah)⟩
 all_goals simp (disch:=omega) only [RR,IR,e,Int.reduceEq,o,p,U,R,f,d,j,b]
 .exact⟨ah,ah,bL (u:={m with regs:=m.regs.set i.d.toNat i.k}) (n9 ah) (ef1 e) (nxp ah)⟩
 .exact⟨ah,ah,bL (u:={m with regs:=m.regs.set i.d.toNat ((m.regs).getD (i.a).toNat default)}) (n9 ah) (ef2 e) (nxp ah)⟩
 .have ef:eff m i=m:=efj ah;have M:=G ah;refine⟨ah,ah,ah,ah,λg=> ?_,λg=> ?_⟩
  .rw [show i.k%65536=i.k by omega];exact bL (u:=m) (n9 ah) ef (by unfold nxt;rw [dY ah,eB ⟨Or.inl e,by rw [e];exact D.2 g⟩])
  .exact bL (u:=m) (n9 ah) ef (by unfold nxt;rw [dY ah,dY (λq=>g (D.1 (by have:=q.2;rw [e]at this;exact this))),dY ah])
 .have ef:eff m i=m:=efj ah;have M:=G ah;refine⟨ah,ah,ah,ah,λg=> ?_,λg=> ?_⟩
  .rw [show i.k%65536=i.k by omega];exact bL (u:=m) (n9 ah) ef (by unfold nxt;rw [dY ah,eB ⟨Or.inr e,by rw [e];exact L.2 g⟩])
  .exact bL (u:=m) (n9 ah) ef (by unfold nxt;rw [dY ah,dY (λq=>g (L.1 (by have:=q.2;rw [e]at this;exact this))),dY ah])
 .have ef:eff m i=m:=efj ah;rw [show((m.regs).getD (i.a).toNat default)%65536=((m.regs).getD (i.a).toNat default) by omega];exact⟨ah,ah,bL (u:=m) (n9 ah) ef (by unfold nxt;rw [dY ah,dY ah,eB e];rfl)⟩
def smp(m:aC)(b:Bool):aC:=if(m.waits || b)=true/\m.aL=true then {m with waits:=false,aL:=false,save:=m.pc,pc:=48}else {m with waits:=m.waits || b}
def auq(m:aC)(b:Bool):Yb.F () (m.pc,m.save,m.aL,m.waits,m.halt,m.ins,m.count,b,m.regs,m.mem,m.outs,()) (λy=>y=mB (smp m b)):=by
 dsimp only [Yb,gm];unfold smp;cases hw:m.waits<;>cases hb:b<;>cases hl:m.aL<;>simp
def aur(l:List Int)(n:Int)(h:l.length<1000000000):X9.F () (l,n,()) (λy=>y=(bp (n∈l),())):=by
 dsimp only [X9,gm];simp (disch:=omega) only [RR];refine ay (λ(y:aBY)=>y.1=l/\y.2.1=n/\0<=y.2.2.1/\y.2.2.1<=l.length/\n∉l.take y.2.2.1.toNat) (λy=>(l.length-y.2.2.1).toNat) ⟨rfl,rfl,by simp,by simp,by simp⟩ ?_;rintro⟨(l:List Int),(n:Int),(i:Int),⟨⟩⟩ hI;dsimp only at hI ⊢;obtain⟨rfl,rfl,b,c,a⟩:=hI;simp (disch:=omega) only [RR];refine⟨λg=>⟨b,g,λe=> ?_,λe=>⟨⟨ah,ah,λq=> ?_⟩,ah⟩⟩,λg=> ?_⟩
 .rw [aJ (by rw [<-e];exact bV b g)]
 .rw [show(i+1).toNat=i.toNat+1 by omega,take_succ_eq_append_getElem ah,mem_append,mem_singleton,<-getD_lt (d:=default) (show i.toNat<l.length by omega)]at q;exact q.elim a (λz=>e z.symm)
 .rw [take_of_length_le ah]at a;rw [aV a]
end Go.TX.F
namespace Go.TX.F
open Go Go.AE Go.TX List
def fm(i:Ins):Bool:=if i.op=0 then decide (i.d=0)&&decide (i.a=0)&&decide (i.k<=3)else if i.op=1 then decide (i.a=0)else if i.op=2 then decide (i.k=0)else if 3<=i.op/\i.op<=7 then decide (i.k<4)else if i.op=8 then decide (i.k<16)else if i.op=13 then decide (i.d=0)&&decide (i.k=0)else if i.op=14\/i.op=15 then decide (i.a=0)&&decide (i.k=0)else true
def aBm(b:Bool):bp (b=true)=b:=by
 cases b with
 | true=>exact aJ rfl
 | false=>exact aV (by decide)
def aus(i:Ins):(inB i.op 0 15&&inB i.d 0 3&&inB i.a 0 3&&inB i.k 0 255&&fm i)=bp (bg i):=by
 have h:((0<=i.op/\i.op<=15)/\(0<=i.d/\i.d<=3)/\(0<=i.a/\i.a<=3)/\(0<=i.k/\i.k<=255)/\fm i=true)↔bg i:=by
  unfold bg fm;split
  .simp only [Bool.and_eq_true,decide_eq_true_eq];omega
  split
  .simp only [decide_eq_true_eq];omega
  split
  .simp only [decide_eq_true_eq];omega
  split
  .simp only [decide_eq_true_eq];omega
  split
  .simp only [decide_eq_true_eq];omega
  split
  .simp only [Bool.and_eq_true,decide_eq_true_eq];omega
  split
  .simp only [Bool.and_eq_true,decide_eq_true_eq];omega
  .simp only [eq_self,and_true];omega
 rw [<-gP h];simp only [zi,eH,Bool.and_assoc,aBm]
def Ko(i:Ins):Wu.F () (i,()) (λy=>y=(fm i,())):=by
 dsimp only [Wu,gm];rcases(by omega:(i.op=0\/i.op=1\/i.op=2\/i.op=3\/i.op=4\/i.op=5\/i.op=6\/i.op=7\/i.op=8\/i.op=13\/i.op=14\/i.op=15)\/(¬(0<=i.op/\i.op<=8)/\¬(13<=i.op/\i.op<=15)))with(e | e | e | e | e | e | e | e | e | e | e | e) | ⟨n1,n2⟩
 case inr=>
  have n:∀z:Int,(0<=z/\z<=8)\/(13<=z/\z<=15)->¬i.op=z:=λz g q=>by omega
  have a:¬(3<=i.op/\i.op<=7):=λq=>by omega
  simp (disch:=omega) only [RR,IR,n];unfold fm;simp (disch:=omega) only [n,a,if_false,or_self]
 all_goals simp (disch:=omega) only [RR,IR,e,Int.reduceEq]
 all_goals unfold fm
 all_goals simp [e]
def LZ{p1 f1}{b:aCi->Bool}{a:aCi->lX}(c:Y1 p1 f1)(d:∀i,b (i,())=true/\a (i,())=(fm i,()))(i:Ins):Wv.F (p1,f1,b,a,()) (i,()) (λy=>y=(bp (bg i),())):=by
 dsimp only [Wv,gm];simp (disch:=omega) only [RR,IR,c,d];rw [aus]
noncomputable def tkI (w:Int):Int×Int×Int×Int×lX:=if bp (Wo w/\bg (bU w))=true then((bU w).op,(bU w).d,(bU w).a,(bU w).k,true,())else(0,0,0,0,false,())
theorem aut{p1 f1 p2 f2}(c:aa6 p1 f1)(b:Y9 p2 f2)(w:Int):XO.F (p1,f1,p2,f2,()) (w,()) (λy=>y=tkI w):=by
 dsimp only [XO,gm];simp (disch:=omega) only [RR,c,b,zi];by_cases h:Wo w
 .obtain⟨w0,w1⟩:=id h;have e:∀x y z u:Int,Co.mk .ins (x,y,z,u,())=⟨x,y,z,u⟩:=λ_ _ _ _=>rfl
  have q:∀n:Int,0<n->0<=w/n/\w/n<=65535:=λn hn=>⟨Int.ediv_nonneg w0 ah,Int.le_trans (Int.ediv_le_self _ w0) w1⟩
  have d:=q 4096 (by decide);have i:=q 1024 (by decide);have f:=q 256 (by decide);rw [aJ (show 0<=w/\w<=65535 from h)];simp (disch:=omega) only [RR,e,Int.tdiv_eq_ediv_of_nonneg,Int.tmod_eq_emod_of_nonneg];have a:(⟨w/4096,w/1024%4,w/256%4,w%256⟩:Ins)=bU w:=rfl;unfold tkI;by_cases k:bg (bU w)
  .rw [a,aJ k,aJ ⟨h,k⟩];simp;rfl
  .rw [a,aV k,aV (λg=>k g.2)];simp
 .rw [aV (show¬(0<=w/\w<=65535)from h)];unfold tkI;rw [aV (λg=>h g.1)];simp
noncomputable def fK (i:Ins):Int:=if bp (bg i)=true then Fp i else 0
def Aw(i:Ins):Wo (fK i):=by
 unfold fK;split
 .rename_i h;obtain⟨⟨c,g⟩,⟨a,f⟩,⟨b,d⟩,e,h⟩:=aF.1 h;unfold Fp Wo;omega
 .exact wo0
def auu{p1 f1}(a:aa6 p1 f1)(i:Ins):YJ.F (p1,f1,()) (i,()) (λy=>y=(fK i,())):=by
 dsimp only [YJ,gm];simp (disch:=omega) only [RR,IR,a];unfold fK Fp;refine⟨λh=>by rw [h];rfl,λh=> ?_⟩;rw [eB h];obtain⟨⟨e,k⟩,⟨c,j⟩,⟨d,f⟩,g,h⟩:=aF.1 h;have b:i.k<=255:=by omega
 simp (disch:=omega) only [w64]
abbrev auv(b:aCi->Bool)(a:aCi->eu):Prop:=∀i,b (i,())=true/\a (i,())=(fK i,())
def auw{p1 f1}(b:auv p1 f1)(l:List Ins)(e:l.length<1000000):YK.F (p1,f1,()) (l,()) (λy=>y=(l.map fK,())):=by
 dsimp only [YK,gm];simp (disch:=omega) only [RR,fE];refine ay (λ(y:List Ins×Int×bn)=>y.1=l/\0<=y.2.1/\y.2.1<=l.length/\y.2.2.1=(l.take y.2.1.toNat).map fK) (λy=>(l.length-y.2.1).toNat) ⟨rfl,by simp,by simp,by simp⟩ ?_;rintro⟨(l:List Ins),(i:Int),(o:List Int),⟨⟩⟩ hI;dsimp only at hI ⊢;obtain⟨rfl,c,f,rfl⟩:=hI;simp (disch:=omega) only [RR,b,length_map,fA,fE];have g:=length_take_le' i.toNat l;refine⟨λa=>⟨ah,ah,ah,⟨ah,ah,?_⟩,ah⟩,λa=>by rw [take_of_length_le ah]⟩;rw [<-bA (d:=default) c a rfl,map_append];rfl
def auy{l:List Int}(h:Wos l){n:Int}(w:Wo n):Wos (n::l):=λx a=>(mem_cons.1 a).elim (λe=>e▸w) (h x)
noncomputable def kQ (w i:List Int):aC:=if bp (w.length<=64/\Wos w/\Wos i)=true then⟨[0,0,0,0],0,w++replicate (64-w.length) 0,0,false,false,0,i,[],0⟩else TP
def adq{w i:List Int}(h:w.length<=64)(b:Wos w)(c:Wos i):MOK (kQ w i):=by
 unfold kQ;rw [aJ ⟨h,b,c⟩,eB rfl];have z:∀n:Nat,Wos (replicate n 0):=λn x a=>by rw [eq_of_mem_replicate a];exact wo0
 exact⟨rfl,z 4,by show(w++replicate (64-w.length) 0).length=64;rw [eG,length_replicate];omega,λx a=>(mem_append.1 a).elim (b x) (z _ x),wo0,wo0,c,λx a=>(by cases a),⟨show(0:Int)<=0 by decide,show(0:Int)<=4 by decide⟩,⟨show(0:Int)<=0 by decide,show(0:Int)<=1000000 by decide⟩⟩
def auz{p1 f1}(f:atS p1 f1)(w i:List Int)(x:w.length<1000000)(z:i.length<1000000):Zg.F (p1,f1,()) (w,i,()) (λy=>y=((kQ w i).pc,(kQ w i).save,(kQ w i).aL,(kQ w i).waits,(kQ w i).halt,(kQ w i).count,(kQ w i).regs,(kQ w i).mem,(kQ w i).ins,())):=by
 obtain⟨P,Q⟩:=f w ah;obtain⟨s,p⟩:=f i ah;dsimp only [Zg,gm];simp (disch:=omega) only [RR,P,s,Q,p,fH,nil_append,fE];by_cases c:w.length<=64/\Wos w/\Wos i
 .have e:kQ w i=⟨[0,0,0,0],0,w++replicate (64-w.length) 0,0,false,false,0,i,[],0⟩:=by unfold kQ;rw [aJ c,eB rfl]
  obtain⟨v,n,o⟩:=c;rw [e,aJ n,aJ o];refine⟨λq=>absurd q (by simp;omega),λ_=>⟨ah,?_⟩⟩;have t:(w++replicate (64-w.length) (0:Int)).length=64:=by rw [eG,length_replicate];omega
  have a:∀k:Nat,k<64->(w++replicate (64-w.length) (0:Int))[k]? =some (if k<w.length then w.getD k default else 0):=λk hk=>by
   by_cases g:k<w.length
   .rw [eB g,getElem?_append_left g,getElem?_eq_getElem g,getD_lt g]
   .rw [dY g,getElem?_append_right ah,getElem?_replicate,eB ah]
  generalize w++replicate (64-w.length) (0:Int)=M at t a;refine ay (λ(y:List Int×Int×Int×Int×Bool×Bool×Int×Int×Int×Int×Bool×Bool×aCd)=>y.1=w/\0<=y.2.1/\y.2.1<=64/\y.2.2.2.2.2.2.2.2=(0,0,false,false,0,0,[0,0,0,0],M.take y.2.1.toNat,i,())) (λy=>(64-y.2.1).toNat) ⟨rfl,by simp,by simp,rfl⟩ ?_;rintro⟨(w:List Int),(k:Int),u1,u2,u3,u4,u5,u6,v1,v2,v3,v4,v5,v6,r,l,j,⟨⟩⟩ hI;dsimp only at hI ⊢;obtain⟨rfl,m,u,d⟩:=hI;simp only [Prod.mk.injEq,and_true]at d;obtain⟨rfl,rfl,rfl,rfl,rfl,rfl,rfl,rfl,rfl⟩:=d;have tl:(M.take k.toNat).length<=64:=by rw [length_take];omega
  have h:k<64->M.take (k+1).toNat=M.take k.toNat++ [if k.toNat<w.length then w.getD k.toNat default else 0]:=λg=>by
   rw [show(k+1).toNat=k.toNat+1 by omega,take_add_one,a _ ah];rfl
  simp (disch:=omega) only [RR,fA,fE];refine⟨λg=>⟨λb=>⟨m,b,ah,⟨ah,ah,?_⟩,ah⟩,λb=>⟨ah,⟨ah,ah,?_⟩,ah⟩⟩,λg=> ?_⟩
  .rw [h g,eB ah]
  .rw [h g,dY ah]
  .rw [take_of_length_le ah]
 .have e:kQ w i=TP:=by unfold kQ;rw [aV c,dY (by decide)]
  rw [e];refine⟨λ_=>rfl,λg=>absurd ⟨ah,aF.1 g.1.2,aF.1 g.2⟩ c⟩
variable{m:aC}
theorem lH(m:aC)(b:Bool):stepM m b=(if 64<=(smp m b).pc then {smp m b with halt:=4}else if bp (bg (bU (((smp m b).mem).getD ((smp m b).pc).toNat default)))=false then {smp m b with halt:=2}else exec (smp m b) (bU (((smp m b).mem).getD ((smp m b).pc).toNat default))):=rfl
def QH(h:MOK m)(b:Bool):MOK (smp m b):=by
 unfold smp;split
 .exact {h with sv:=h.pc,pc:=⟨show(0:Int)<=48 by decide,show(48:Int)<=65535 by decide⟩}
 .exact {h with}
def Cm(m:aC)(b:Bool):(smp m b).ins=m.ins/\(smp m b).outs=m.outs/\(smp m b).count=m.count:=by unfold smp;split<;>exact⟨rfl,rfl,rfl⟩
def auA(h:MOK m){i:Ins}(d:bg i):Wo (nxt m i):=by
 obtain⟨_,_,_,a,_,_,_,_,_,b,_⟩:=d;unfold nxt;split
 .exact h.sv
 split
 .rename_i c;exact⟨a,by have:=b ah;omega⟩
 split
 .exact h.rw.at _
 .unfold Wo;omega
def an2(m:aC)(i:Ins):(eff m i).count=m.count/\(eff m i).ins.length<=m.ins.length/\(eff m i).outs.length<=m.outs.length+1:=by
 unfold eff
 repeat' split
 all_goals refine⟨rfl,?_,?_⟩
 all_goals first | exact Nat.le_refl _ | exact Nat.le_succ _ | (simp only [eG,fA,fE];omega) | (simp only [length_drop];omega)
def qz(h:MOK m){i:Ins}(a:bg i)(c:m.count<1000000):MOK (exec m i):=by
 unfold exec;split
 .exact {h with ha:=⟨show(0:Int)<=3 by decide,show(3:Int)<=4 by decide⟩}
 .have:=h.ct;exact {aa7 h a with pc:=auA h a,ct:=⟨show 0<=m.count+1 by omega,show m.count+1<=1000000 by omega⟩}
def an3(m:aC)(i:Ins):(exec m i).ins.length<=m.ins.length/\(exec m i).outs.length<=m.outs.length+1:=by
 unfold exec;split
 .exact⟨Nat.le_refl _,Nat.le_succ _⟩
 .exact(an2 m i).2
def rF(h:MOK m)(c:m.count<1000000)(b:Bool):MOK (stepM m b):=by
 have s:=QH h b;rw [lH];split
 .exact {s with ha:=⟨show(0:Int)<=4 by decide,show(4:Int)<=4 by decide⟩}
 split
 .exact {s with ha:=⟨show(0:Int)<=2 by decide,show(2:Int)<=4 by decide⟩}
 .rename_i g;exact qz s (aF.1 (by simpa using g)) (by rw [(Cm m b).2.2];exact c)
def DJ(m:aC)(b:Bool):(stepM m b).ins.length<=m.ins.length/\(stepM m b).outs.length<=m.outs.length+1:=by
 obtain⟨a,c,_⟩:=Cm m b;rw [lH];split
 .exact⟨by rw [<-a];exact Nat.le_refl _,by rw [<-c];exact Nat.le_succ _⟩
 split
 .exact⟨by rw [<-a];exact Nat.le_refl _,by rw [<-c];exact Nat.le_succ _⟩
 .rw [<-a,<-c];exact an3 _ _
noncomputable def stS (m:aC) (b:Bool):aC:=if bp (MOK m)=true then(if m.halt≠0\/m.count=1000000 then m else stepM m b)else TP
abbrev aa8(b:eu->Bool)(a:eu->Int×Int×Int×Int×lX):Prop:=∀w,b (w,())=true/\a (w,())=tkI w
def auB{p1 f1 p2 f2 p3 f3 p5 f5}{a:uy->Bool}{j:uy->iK}{d:Eo->Bool}{f:Eo->iK}(D:aa8 p1 f1)(z:QG p2 f2)(x:aa5 p3 f3)(B:∀(m:aC) (i:Ins),MOK m->bg i->m.ins.length<1000000000->m.outs.length<900000000->a (m.pc,m.save,m.aL,m.waits,m.halt,m.ins,m.count,i,m.regs,m.mem,m.outs,())=true/\j (m.pc,m.save,m.aL,m.waits,m.halt,m.ins,m.count,i,m.regs,m.mem,m.outs,())=mB (exec m i))(e:auk p5 f5)(r:∀(m:aC) (b:Bool),d (m.pc,m.save,m.aL,m.waits,m.halt,m.ins,m.count,b,m.regs,m.mem,m.outs,())=true/\f (m.pc,m.save,m.aL,m.waits,m.halt,m.ins,m.count,b,m.regs,m.mem,m.outs,())=mB (smp m b))(m:aC)(b:Bool)(h:MSh m)(w:m.outs.length<900000000):Yk.F (p1,f1,p2,f2,p3,f3,a,j,p5,f5,d,f,()) (m,b,()) (λy=>y=mB (stS m b)):=by
 obtain⟨A,l⟩:=r m b;dsimp only [Yk,gm];simp (disch:=omega) only [RR,MRB,D,z m h,x m h,A,l];unfold stS;refine⟨λg=>by rw [dY (by rw [g];decide)];rfl,λg=> ?_⟩;have ok:=aF.1 g;have s:=QH ok b;obtain⟨C,u,_⟩:=Cm m b;have E:=s.m64;have G:0<=(smp m b).pc/\(smp m b).pc<=65535:=s.pc;have F:=(λz1=>(e (smp m b) z1).1);have o:=(λz1=>(e (smp m b) z1).2);rw [eB g];refine⟨λq=>by rw [eB q],λq=> ?_⟩;rw [dY ah,lH];have v:=s.mw.at (smp m b).pc;simp only [F,o];refine⟨λq=>⟨trivial,by rw [eB q]⟩,λq=>⟨ah,ah,ah,ah,?_⟩⟩;rw [dY ah];by_cases k:bg (bU (((smp m b).mem).getD ((smp m b).pc).toNat default))
 .have t:tkI (((smp m b).mem).getD ((smp m b).pc).toNat default)=((bU (((smp m b).mem).getD ((smp m b).pc).toNat default)).op,(bU (((smp m b).mem).getD ((smp m b).pc).toNat default)).d,(bU (((smp m b).mem).getD ((smp m b).pc).toNat default)).a,(bU (((smp m b).mem).getD ((smp m b).pc).toNat default)).k,true,()):=by unfold tkI;rw [aJ ⟨v,k⟩,eB rfl]
  rw [t,aJ k,dY (by decide)];obtain⟨n,p⟩:=B (smp m b) _ s k (by rw [C];exact h.2.2.1) (by rw [u];exact w);exact⟨λc=>(by cases c),λ_=>⟨n,p⟩⟩
 .have t:tkI (((smp m b).mem).getD ((smp m b).pc).toNat default)=(0,0,0,0,false,()):=by unfold tkI;rw [aV (λq=>k q.2),dY (by decide)]
  rw [t,aV k,eB rfl];exact⟨λ_=>⟨trivial,rfl⟩,λc=>(by cases c)⟩
noncomputable def iO (q:List Int):Nat->aC->aC
 | 0,m=>m
 | k+1,m=>if m.halt=0/\m.count<1000000 then iO q k (stepM m (bp (m.count∈q)))else m
def QI(q:List Int):∀(k:Nat) {m:aC},MOK m->MOK (iO q k m)
 | 0,m,h=>h
 | k+1,m,h=>by
  unfold iO;split
  .rename_i c;exact QI q k (rF h c.2 _)
  .exact h
def ads(q:List Int):∀(k:Nat) (m:aC),(iO q k m).ins.length<=m.ins.length/\(iO q k m).outs.length<=m.outs.length+k
 | 0,m=>⟨Nat.le_refl _,Nat.le_refl _⟩
 | k+1,m=>by
  unfold iO;split
  .have a:=ads q k (stepM m (bp (m.count∈q)));have b:=DJ m (bp (m.count∈q));omega
  .omega
noncomputable def lZ (q:List Int) (n:Int) (m:aC):aC:=if bp (MOK m/\n<=400)=true then iO q n.toNat m else TP
abbrev azp(c:aC×lX->Bool)(a:aC×lX->iK):Prop:=∀m b,MSh m->m.outs.length<900000000->c (m,b,())=true/\a (m,b,())=mB (stS m b)
abbrev aeK(b:lT->Bool)(a:lT->lX):Prop:=∀l n,l.length<1000000000->b (l,n,())=true/\a (l,n,())=(bp (n∈l),())
theorem auC{p1 f1 p2 f2 p3 f3 p4 f4}(s:QG p1 f1)(o:azp p2 f2)(j:aa5 p3 f3)(r:aeK p4 f4)(m:aC)(q:List Int)(n:Int)(h:MSh m)(f:q.length<1000000000)(A:m.outs.length<800000000):Zn.F (p1,f1,p2,f2,p3,f3,p4,f4,()) (m,q,n,()) (λy=>y=mB (lZ q n m)):=by
 dsimp only [Zn,gm];simp (disch:=omega) only [RR,MRB,s m h,j m h];refine⟨λg=> ?_,λg=> ?_⟩
 .unfold lZ;rw [eH,dY]
  .rfl
  .rcases g with g | g
   .rw [g];simp
   .rw [aV (show¬n<=400 by omega)];simp
 have ok:=aF.1 g.1;have e:lZ q n m=iO q n.toNat m:=by unfold lZ;rw [aJ ⟨ok,ah⟩,eB rfl]
 rw [e];have t:n<=400:=by omega
 refine ay (λ(y:List Int×Int×Int×Int×Int×Bool×Bool×Int×Int×iK)=>∃(x:aC) (k:Nat),y.1=q/\y.2.1=n/\y.2.2.1=k/\k<=n.toNat/\y.2.2.2.2.2.2.2.2.2=mB x/\MOK x/\x.ins.length<=m.ins.length/\x.outs.length<=m.outs.length+k/\iO q (n.toNat-k) x=iO q n.toNat m) (λy=>(n-y.2.2.1).toNat)
  ⟨m,0,rfl,rfl,rfl,ah,rfl,ok,Nat.le_refl _,Nat.le_refl _,rfl⟩ ?_
 rintro⟨(q:List Int),(n:Int),(i:Int),u1,u2,u3,u4,u5,u6,v1,v2,v3,v4,v5,v6,v7,v8,v9,v10,⟨⟩⟩ ⟨x,k,hI⟩;dsimp only at hI ⊢;obtain⟨rfl,rfl,rfl,v,b,a,u,w,d⟩:=hI;simp only [Prod.mk.injEq,and_true]at b;obtain⟨rfl,rfl,rfl,rfl,rfl,rfl,rfl,rfl,rfl,rfl⟩:=b;have p:MSh x:=⟨by rw [a.r4];decide,by rw [a.m64];decide,by have:=h.2.2.1;omega,ah⟩;have mK:Co.mk .aj (x.regs,x.pc,x.mem,x.save,x.aL,x.waits,x.halt,x.ins,x.outs,x.count,())=x:=rfl;simp (disch:=omega) only [RR,mK,r _ _ f,o x _ p ah];refine⟨λg=> ?_,λg=> ?_⟩
 .have e:stS x (bp (x.count∈q))=stepM x (bp (x.count∈q)):=by unfold stS;rw [aJ a,eB rfl,dY ah]
  rw [e];have l:=DJ x (bp (x.count∈q));refine⟨⟨stepM x (bp (x.count∈q)),k+1,rfl,ah,rfl,rF a ah _,ah,ah,?_⟩,ah⟩;rw [<-d,show n.toNat-k=(n.toNat- (k+1))+1 by omega]
  conv=>rhs;unfold iO
  rw [eB ah]
 .rw [<-d];by_cases c:(k:Int)<n
  .rw [show n.toNat-k=(n.toNat- (k+1))+1 by omega];unfold iO;rw [dY (λz=>by rw [decide_eq_true c,decide_eq_true z.1,decide_eq_true z.2]at g;cases g)]
  .rw [show n.toNat-k=0 by omega];rfl
end Go.TX.F
namespace Go.TX.F
open Go Go.AE Go.TX List
def auD{p1 f1}(c:Y38 p1 f1)(b:List Int)(p:Int)(a:Bt b)(e:0<=p)(o:p<900000000):YV.F (p1,f1,()) (b,p,()) (λ(y:wz)=>y.1=b/\p<=y.2.1/\y.2.1<=p+10/\y.2.2.1.length<=5):=by
 obtain⟨j,m,f,s⟩:=(c 5 b p a e ah).2;dsimp only [YV,gm];simp (disch:=omega) only [RR,(c 5 b p a e ah).1,j,m,fE];refine ay (λ(y:Int×wz)=>0<=y.1/\y.1<=5/\y.2.1=b/\p<=y.2.2.1/\y.2.2.1+y.1<=p+6/\(y.2.2.2.1.length:Int)+y.1<=5) (λy=>y.1.toNat) ⟨f,by dsimp only;omega,rfl,by dsimp only;omega,by dsimp only;omega,by dsimp only [length_nil];omega⟩ ?_;rintro⟨(k:Int),(d:List Int),(q:Int),(l:List Int),⟨⟩⟩ hI;dsimp only at hI ⊢;obtain⟨n,t,rfl,k3,u,r⟩:=hI;obtain⟨h,i,_,_⟩:=(c 50 d q a ah ah).2;simp (disch:=omega) only [RR,(c 50 d q a ah ah).1,h,i,fA,fE,eG];exact⟨λg=>⟨ah,⟨ah,ah,ah,ah,ah⟩,ah⟩,λg=>⟨ah,ah,ah⟩⟩
def auE{p1 f1}(a:Y38 p1 f1)(t:Int)(b:List Int)(p:Int)(e:Bt b)(f:0<=t/\t<=1000)(d:0<=p)(c:p<900000000):Zj.F (p1,f1,()) (t,b,p,()) (λ(y:Xn)=>y.1=b/\p<=y.2.1/\y.2.1<=p+500/\y.2.2.1.length<=10):=by
 have R:=pkS e a;have P:=λn p d c=>(a n b p e d c).1
 dsimp only [Zj,gm];simp (disch:=omega) only [RR,R,P,fA,fE];exact⟨ah,ah,ah⟩
def auF{p1 f1 p2 f2}(h:Y71 p1 f1)(c:Y38 p2 f2)(t:Int)(b:List Int)(p:Int)(a:Bt b)(r:0<=t/\t<=1000)(f:0<=p)(d:p<700000000):Zi.F (p1,f1,p2,f2,()) (t,b,p,()) (λ(y:Xn)=>y.1=b/\p<=y.2.1/\y.2.1<=p+500/\y.2.2.1.length<=10):=by
 have R:=pkS a c;have P:=λn p f d=>(c n b p a f d).1
 obtain⟨_,_,i,s⟩:=(c 4 b (p+1+1) a ah ah).2;dsimp only [Zi,gm];simp (disch:=omega) only [RR,R,P,fA,fE,eG];refine ay (λ(y:Int×Int×Xn)=>0<=y.2.1/\y.2.1<=4/\y.2.2.1=b/\p<=y.2.2.2.1/\y.2.2.2.1+50*y.2.1<=p+300/\(y.2.2.2.2.1.length:Int)+y.2.1<=7) (λy=>y.2.1.toNat) ⟨i,by dsimp only;omega,rfl,by dsimp only;omega,by dsimp only;omega,by dsimp only [length_cons,length_nil];omega⟩ ?_;rintro⟨(t:Int),(k:Int),(e:List Int),(q:Int),(l:List Ins),⟨⟩⟩ hI;dsimp only at hI ⊢;obtain⟨m,x,rfl,k3,z,o⟩:=hI;obtain⟨j,u,w,v⟩:=(h e q a ah ah).2;simp (disch:=omega) only [RR,(h e q a ah ah).1,j,fA,fE,eG];refine⟨λg=>⟨λ_=>⟨ah,⟨ah,ah,ah,ah,ah⟩,ah⟩,λ_=>⟨ah,⟨ah,ah,ah,ah,ah⟩,ah⟩⟩,λg=>⟨ah,ah,ah,ah⟩⟩
structure ImD(b:List Int)(p:Int)(y:wz):Prop where
 b:y.1=b
 lo:p<=y.2.1
 hi:y.2.1<=p+8000
 len:y.2.2.1.length<=64
 w:Wos y.2.2.1
abbrev auG(b:aCg->Bool)(a:aCg->bn):Prop:=∀l,l.length<1000000->b (l,())=true/\a (l,())=(l.map fK,())
def auH{p1 f1 p2 f2 p4 f4 p5 f5 p7 f7 p8 f8 p9 f9}{G:He->Bool}{w:He->Xn}{O:He->Bool}{v:He->Xn}(N:auG p1 f1)(T:auv p2 f2)(S:∀t b p,Bt b->(0<=t/\t<=1000)->0<=p->p<700000000->G (t,b,p,())=true/\(w (t,b,p,())).1=b/\p<=(w (t,b,p,())).2.1/\(w (t,b,p,())).2.1<=p+500/\(w (t,b,p,())).2.2.1.length<=10)(U:Y71 p4 f4)(F:Y70 p5 f5)(H:∀t b p,Bt b->(0<=t/\t<=1000)->0<=p->p<900000000->O (t,b,p,())=true/\(v (t,b,p,())).1=b/\p<=(v (t,b,p,())).2.1/\(v (t,b,p,())).2.1<=p+500/\(v (t,b,p,())).2.2.1.length<=10)(X:Y39 p7 f7)(e:Y38 p8 f8)(A:Y40 p9 f9)(b:List Int)(p:Int)(a:Bt b)(Q:0<=p)(M:p<600000000):Zk.F (p1,f1,p2,f2,G,w,p4,f4,p5,f5,O,v,p7,f7,p8,f8,p9,f9,()) (b,p,()) (λy=>ImD b p y):=by
 have R:=pkS a e;have P:=λn p Q M=>(e n b p a Q M).1
 obtain⟨_,_,a3,a4⟩:=(e 5 b (p+1) a ah ah).2;dsimp only [Zk,gm];simp (disch:=omega) only [RR,R,P,fA,fE,eG];refine⟨λ_=>⟨ah,?_⟩,λ_=> ?_⟩
 all_goals refine ay (λ(y:Int×Xn)=>0<=y.1/\y.1<=5/\y.2.1=b/\p<=y.2.2.1/\y.2.2.1+550*y.1<=p+2800/\(y.2.2.2.1.length:Int)<=44) (λy=>y.1.toNat) ⟨by dsimp only;omega,by dsimp only;omega,rfl,by dsimp only;omega,by dsimp only;omega,by simp⟩ ?_
 all_goals
  rintro⟨(k:Int),(d:List Int),(q:Int),(l:List Ins),⟨⟩⟩ hI;dsimp only at hI ⊢;obtain⟨k1,k2,rfl,k3,k4,k5⟩:=hI;obtain⟨_,_,d3,d4⟩:=(e 8 d (q+1) a ah ah).2;simp (disch:=omega) only [RR,R,P,fA,fE,eG];refine⟨λg=>⟨λ_=> ?_,λ_=>⟨λ_=> ?_,λ_=> ?_⟩⟩,λg=>⟨ah,(N _ (by simp;omega)).1,?_⟩⟩
  .obtain⟨z1,z2,z3,z4⟩:=(S l.length d (q+1) a ah ah ah).2;exact⟨(S l.length d (q+1) a ah ah ah).1,ah,⟨ah,ah,z1,ah,ah,ah⟩,ah⟩
  .obtain⟨z1,z2,z3,z4⟩:=(H l.length d (q+1) a ah ah ah).2;exact⟨(H l.length d (q+1) a ah ah ah).1,ah,⟨ah,ah,z1,ah,ah,ah⟩,ah⟩
  .refine ay (λ(y:Int×Int×Xn)=>y.1=k/\0<=y.2.1/\y.2.1<=8/\y.2.2.1=d/\q<=y.2.2.2.1/\y.2.2.2.1+30*y.2.1<=q+300/\(y.2.2.2.2.1.length:Int)+y.2.1<=42) (λy=>y.2.1.toNat) ⟨rfl,by dsimp only;omega,by dsimp only;omega,rfl,by dsimp only;omega,by dsimp only;omega,by dsimp only;omega⟩ ?_;rintro⟨(k:Int),(j:Int),(c:List Int),(J:Int),(l':List Ins),⟨⟩⟩ hI;dsimp only at hI ⊢;obtain⟨rfl,W,j2,rfl,Y,z,j5⟩:=hI;obtain⟨s,I,L,_⟩:=(F c J a ah ah).2;simp (disch:=omega) only [RR,(F c J a ah ah).1,s,fA,fE,eG];exact⟨λ_=>⟨ah,⟨ah,ah,ah,ah,ah⟩,ah⟩,λ_=>⟨⟨ah,ah,ah,ah,ah⟩,ah⟩⟩
  .rw [(N _ (by simp;omega)).2];have ww:∀l:List Ins,Wos (l.map fK):=λl x B=>by obtain⟨i,_,rfl⟩:=mem_map.1 B;exact Aw i
   refine ay (λ(y:wz)=>y.1=d/\q<=y.2.1/\y.2.1<=q+40*y.2.2.1.length/\y.2.2.1.length<=48/\Wos y.2.2.1) (λy=>48-y.2.2.1.length) ⟨rfl,by dsimp only;omega,by dsimp only;omega,by simp;omega,ww _⟩ ?_;rintro⟨(c:List Int),(r:Int),(o:List Int),⟨⟩⟩ hI;dsimp only at hI ⊢;obtain⟨rfl,W,j2,Y,z⟩:=hI;obtain⟨C,e2,e3,E⟩:=(A c r a ah ah).2;obtain⟨D,⟨s,I,L,_⟩⟩:=F c (f9 (c,r,())).2.2.1 a ah ah;obtain⟨_,_,g3,g4⟩:=(e 4 c r a ah ah).2;simp (disch:=omega) only [RR,R,P,(A c r a ah ah).1,C,D,s,T,fA,fE,eG,fH];refine⟨λ_=>⟨ah,⟨ah,ah,ah,z.snoc (Wos.at (auy (auy (auy (λ_ h=>(by cases h)) (Aw _)) E) wo0) _)⟩,ah⟩,λ_=>⟨ah,ah,ah,ah,ah,ah,?_⟩⟩;refine ay (λ(y:Int×wz)=>0<=y.1/\y.1<=4/\y.2.1=c/\r<=y.2.2.1/\y.2.2.1+50*y.1<=r+300/\(y.2.2.2.1.length:Int)+y.1<=52/\Wos y.2.2.2.1) (λy=>y.1.toNat) ⟨g3,by dsimp only;omega,rfl,by dsimp only;omega,by dsimp only;omega,by simp only [length_drop,length_take];omega,λx B=>z x (mem_of_mem_take (mem_of_mem_drop B))⟩ ?_;rintro⟨(m:Int),(f:List Int),(t:Int),(u:List Int),⟨⟩⟩ hI;dsimp only at hI ⊢;obtain⟨m1,m2,rfl,m3,m4,m5,K⟩:=hI;obtain⟨s,I,L,_⟩:=(U f t a ah ah).2;obtain⟨OP,⟨o1,Z⟩⟩:=X 9 f t a ah ah;obtain⟨_,_,n3,n4⟩:=(e (u.length+2) f (t+1) a ah ah).2;obtain⟨W9,⟨C,e2,e3,E⟩⟩:=A f (t+1+1) a ah ah;simp (disch:=omega) only [RR,R,P,(U f t a ah ah).1,s,T,OP,o1,Z,W9,C,fA,fE,eG,fH];have V:Wos (u++ [fK (Co.mk .ins (14,3,0,0,())),fK (Co.mk .ins (0,0,0,1,()))]):=by
    rw [show∀x y:Int,u++ [x,y]=(u++ [x])++ [y] by simp];exact(K.snoc (Aw _)).snoc (Aw _)
   refine⟨λ_=>⟨ah,⟨ah,ah,ah,ah,ah,K.snoc (Aw _)⟩,ah⟩,λ_=>⟨ah,λ_=>⟨rfl,?_,?_,?_,V.set E _⟩,λ_=>⟨rfl,?_,?_,?_,V⟩⟩⟩
   .dsimp only;omega
   .dsimp only;omega
   .dsimp only;rw [length_set,eG,fA,fA,fE];omega
   .dsimp only;omega
   .dsimp only;omega
   .dsimp only;rw [eG,fA,fA,fE];omega
abbrev YMc:=Int×Int×Bool×Bool×Int×List Int×Int×List Int×Int×l7
abbrev mE(y:YMc):aC:=⟨y.2.2.2.2.2.2.2.2.2.1,y.1,y.2.2.2.2.2.2.2.2.2.2.1,y.2.1,y.2.2.1,y.2.2.2.1,y.2.2.2.2.1,y.2.2.2.2.2.1,y.2.2.2.2.2.2.2.2.2.2.2.1,y.2.2.2.2.2.2.1⟩
structure McD(b:List Int)(p:Int)(y:YMc):Prop where
 b:y.2.2.2.2.2.2.2.1=b
 lo:p<=y.2.2.2.2.2.2.2.2.1
 hi:y.2.2.2.2.2.2.2.2.1<=p+9500
 ok:MOK (mE y)
 i:(mE y).ins.length<=10
 o:(mE y).outs.length<=100
def azq{X:aC}(h:MOK X){r:List Int}{pc ha:Int}{l w:Bool}(c:Wo pc)(a:0<=ha/\ha<=4)(d:r.length=4)(b:Wos r):MOK ⟨r,pc,X.mem,X.save,l,w,ha,X.ins,X.outs,X.count⟩:=
 {h with r4:=d,rw:=b,pc:=c,ha:=a}
abbrev azr(b:zx->Bool)(a:zx->Int×Int×Bool×Bool×aCd):Prop:=∀w i,w.length<1000000->i.length<1000000->b (w,i,())=true/\a (w,i,())=((kQ w i).pc,(kQ w i).save,(kQ w i).aL,(kQ w i).waits,(kQ w i).halt,(kQ w i).count,(kQ w i).regs,(kQ w i).mem,(kQ w i).ins,())
abbrev azs(c:lT->Bool)(a:lT->wz):Prop:=∀b p,Bt b->0<=p->p<600000000->c (b,p,())=true/\ImD b p (a (b,p,()))
abbrev auI(c:lT->Bool)(a:lT->wz):Prop:=∀b p,Bt b->0<=p->p<900000000->c (b,p,())=true/\(a (b,p,())).1=b/\p<=(a (b,p,())).2.1/\(a (b,p,())).2.1<=p+10/\(a (b,p,())).2.2.1.length<=5
abbrev azt(c:He->Bool)(a:He->wz):Prop:=∀n b p,Bt b->(0<=n/\n<=100)->0<=p->p<800000000->c (n,b,p,())=true/\(a (n,b,p,())).1=b/\p<=(a (n,b,p,())).2.1/\(a (n,b,p,())).2.1<=p+300/\(a (n,b,p,())).2.2.1.length=n/\wOK (a (n,b,p,())).2.2.1
def auJ{p1 f1 p3 f3 p4 f4 p5 f5 p6 f6 p7 f7}{Q:aC×lT->Bool}{T:aC×lT->iK}(U1:azr p1 f1)(U2:∀m q n,MSh m->q.length<1000000000->m.outs.length<800000000->Q (m,q,n,())=true/\T (m,q,n,())=mB (lZ q n m))(U3:azs p3 f3)(U4:auI p4 f4)(K:Y39 p5 f5)(l:Y38 p6 f6)(N:azt p7 f7)(b:List Int)(p:Int)(a:Bt b)(c:0<=p)(d:p<500000000):Zo.F (p1,f1,Q,T,p3,f3,p4,f4,p5,f5,p6,f6,p7,f7,()) (b,p,()) (λy=>McD b p y):=by
 obtain⟨P3,⟨G,i2,Z,C,D⟩⟩:=U3 b p a c ah;generalize hy:f3 (b,p,())=y at G i2 Z C D;obtain⟨i,s,w,⟨⟩⟩:=y;dsimp only at G i2 Z C D;subst G;have R:=pkS a l;have P:=λn p c d=>(l n i p a c d).1
 obtain⟨_,_,a3,a4⟩:=(l 5 i s a ah ah).2;obtain⟨P7,⟨I,w2,V,w4,L⟩⟩:=N (f6 (5,i,s,())).1 i (s+1) a ah ah ah;generalize hz:f7 ((f6 (5,i,s,())).1,i,s+1,())=z at I w2 V w4 L;obtain⟨b2,q1,A,⟨⟩⟩:=z;dsimp only at I w2 V w4 L;subst I;obtain⟨W,S⟩:=U1 w A ah ah;have ok:=adq C D L;have j:(kQ w A).outs=[]:=by unfold kQ;split<;>rfl
 have ie:(kQ w A).ins.length<=10:=by unfold kQ;split;(dsimp only;omega);exact Nat.zero_le _
 generalize kQ w A=M at W S ok j ie;have mK:Co.mk .aj (M.regs,M.pc,M.mem,M.save,M.aL,M.waits,M.halt,M.ins,[],M.count,())=M:=by cases M;dsimp only at j;subst j;rfl
 obtain⟨P4,⟨g,x,k,o⟩⟩:=U4 b2 q1 a ah ah;generalize hr:f4 (b2,q1,())=r at g x k o;obtain⟨e,f,h,⟨⟩⟩:=r;dsimp only at g x k o;subst g;have ms:MSh M:=⟨by rw [ok.r4];decide,by rw [ok.m64];decide,ah,by rw [j];decide⟩;obtain⟨_,_,n3,n4⟩:=(l 40 e f a ah ah).2;obtain⟨Y,H2⟩:=U2 M h (f6 (40,e,f,())).1 ms ah (by rw [j];decide);have hX:MOK (lZ h (f6 (40,e,f,())).1 M):=by unfold lZ;rw [aJ ⟨ok,ah⟩,eB rfl];exact QI _ _ ok
 have F:(lZ h (f6 (40,e,f,())).1 M).ins.length<=10/\(lZ h (f6 (40,e,f,())).1 M).outs.length<=100:=by
  unfold lZ;rw [aJ ⟨ok,ah⟩,eB rfl];have:=ads h (f6 (40,e,f,())).1.toNat M;rw [j]at this;simp only [fE]at this;omega
 generalize lZ h (f6 (40,e,f,())).1 M=X at Y H2 hX F;obtain⟨E,⟨B,v2,U,v4,J⟩⟩:=N 4 e (f+1+1) a ah ah ah;generalize hv:f7 (4,e,f+1+1,())=v at B v2 U v4 J;obtain⟨u,q3,vs,⟨⟩⟩:=v;dsimp only at B v2 U v4 J;subst B;have O:=λn p c d=>((K n u p a c d).2).1
 have O':=λn p c d=>((K n u p a c d).2).2
 have OP:=λn p c d=>(K n u p a c d).1
 dsimp only [Zo,gm];simp (disch:=omega) only [RR,P3,hy,R,P,P7,hz,W,S,mK,P4,hr,Y,H2,E,hv,O,O',OP];have pk:∀t:Int,0<=t->t<1000000000->Wo (f6 (66,u,t,())).1:=λt c d=>by obtain⟨_,_,c3,c4⟩:=(l 66 u t a c d).2;unfold Wo;omega
 have H:vs.length=4:=by omega
 repeat' (first | (refine⟨?_,?_⟩) | intro _)
 all_goals first | omega | (refine⟨rfl,by dsimp only;omega,by dsimp only;omega,azq hX (by first | exact hX.pc | exact pk _ ah ah) (by first | exact hX.ha | exact⟨show(0:Int)<=0 by decide,show(0:Int)<=4 by decide⟩) (by first | exact hX.r4 | exact H) (by first | exact hX.rw | exact J),F.1,F.2⟩)
abbrev YMo:=Int×List Int×Int×Bool×Bool×Int×List Int×Int×List Int×Int×zx
structure MoD(b:List Int)(p:Int)(y:YMo):Prop where
 b:y.2.2.2.2.2.2.2.2.1=b
 lo:p<=y.2.2.2.2.2.2.2.2.2.1
 hi:y.2.2.2.2.2.2.2.2.2.1<=p+9600
 r:y.2.2.2.2.2.2.2.2.2.2.1.length<=10
 m:y.2.1.length<=64
 i:y.2.2.2.2.2.2.1.length<=10
 o:y.2.2.2.2.2.2.2.2.2.2.2.1.length<=110
abbrev aBn(c:lT->Bool)(a:lT->YMc):Prop:=∀b p,Bt b->0<=p->p<500000000->c (b,p,())=true/\McD b p (a (b,p,()))
def auK{p1 f1 p2 f2 p3 f3}(x:aBn p1 f1)(v:Y39 p2 f2)(k:Y38 p3 f3)(n:Int)(b:List Int)(p:Int)(a:Bt b)(c:0<=p)(f:p<400000000):Zp.F (p1,f1,p2,f2,p3,f3,()) (n,b,p,()) (λy=>MoD b p y):=by
 obtain⟨t,⟨e,g,l,d,j,m⟩⟩:=x b p a c ah;generalize u:f1 (b,p,())=y at e g l d j m;obtain⟨A,z,lt,D,B,ins,C,h,q,regs,mem,i,⟨⟩⟩:=y;have r:=d.r4;have o:=d.m64;dsimp only at e g l j m r o;subst e;have R:=pkS a k;have P:=λn p c f=>(k n h p a c f).1
 obtain⟨w,⟨O,s⟩⟩:=v n h q a ah ah;dsimp only [Zp,gm];simp (disch:=omega) only [RR,t,u,R,P,O,s,w,fA,fE];have tl:∀n:Nat,(drop (Int.toNat 1) (take n mem)).length<=64:=λn=>by rw [length_drop,length_take];omega
 repeat' (first | (refine⟨?_,?_⟩) | intro _)
 all_goals first | omega | (refine⟨rfl,by dsimp only;omega,by dsimp only;omega,?_,?_,by dsimp only;omega,?_⟩<;>first | (dsimp only;omega) | exact tl _ | (dsimp only;simp only [eG,length_set,fA,fE];omega))
def L6(c d e b f g:Int)(o:IOp)(a:List IOp)(h:a.length<1000000):Wy.F () (c,d,e,b,f,g,o,a,()) (λy=>y=(c,d,e,b,f,g,(a.length:Int),a++ [o],())):=by
 dsimp only [Wy,gm];simp (disch:=omega) only [RR,eG,fA,fE];rw [show((a.length+(0+1):Nat):Int)-1=a.length by omega];exact⟨ah,rfl⟩
abbrev ajK(i:Ns->Bool)(h:Ns->aCp):Prop:=∀(c d e b f g:Int) (o:IOp) (a:List IOp),a.length<1000000->i (c,d,e,b,f,g,o,a,())=true/\h (c,d,e,b,f,g,o,a,())=(c,d,e,b,f,g,(a.length:Int),a++ [o],())
def L8{p1 f1}(i:ajK p1 f1)(c d e b f g k:Int)(a:List IOp)(h:a.length<1000000):WA.F (p1,f1,()) (c,d,e,b,f,g,k,a,()) (λy=>y=(c,d,e,b,f,g,(a.length:Int),a++ [⟨2,0,0,k,0⟩],())):=by
 dsimp only [WA,gm];simp (disch:=omega) only [RR,i,h];rfl
def L9{p1 f1}(i:ajK p1 f1)(c d e b f g k x:Int)(a:List IOp)(h:a.length<1000000):Wz.F (p1,f1,()) (c,d,e,b,f,g,k,x,a,()) (λy=>y=(c,d,e,b,f,g,a++ [⟨8,x,0,k,0⟩],())):=by
 dsimp only [Wz,gm];simp (disch:=omega) only [RR,i,h];rfl
def n1a(l:List IOp)(o:IOp):((l++ [o]).length:Int)=l.length+1:=by rw [eG];rfl
abbrev an4(i:aCp->Bool)(h:aCp->aCp):Prop:=∀(c d e b f g k:Int) (a:List IOp),a.length<1000000->i (c,d,e,b,f,g,k,a,())=true/\h (c,d,e,b,f,g,k,a,())=(c,d,e,b,f,g,(a.length:Int),a++ [⟨2,0,0,k,0⟩],())
def Fq{p1 f1 p2 f2}(n:an4 p1 f1)(p:ajK p2 f2)(d e g c f j k a:Int)(o:IOp)(b:List IOp)(h:b.length<990000):WB.F (p1,f1,p2,f2,()) (d,e,g,c,f,j,k,a,o,b,()) (λy=>y=(d,e,g,c,f,j,(b.length:Int)+2,b++ [⟨2,0,0,a,0⟩,o,⟨3,b.length,b.length+1,k,0⟩],())):=by
 have q:∀(l:List IOp) (o:IOp),l.length<990000->(l++ [o]).length<1000000:=λl o h=>by rw [eG];simp only [fA,fE];omega
 have m:∀(l:List IOp) (o i:IOp),l.length<990000->((l++ [o])++ [i]).length<1000000:=λl o i h=>by simp only [eG,fA,fE];omega
 dsimp only [WB,gm];simp (disch:=first | omega | (apply q;omega) | (apply m;omega)) only [RR,n,p,n1a];simp;rfl
abbrev azu(j:Int×Int×Ns->Bool)(i:Int×Int×Ns->aCp):Prop:=∀(d e f c g h k a:Int) (o:IOp) (b:List IOp),b.length<990000->j (d,e,f,c,g,h,k,a,o,b,())=true/\i (d,e,f,c,g,h,k,a,o,b,())=(d,e,f,c,g,h,(b.length:Int)+2,b++ [⟨2,0,0,a,0⟩,o,⟨3,b.length,b.length+1,k,0⟩],())
abbrev azv(i:H9->Bool)(h:H9->bf):Prop:=∀(c d e b f g k x:Int) (a:List IOp),a.length<1000000->i (c,d,e,b,f,g,k,x,a,())=true/\h (c,d,e,b,f,g,k,x,a,())=(c,d,e,b,f,g,a++ [⟨8,x,0,k,0⟩],())
def Gy{p1 f1 p2 f2 p3 f3 p4 f4}(v:an4 p1 f1)(t:ajK p2 f2)(s:azu p3 f3)(u:azv p4 f4)(o p f j g m:Int)(i:Ins)(n:Int)(a:List IOp)(x:i.op=9\/i.op=10)(h:a.length<950000):WG.F (p1,f1,p2,f2,p3,f3,p4,f4,()) (o,p,f,j,g,m,i,n,a,()) (λy=>y=(o,p,f,j,g,m,a++bW n a.length i,())):=by
 have q:∀(l:List IOp) (c b d:IOp),l.length<950000->(l++ [c,b,d]).length<1000000:=λl c b d h=>by simp only [eG,fA,fE];omega
 have w:∀(l:List IOp) (c b d k:IOp),l.length<950000->((l++ [c,b,d])++ [k]).length<1000000:=λl c b d k h=>by simp only [eG,fA,fE];omega
 have r:∀(l:List IOp) (c b d:IOp),((l++ [c,b,d]).length:Int)=l.length+3:=λl c b d=>by rw [eG];rfl
 dsimp only [WG,gm];simp (disch:=first | omega | (apply q;omega) | (apply w;omega)) only [RR,IR,v,t,s,u,r];unfold bW;refine⟨λe=> ?_,λe=> ?_⟩
 .rw [dY ah,dY ah,dY ah,eB e];simp;rfl
 .rw [dY ah,dY ah,dY ah,dY ah,eB ah];simp;rfl
def Gz(k:Int)(d:0<=k)(e:k<=15):WE.F () (k,()) (λy=>y=(2^k.toNat,())):=by
 dsimp only [WE,gm];simp (disch:=omega) only [RR];refine ay (λ(y:aCf)=>y.1=k/\0<=y.2.2.1/\y.2.2.1<=k/\y.2.1=2^y.2.2.1.toNat) (λy=>(k-y.2.2.1).toNat) ⟨rfl,by simp,d,rfl⟩ ?_;rintro⟨(z:Int),(a:Int),(i:Int),⟨⟩⟩ hI;dsimp only at hI ⊢;obtain⟨rfl,c,f,rfl⟩:=hI;have b:=Kl c ah;unfold Wo at b;simp (disch:=omega) only [RR];refine⟨λg=>⟨⟨ah,ah,?_⟩,ah⟩,λg=>by rw [show i=z by omega]⟩;rw [show(i+1).toNat=i.toNat+1 by omega,Int.pow_succ];omega
def Kq{p1 f1}(a:an4 p1 f1)(B:Blk)(i:Ins)(c:11<=i.op/\i.op<=13)(h:B.ops.length<950000):WH.F (p1,f1,()) (B.pc,B.len,B.fin,B.x,B.y,B.k,i,B.ops,()) (λy=>y=bk7 (dz 0 B i)):=by
 have b:∀(l:List IOp) (o:IOp),l.length<950000->(l++ [o]).length<1000000:=λl o h=>by rw [eG];simp only [fA,fE];omega
 dsimp only [WH,gm];unfold dz bW;rcases(by omega:i.op=11\/i.op=12\/i.op=13)with e | e | e
 all_goals
  simp (disch:=first | omega | (apply b;omega)) only [RR,IR,e,a,n1a,Int.reduceEq,or_self,true_or,or_true]
  try simp
def Ma{p1 f1 p3 f3 p5 f5 p6 f6}{v:Int×Int×Int×Int×Int×Int×Ins×ql->Bool}{H:Int×Int×Int×Int×Int×Int×Ins×ql->bf}{t:F5->Bool}{I:F5->bf}{w:eu->Bool}{x:eu->eu}(R:an4 p1 f1)(G:∀(B:Blk) (i:Ins),(11<=i.op/\i.op<=13)->B.ops.length<950000->v (B.pc,B.len,B.fin,B.x,B.y,B.k,i,B.ops,())=true/\H (B.pc,B.len,B.fin,B.x,B.y,B.k,i,B.ops,())=bk7 (dz 0 B i))(N:ajK p3 f3)(Q:∀(r s b f c m:Int) (i:Ins) (n:Int) (ops:List IOp),(i.op=9\/i.op=10)->ops.length<950000->t (r,s,b,f,c,m,i,n,ops,())=true/\I (r,s,b,f,c,m,i,n,ops,())=(r,s,b,f,c,m,ops++bW n ops.length i,()))(A:azu p5 f5)(E:azv p6 f6)(J:∀k,0<=k->k<=15->w (k,())=true/\x (k,())=(2^k.toNat,()))(B:Blk)(i:Ins)(n:Int)(P:bg i)(U:i.op≠0)(h:B.ops.length<900000):WI.F (p1,f1,v,H,p3,f3,t,I,p5,f5,p6,f6,w,x,()) (B.pc,B.len,B.fin,B.x,B.y,B.k,i,n,B.ops,()) (λy=>y=bk7 (dz n B i)):=by
 have O:∀(l:List IOp) (o:IOp),l.length<950000->(l++ [o]).length<1000000:=λl o h=>by rw [eG];simp only [fA,fE];omega
 have u:∀(l:List IOp) (d D F:IOp),l.length<950000->(l++ [d,D,F]).length<1000000:=λl d D F h=>by simp only [eG,fA,fE];omega
 obtain⟨⟨V,d⟩,_,_,M,_,_,_,T,S,_⟩:=P;have j:=(λz1 z2=>(G B i z1 z2).1);have p:=(λz1 z2=>(G B i z1 z2).2);dsimp only [WI,gm];rcases(by omega:i.op=1\/i.op=2\/i.op=8\/(i.op=9\/i.op=10)\/i.op=14\/i.op=15\/(i.op=11\/i.op=12\/i.op=13)\/(3<=i.op/\i.op<=7))with e | e | e | e | e | e | e | e
 case inr.inr.inr.inl=>
  have a:dz n B i={B with ops:=B.ops++bW n B.ops.length i}:=by unfold dz;rw [dY ah,dY ah]
  rw [a];obtain⟨K,L⟩:=Q B.pc B.len B.fin B.x B.y B.k i n B.ops e ah;rcases e with e | e<;>simp (disch:=omega) only [RR,IR,e,Int.reduceEq,K,L,or_true,true_or]
 case inr.inr.inr.inr.inr.inr.inl=>
  have a:dz n B i=dz 0 B i:=by unfold dz bW;rcases e with e | e | e<;>simp [e]
  rw [a];have j:=j ah ah;have p:=p ah ah;rcases e with e | e | e<;>simp (disch:=omega) only [RR,IR,e,Int.reduceEq,j,p,or_true,true_or]
 case inr.inr.inr.inr.inr.inr.inr=>
  have C:∀z:Int,z<3\/7<z->¬i.op=z:=λz g q=>by omega
  have a:dz n B i={B with ops:=B.ops++ [⟨2,0,0,i.a,0⟩,⟨2,0,0,i.k,0⟩,⟨3,B.ops.length,B.ops.length+1,i.op-2,0⟩,⟨8,B.ops.length+2,0,i.d,0⟩]}:=by
   unfold dz bW;simp (disch:=omega) only [C,if_false,or_self]
  rw [a];simp (disch:=first | omega | (apply u;omega)) only [RR,IR,C,A,E,or_self];simp;rw [show i.op-3+1=i.op-2 by omega];rfl
 all_goals
  unfold dz bW;simp (disch:=first | omega | (apply O;omega) | (apply u;omega)) only [RR,IR,e,Int.reduceEq,R,N,A,E,J i.k M,S,n1a,or_self,true_and,and_true]
  try simp
  try rfl
def GA(a:Int):Wt.F () (a,()) (λy=>y=(inB a 11 13,())):=by
 dsimp only [Wt,gm];refine Prod.ext ?_ rfl;dsimp only;rw [Bool.eq_iff_iff,bF];simp [aiT];omega
def GD{p1 f1 p2 f2}(a:ajE p1 f1)(b:aa6 p2 f2)(i:Ins):Ww.F (p1,f1,p2,f2,()) (i,()) (λy=>y=(bp (bg i)&& !decide (i.op=0)&& !inB i.op 11 13,())):=by
 dsimp only [Ww,gm];simp (disch:=omega) only [RR,IR,a,b]
def Mc{p1 f1 p2 f2 p3 f3}{m:aCi->Bool}{t:aCi->lX}(u:ajE p1 f1)(o:aa6 p2 f2)(A:Y1 p3 f3)(r:∀i,m (i,())=true/\t (i,())=(bp (bg i)&& !decide (i.op=0)&& !inB i.op 11 13,()))(f:Int)(l:List Ins)(D:(l.length:Int)<1000000000):Wx.F (p1,f1,p2,f2,p3,f3,m,t,()) (f,l,()) (λy=>y=(bp (ni f l),())):=by
 dsimp only [Wx,gm];simp (disch:=omega) only [RR,IR,u,o,A,r,bF,jJ];refine⟨λh=> ?_,λh=> ?_⟩
 .rw [aV];intro g;have a:=g.ln;have c:=g.pc;omega
 refine ay (λ(y:List Ins×eu)=>y.1=l/\0<=y.2.1/\y.2.1<=l.length/\∀j:Nat,j<y.2.1->bg (l.getD j default)/\(l.getD j default).op≠0/\(11<=(l.getD j default).op/\(l.getD j default).op<=13->j+1=l.length)) (λy=>(l.length-y.2.1).toNat) ⟨rfl,by simp,by simp,λj k=>absurd k (by dsimp only;omega)⟩ ?_;rintro⟨(l:List Ins),(i:Int),⟨⟩⟩ hI;dsimp only at hI ⊢;obtain⟨rfl,d,C,p⟩:=hI;by_cases g:i<l.length
 .have nx:bg ((l).getD (i).toNat default)/\(((l).getD (i).toNat default)).op≠0/\(11<=(((l).getD (i).toNat default)).op/\(((l).getD (i).toNat default)).op<=13->i+1=l.length)->∀j:Nat,(j:Int)<i+1->bg (l.getD j default)/\(l.getD j default).op≠0/\(11<=(l.getD j default).op/\(l.getD j default).op<=13->j+1=l.length):=λq j k=>by
   by_cases c:(j:Int)<i
   .exact p j c
   .obtain rfl:j=i.toNat:=by omega
    exact⟨q.1,q.2.1,λz=>by have:=q.2.2 z;omega⟩
  have b:¬(bg ((l).getD (i).toNat default)/\(((l).getD (i).toNat default)).op≠0/\(11<=(((l).getD (i).toNat default)).op/\(((l).getD (i).toNat default)).op<=13->i+1=l.length))->bp (ni f l)=false:=λq=>aV λv=>q (by
   have:=v.ok i.toNat ah;exact⟨this.1,this.2.1,λz=>by have:=this.2.2 z;omega⟩)
  have E:(i< (l.length:Int)-1)↔¬(i+1=l.length):=by omega
  simp (disch:=omega) only [RR,IR,u,o,r,g];refine⟨d,Or.inr d,Or.inr d,λe=> ?_,λe=>⟨⟨ah,ah,nx ?_⟩,ah⟩⟩
  .rw [b];rintro⟨w,B,x⟩;rw [aJ w,decide_eq_false B]at e;have s:=bF.1 (show inB (((l).getD (i).toNat default)).op 11 13=true by simpa using e.1);have:=x s;rcases e.2 with(z | z) | z
   .omega
   .cases z
   .exact z s
  .have a:bg ((l).getD (i).toNat default):=Classical.byContradiction λn=>by rw [aV n]at e;simp at e
   refine⟨a,λz=> ?_,λq=> ?_⟩
   .rw [z]at e;simp [inB]at e
   .rw [aJ a,bF.2 q]at e;simp at e;omega
 .simp (disch:=omega) only [RR,g];rw [aJ ⟨ah,ah,λj k=>p j ah⟩]
abbrev azw(c:mQ->Bool)(b:mQ->lX):Prop:=∀(a:Int) (l:List Ins),(l.length:Int)<1000000000->c (a,l,())=true/\b (a,l,())=(bp (ni a l),())
theorem Fu{p1 f1}{g:F5->Bool}{k:F5->bf}(p:azw p1 f1)(o:∀(B:Blk) (i:Ins) (n:Int),bg i->i.op≠0->B.ops.length<900000->g (B.pc,B.len,B.fin,B.x,B.y,B.k,i,n,B.ops,())=true/\k (B.pc,B.len,B.fin,B.x,B.y,B.k,i,n,B.ops,())=bk7 (dz n B i))(b:Int)(l:List Ins)(m:(l.length:Int)<1000000000):WJ.F (p1,f1,g,k,()) (b,l,()) (λy=>y=bk7 (lower b l)):=by
 dsimp only [WJ,gm];simp (disch:=omega) only [RR,p b l m,aF,gK];unfold lower;refine⟨λh=>by rw [aV h,dY (by decide)];rfl,λh=> ?_⟩;rw [aJ h,eB rfl];have s:=h.ln;have u:=h.pc;refine ay (λ(y:List Ins×aCv)=>y.1=l/\0<=y.2.1/\y.2.1<=l.length/\y.2.2.2.2.2.2.2.2=bk7 (jV 0 (pV b l) (l.take y.2.1.toNat))) (λy=>(l.length-y.2.1).toNat) ⟨rfl,by simp,by simp,by rw [w64 ah ah];rfl⟩ ?_;rintro⟨(a:List Ins),(i:Int),z1,z2,z3,z4,z5,z6,q1,q2,q3,q4,q5,q6,q7,⟨⟩⟩ hI;dsimp only at hI ⊢;obtain⟨rfl,j,q,f⟩:=hI;generalize e:jV 0 (pV b a) (a.take i.toNat)=B at f;simp only [bk7,Prod.mk.injEq,and_true]at f;obtain⟨rfl,rfl,rfl,rfl,rfl,rfl,rfl⟩:=f;have r:B.ops.length<=40:=by
  have:=DF (a.take i.toNat) 0 (pV b a);rw [e]at this;have t:=length_take_le i.toNat a;have:(pV b a).ops.length=0:=rfl;omega
 by_cases c:i<a.length
 .obtain⟨o1,o2,o3⟩:=h.ok i.toNat ah;simp (disch:=omega) only [RR,c,o B (((a).getD (i).toNat default)) i o1 o2 ah];refine⟨j,⟨ah,ah,?_⟩,ah⟩;rw [<-bA (d:=default) j c rfl,uZ,e,length_take,show(0:Int)+((min i.toNat a.length:Nat):Int)=i by omega]
 .rw [take_of_length_le ah]at e;simp (disch:=omega) only [RR,c,e]
def Kr(a:Int)(l:List Ins):((lower a l).ops.length:Int)<=5000:=by
 by_cases h:ni a l
 .have:=(ku h).sz;omega
 .have e:lower a l=TG:=by unfold lower;rw [aV h,dY (by decide)]
  rw [e];decide
def QJ{a:Int}{l:List Ins}{y:bf}(h:y=bk7 (lower a l)):(y.2.2.2.2.2.2.1.length:Int)<=5000:=by rw [h];exact Kr a l
abbrev an5(c:mQ->Bool)(b:mQ->bf):Prop:=∀(a:Int) (l:List Ins),(l.length:Int)<1000000000->c (a,l,())=true/\b (a,l,())=bk7 (lower a l)
abbrev aBo(c:He->Bool)(a:He->YMo):Prop:=∀n b p,Bt b->0<=p->p<400000000->c (n,b,p,())=true/\MoD b p (a (n,b,p,()))
def ao7(x:Int)(n:Nat)(hn:n<=16)(m:Int)(hm:m=2^n-1):fF .and .i64 x m=x%2^n:=by
 have f:((2^IntKind.i64.bits:Nat):Int)=18446744073709551616:=by decide
 have p:2^n<=2^16:=Nat.pow_le_pow_right (by decide) hn;have b:0<2^n:=Nat.pow_pos (by decide);have a:(2:Nat)^16=65536:=by decide
 have c:((2:Int)^n)=((2^n:Nat):Int):=by simp
 have d:18446744073709551616=2^n*2^ (64-n):=by rw [<-Nat.pow_add,show n+(64-n)=64 by omega]
 rw [c]at hm ⊢;unfold fF;dsimp only;rw [BitVec.toNat_and,BitVec.toNat_ofInt,BitVec.toNat_ofInt,f,show(m%18446744073709551616).toNat=2^n-1 by omega,Nat.and_two_pow_sub_one_eq_mod];have l:=Nat.mod_lt (x%18446744073709551616).toNat b;rw [w64 ah ah];have e:(((x%18446744073709551616).toNat%2^n:Nat):Int)=x%18446744073709551616% ((2^n:Nat):Int):=by
  rw [Int.natCast_emod];congr 1;omega
 rw [e,Int.emod_emod_of_dvd];exact⟨((2^ (64-n):Nat):Int),by rw [<-Int.natCast_mul,<-d];rfl⟩
def aa9(x:Int)(n:Nat)(hn:n<=64)(h:0<=x):gH .shr .i64 x (n:Int)=x/2^n:=by
 show x.fdiv (2^ (min (n:Int).toNat 64))=_;rw [show(n:Int).toNat=n from rfl,Nat.min_eq_left hn,Int.fdiv_eq_ediv_of_nonneg];exact Int.le_of_lt (Int.pow_pos (by decide))
def ajL{a k:Int}(f:Wo a)(h:0<=k)(g:k<=15):gH .shl .i64 a k=a*2^k.toNat:=by
 have p:=Kl h g;obtain⟨c,e⟩:=f;obtain⟨b,d⟩:=p;have j:0<=a*2^k.toNat:=Int.mul_nonneg c b;have i:a*2^k.toNat<=65535*65535:=Int.mul_le_mul e d b (by decide);show IntKind.i64.wrap (a*2^ (min k.toNat 64))=_;rw [Nat.min_eq_left ah,w64 ah ah]
theorem azx{p1 f1 p2 f2}(f:aa6 p1 f1)(j:Y9 p2 f2)(w:Int):ahq.F (p1,f1,p2,f2,()) (w,()) (λy=>y=tkI w):=by
 dsimp only [ahq,gm];simp (disch:=omega) only [RR,f,j,zi];by_cases h:Wo w
 .obtain⟨w0,w1⟩:=id h;have e:∀x y z u:Int,Co.mk .ins (x,y,z,u,())=⟨x,y,z,u⟩:=λ_ _ _ _=>rfl
  have a:gH .shr .i64 w 12=w/4096:=aa9 w 12 (by decide) w0;have b:gH .shr .i64 w 10=w/1024:=aa9 w 10 (by decide) w0;have d:gH .shr .i64 w 8=w/256:=aa9 w 8 (by decide) w0;have i:∀x,fF .and .i64 x 3=x%4:=λx=>ao7 x 2 (by decide) 3 (by decide)
  have l:∀x,fF .and .i64 x 255=x%256:=λx=>ao7 x 8 (by decide) 255 (by decide)
  rw [aJ (show 0<=w/\w<=65535 from h)];simp only [Qk,a,b,d,i,l,e];have c:(⟨w/4096,w/1024%4,w/256%4,w%256⟩:Ins)=bU w:=rfl;unfold tkI;by_cases k:bg (bU w)
  .rw [c,aJ k,aJ ⟨h,k⟩];simp;rfl
  .rw [c,aV k,aV (λg=>k g.2)];simp
 .rw [aV (show¬(0<=w/\w<=65535)from h)];unfold tkI;rw [aV (λg=>h g.1)];simp
def azy{p1 f1}(a:aa6 p1 f1)(i:Ins):aiK.F (p1,f1,()) (i,()) (λy=>y=(fK i,())):=by
 dsimp only [aiK,gm];simp (disch:=omega) only [RR,IR,a];unfold fK Fp;refine⟨λh=>by rw [h];rfl,λh=> ?_⟩;rw [eB h];obtain⟨⟨e,k⟩,⟨c,j⟩,⟨d,f⟩,g,h⟩:=aF.1 h;have b:i.k<=255:=by omega
 simp (disch:=omega) only [w64]
def aBp{p1 f1}(b:auv p1 f1)(l:List Ins)(e:l.length<1000000):aq2.F (p1,f1,()) (l,()) (λy=>y=(l.map fK,())):=by
 dsimp only [aq2,gm];simp (disch:=omega) only [RR,fE];refine ay (λ(y:List Ins×aBS)=>y.1=l/\y.2.1=l.length/\0<=y.2.2.1/\y.2.2.1<=l.length/\y.2.2.2.1=(l.take y.2.2.1.toNat).map fK) (λy=>(l.length-y.2.2.1).toNat) ⟨rfl,rfl,by simp,by simp,by simp⟩ ?_;rintro⟨(l:List Ins),(n:Int),(i:Int),(o:List Int),⟨⟩⟩ hI;dsimp only at hI ⊢;obtain⟨rfl,rfl,c,f,rfl⟩:=hI;have g:=length_take_le' i.toNat l;simp (disch:=omega) only [RR,b,length_map,fA,fE];refine⟨λa=>⟨ah,ah,ah,⟨ah,ah,?_⟩,ah⟩,λa=>by rw [take_of_length_le ah]⟩;rw [<-bA (d:=default) c a rfl,map_append];rfl
def azz(m:aC):ain.F () (m,()) (λy=>y=(decide (m.halt=0)&&decide (m.count<1000000),())):=by
 dsimp only [ain,gm];simp (disch:=omega) only [RR,MRB]
def auL(l:List Int)(n:Int)(h:l.length<1000000000):aaB.F () (l,n,()) (λy=>0<=y.1↔n∈l):=by
 dsimp only [aaB,gm];simp (disch:=omega) only [RR];refine ay (λ(y:List Int×aCf)=>y.1=l/\y.2.1=n/\y.2.2.1=l.length/\0<=y.2.2.2.1/\y.2.2.2.1<=l.length/\n∉l.take y.2.2.2.1.toNat) (λy=>(l.length-y.2.2.2.1).toNat) ⟨rfl,rfl,rfl,by simp,by simp,by simp⟩ ?_;rintro⟨(l:List Int),(n:Int),(z:Int),(i:Int),⟨⟩⟩ hI;dsimp only at hI ⊢;obtain⟨rfl,rfl,rfl,a,c,b⟩:=hI;simp (disch:=omega) only [RR];refine⟨λg=>⟨a,g,λe=>⟨λ_=>by rw [e];exact bV a g,λ_=>a⟩,λe=>⟨⟨ah,ah,λq=> ?_⟩,ah⟩⟩,λg=>⟨λq=>absurd q (by decide),λq=> ?_⟩⟩
 .rw [show(i+1).toNat=i.toNat+1 by omega,take_succ_eq_append_getElem ah,mem_append,mem_singleton,<-getD_lt (d:=default) (show i.toNat<l.length by omega)]at q;exact q.elim b e
 .rw [take_of_length_le ah]at b;exact absurd q b
def auM{a:lT->Bool}{b:lT->eu}(c:∀l n,l.length<1000000000->a (l,n,())=true/\((0<=(b (l,n,())).1↔n∈l)))(l:List Int)(n:Int)(h:l.length<1000000000):aaC.F (a,b,()) (l,n,()) (λy=>y=(bp (n∈l),())):=by
 have H:=(c l n h).2;dsimp only [aaC,gm];simp (disch:=omega) only [RR,(c l n h).1];rw [nO,gP H]
set_option maxHeartbeats 1000000 in
theorem azA{p1 f1 p2 f2 p3 f3 p4 f4}(K:aBj p1 f1)(H:Y24 p2 f2)(G:Y59 p3 f3)(v:Y10 p4 f4)(i:Ins)(m:aC)(h:MOK m)(J:bg i)(hn:m.ins.length<1000000000)(S:m.outs.length<900000000):aiq.F (p1,f1,p2,f2,p3,f3,p4,f4,()) (i,m.pc,m.save,m.aL,m.waits,m.halt,m.ins,m.count,m.regs,m.mem,m.outs,()) (λy=>y=mB (exec m i)):=by
 obtain⟨⟨X,R⟩,⟨p,Q⟩,⟨t,Y⟩,j,P,M,V,B,L,U,_⟩:=J;have N:i.k<=255:=by omega
 have l:=h.r4;have A:=h.m64;have c:=h.ct;have T:0<=m.pc/\m.pc<=65535:=h.pc;have f:=h.rw.at i.a;have w:=h.rw.at i.d;obtain⟨n,x⟩:=HV w f;have s:inB ((m.regs).getD (i.d).toNat default) 0 65535=true:=bF.2 w;have k:inB ((m.regs).getD (i.a).toNat default) 0 65535=true:=bF.2 f;have C:0<=((m.regs).getD (i.a).toNat default)/\((m.regs).getD (i.a).toNat default)<=65535:=f;obtain⟨E,F⟩:=K m.pc m.save m.aL m.waits m.halt m.ins m.count m.regs m.mem m.outs hn;have o:(((m.regs).getD (i.a).toNat default)+i.k)%65536=adr m i:=rfl;have I:0<=adr m i:=by unfold adr;omega
 have W:∀r a b:Int,(inB a 0 65535&&inB b 0 65535&&decide (r=1/\a=b\/r=2/\a<b))=xP r a b:=λ_ _ _=>rfl
 dsimp only [aiq,gm];rcases(by omega:i.op=0\/i.op=1\/i.op=2\/(3<=i.op/\i.op<=7)\/i.op=8\/i.op=9\/i.op=10\/i.op=11\/i.op=12\/i.op=13\/i.op=14\/i.op=15)with e | e | e | e | e | e | e | e | e | e | e | e
 case inr.inr.inr.inl=>
  have D:∀z:Int,z<3\/7<z->¬i.op=z:=λz g q=>by omega
  have O:=B e;simp (disch:=omega) only [RR,IR,D,v,o,H,l,p,t,j,fH,or_self,false_and,and_false];refine⟨ah,ah,ah,λ_=>⟨ah,ah,ah,?_⟩⟩;rw [show i.op-3+1=i.op-2 by omega];exact bL (u:={m with regs:=m.regs.set i.d.toNat (wdo (i.op-2) ((m.regs).getD (i.a).toNat default) ((m.regs).getD (i.k).toNat default))}) (n9 ah) (efd e) (nxp ah)
 all_goals simp (disch:=omega) only [RR,IR,e,Int.reduceEq,Int.reduceSub,Int.reduceAdd,v,o,G,E,F,l,A,p,t,j,fH,or_self,false_and,and_false,true_or,or_true,true_and,fA,fE]
 .refine⟨ah,ah,ah,λ_=>⟨λg=> ?_,λg=>⟨λd=> ?_,λd=> ?_⟩⟩⟩
  .exact bL (u:={m with halt:=1}) (n9 ah) (by rw [ef0 e,eB g]) (nxp ah)
  .exact bL (u:={m with aL:=true}) (n9 ah) (by rw [ef0 e,dY g,eB d]) (by unfold nxt;rw [eB ⟨e,d⟩])
  .exact bL (u:={m with aL:=decide (i.k=2)}) (n9 ah) (by rw [ef0 e,dY g,dY d]) (nxp ah)
 .exact⟨ah,ah,ah,λ_=>⟨ah,bL (u:={m with regs:=m.regs.set i.d.toNat i.k}) (n9 ah) (ef1 e) (nxp ah)⟩⟩
 .exact⟨ah,ah,ah,λ_=>⟨ah,bL (u:={m with regs:=m.regs.set i.d.toNat ((m.regs).getD (i.a).toNat default)}) (n9 ah) (ef2 e) (nxp ah)⟩⟩
 .rw [ajL f j (L e)];exact⟨ah,ah,ah,λ_=>⟨ah,bL (u:={m with regs:=m.regs.set i.d.toNat (((m.regs).getD (i.a).toNat default)*2^i.k.toNat%65536)}) (n9 ah) (ef8 e) (nxp ah)⟩⟩
 .refine⟨ah,ah,ah,λg=> ?_,λg=> ?_⟩
  .exact Hz (by unfold exec;rw [eB ⟨Or.inl e,g⟩])
  .have g':¬64<=adr m i:=λq=>by simp [q]at g
   exact⟨ah,ah,ah,ah,ah,bL (u:={m with regs:=m.regs.set i.d.toNat ((m.mem).getD (adr m i).toNat default)}) (λq=>g' q.2) (ef9 e) (nxp ah)⟩
 .refine⟨ah,ah,ah,λg=> ?_,λg=> ?_⟩
  .exact Hz (by unfold exec;rw [eB ⟨Or.inr e,g⟩])
  .have g':¬64<=adr m i:=λq=>by simp [q]at g
   exact⟨ah,ah,ah,ah,ah,bL (u:={m with mem:=m.mem.set (adr m i).toNat ((m.regs).getD (i.d).toNat default)}) (λq=>g' q.2) (an0 e) (nxp ah)⟩
 .have ef:eff m i=m:=efj ah;refine⟨ah,ah,ah,λ_=>⟨ah,λg=> ?_,λg=> ?_⟩⟩
  .exact bL (u:=m) (n9 ah) ef (by unfold nxt;rw [dY ah,eB ⟨Or.inl e,by rw [e];exact n.2 g.2⟩])
  .rw [s,k]at g;exact bL (u:=m) (n9 ah) ef (by unfold nxt;rw [dY ah,dY (λq=>of_decide_eq_false g (n.1 (by have:=q.2;rw [e]at this;exact this))),dY ah])
 .have ef:eff m i=m:=efj ah;refine⟨ah,ah,ah,λ_=>⟨ah,λg=> ?_,λg=> ?_⟩⟩
  .exact bL (u:=m) (n9 ah) ef (by unfold nxt;rw [dY ah,eB ⟨Or.inr e,by rw [e];exact x.2 g.2⟩])
  .rw [s,k]at g;exact bL (u:=m) (n9 ah) ef (by unfold nxt;rw [dY ah,dY (λq=>of_decide_eq_false g (x.1 (by have:=q.2;rw [e]at this;exact this))),dY ah])
 .exact⟨ah,ah,ah,λ_=>bL (u:=m) (n9 ah) (efj ah) (by unfold nxt;rw [dY ah,dY ah,eB e];rfl)⟩
 .exact⟨ah,ah,ah,λ_=>⟨ah,ah,bL (u:={m with outs:=m.outs++ [((m.regs).getD (i.d).toNat default)]}) (n9 ah) (auj e) (nxp ah)⟩⟩
 .exact⟨ah,ah,ah,λ_=>⟨ah,bL (u:={m with regs:=m.regs.set i.d.toNat (m.ins.getD 0 default),ins:=m.ins.drop 1}) (n9 ah) (an1 e) (nxp ah)⟩⟩
set_option maxHeartbeats 1000000 in
theorem azB{p1 f1}{u:Ins×iK->Bool}{A:Ins×iK->iK}(n:aa8 p1 f1)(z:∀(i:Ins) (m:aC),MOK m->bg i->m.ins.length<1000000000->m.outs.length<900000000->u (i,m.pc,m.save,m.aL,m.waits,m.halt,m.ins,m.count,m.regs,m.mem,m.outs,())=true/\A (i,m.pc,m.save,m.aL,m.waits,m.halt,m.ins,m.count,m.regs,m.mem,m.outs,())=mB (exec m i))(b:Bool)(m:aC)(h:MOK m)(hn:m.ins.length<1000000000)(w:m.outs.length<900000000):ais.F (p1,f1,u,A,()) (b,m.pc,m.save,m.aL,m.waits,m.halt,m.ins,m.count,m.regs,m.mem,m.outs,()) (λy=>y=mB (stepM m b)):=by
 have s:=QH h b;obtain⟨B,v,_⟩:=Cm m b;have a:=λi r=>(z i (smp m b) s r (by rw [B];exact hn) (by rw [v];exact w)).1
 have d:=λi r=>(z i (smp m b) s r (by rw [B];exact hn) (by rw [v];exact w)).2
 have D:=s.m64;have x:0<=(smp m b).pc/\(smp m b).pc<=65535:=s.pc;have C:=s.mw.at (smp m b).pc;have T:(bg (bU (((smp m b).mem).getD ((smp m b).pc).toNat default))->tkI (((smp m b).mem).getD ((smp m b).pc).toNat default)=((bU (((smp m b).mem).getD ((smp m b).pc).toNat default)).op,(bU (((smp m b).mem).getD ((smp m b).pc).toNat default)).d,(bU (((smp m b).mem).getD ((smp m b).pc).toNat default)).a,(bU (((smp m b).mem).getD ((smp m b).pc).toNat default)).k,true,()))/\(¬bg (bU (((smp m b).mem).getD ((smp m b).pc).toNat default))->tkI (((smp m b).mem).getD ((smp m b).pc).toNat default)=(0,0,0,0,false,())):=
  ⟨λk=>by unfold tkI;rw [aJ ⟨C,k⟩,eB rfl],λk=>by unfold tkI;rw [aV (λq=>k q.2),dY (by decide)]⟩
 have l:∀i:Ins,Co.mk .ins (i.op,i.d,i.a,i.k,())=i:=λ_=>rfl
 have fin:∀S:aC,S=smp m b->(64<=S.pc->(S.pc,S.save,S.aL,S.waits,(4:Int),S.ins,S.count,S.regs,S.mem,S.outs,())=mB (stepM m b))/\(¬64<=S.pc->(¬bg (bU ((S.mem).getD (S.pc).toNat default))->(S.pc,S.save,S.aL,S.waits,(2:Int),S.ins,S.count,S.regs,S.mem,S.outs,())=mB (stepM m b))/\(bg (bU ((S.mem).getD (S.pc).toNat default))->exec S (bU ((S.mem).getD (S.pc).toNat default))=stepM m b)):=by
  rintro S rfl;rw [lH];refine⟨λq=>by rw [eB q],λq=>⟨λk=>by rw [dY q,aV k,eB rfl],λk=>by rw [dY q,aJ k,dY (by decide)]⟩⟩
 have F:=fin _ rfl;have f:=h.m64;dsimp only [ais,gm];have j:((64:Int)<=48)=False:=eq_false (by decide);by_cases c:(m.waits || b)=true/\m.aL=true
 .have e:smp m b={m with waits:=false,aL:=false,save:=m.pc,pc:=48}:=by unfold smp;rw [eB c]
  rw [e]at T a d F;dsimp only at T a d F;have F2:=F.2 (by decide);by_cases k:bg (bU ((m.mem).getD ((48:Int)).toNat default))
  .have t:=T.1 k;have E:=F2.2 k;simp (disch:=omega) only [RR,c.1,c.2,j,Bool.and_self,n,t,l,a _ k,d _ k,E,f,fH];exact⟨ah,ah,ah,ah⟩
  .have t:=T.2 k;have E:=F2.1 k;simp (disch:=omega) only [RR,c.1,c.2,j,Bool.and_self,n,t,l,E,f,fH];exact⟨ah,ah,ah,ah⟩
 .have e:smp m b={m with waits:=m.waits || b}:=by unfold smp;rw [dY c]
  have o:((m.waits || b)&&m.aL)=false:=by
   cases g:((m.waits || b)&&m.aL)with
   | false=>rfl
   | true=>rw [Bool.and_eq_true]at g;exact absurd g c
  rw [e]at T a d F x;dsimp only at T a d F x;by_cases p:64<=m.pc
  .have E:=F.1 p;simp (disch:=omega) only [RR,o,p,E,f,fH]
  have F2:=F.2 p;by_cases k:bg (bU ((m.mem).getD (m.pc).toNat default))
  .have t:=T.1 k;have E:=F2.2 k;simp (disch:=omega) only [RR,o,p,n,t,l,a _ k,d _ k,E,f,fH];exact⟨ah,ah,ah,ah⟩
  .have t:=T.2 k;have E:=F2.1 k;simp (disch:=omega) only [RR,o,p,n,t,l,E,f,fH];exact⟨ah,ah,ah,ah⟩
abbrev auN(b:aCa->Bool)(a:aCa->lX):Prop:=∀m,b (m,())=true/\a (m,())=(decide (m.halt=0)&&decide (m.count<1000000),())
set_option maxHeartbeats 1000000 in
theorem azC{p1 f1 p2 f2 p4 f4 p5 f5}{d:Bool×iK->Bool}{r:Bool×iK->iK}(p:aa5 p1 f1)(v:auN p2 f2)(u:∀(b:Bool) (m:aC),MOK m->m.ins.length<1000000000->m.outs.length<900000000->d (b,m.pc,m.save,m.aL,m.waits,m.halt,m.ins,m.count,m.regs,m.mem,m.outs,())=true/\r (b,m.pc,m.save,m.aL,m.waits,m.halt,m.ins,m.count,m.regs,m.mem,m.outs,())=mB (stepM m b))(A:QG p4 f4)(t:aeK p5 f5)(m:aC)(q:List Int)(n:Int)(h:MSh m)(s:q.length<1000000000)(F:m.outs.length<800000000):aiR.F (p1,f1,p2,f2,d,r,p4,f4,p5,f5,()) (m,q,n,()) (λy=>y=m10 (lZ q n m)):=by
 dsimp only [aiR,gm];simp (disch:=omega) only [RR,A m h,p m h];refine⟨λg=> ?_,λg=> ?_⟩
 .unfold lZ;rw [eH,dY]
  .rfl
  .rcases g with g | g
   .rw [g];simp
   .rw [aV (show¬n<=400 by omega)];simp
 have ok:=aF.1 g.1;have e:lZ q n m=iO q n.toNat m:=by unfold lZ;rw [aJ ⟨ok,ah⟩,eB rfl]
 rw [e];have B:n<=400:=by omega
 refine ay (λ(y:List Int×Int×Int×Int×Bool×Bool×Int×Int×iK)=>∃(x:aC) (k:Nat),y.1=q/\y.2.1=n-k/\(k=0\/k<=n)/\y.2.2.2.2.2.2.2.2=mB x/\MOK x/\x.ins.length<=m.ins.length/\x.outs.length<=m.outs.length+k/\iO q (n-k).toNat x=iO q n.toNat m) (λy=>y.2.1.toNat)
  ⟨m,0,rfl,by simp,Or.inl rfl,rfl,ok,Nat.le_refl _,Nat.le_refl _,by simp⟩ ?_
 rintro⟨(q:List Int),(i:Int),u1,u2,u3,u4,u5,u6,v1,v2,v3,v4,v5,v6,v7,v8,v9,v10,⟨⟩⟩ ⟨x,k,hI⟩;dsimp only at hI ⊢;obtain⟨rfl,rfl,D,f,a,C,E,o⟩:=hI;simp only [Prod.mk.injEq,and_true]at f;obtain⟨rfl,rfl,rfl,rfl,rfl,rfl,rfl,rfl,rfl,rfl⟩:=f;have w:MSh x:=⟨by rw [a.r4];decide,by rw [a.m64];decide,by have:=h.2.2.1;omega,ah⟩;have mK:Co.mk .aj (x.regs,x.pc,x.mem,x.save,x.aL,x.waits,x.halt,x.ins,x.outs,x.count,())=x:=rfl;simp (disch:=omega) only [RR,mK,p x w,v,t _ _ s,u _ x a (by have:=h.2.2.1;omega) ah];refine⟨λg=> ?_,λg=> ?_⟩
 .have l:=DJ x (bp (x.count∈q));have j:IntKind.i64.wrap (n-k-1)=n-k-1:=w64 ah ah;refine⟨⟨stepM x (bp (x.count∈q)),k+1,by rw [j];omega,ah,rfl,rF a ah _,ah,ah,?_⟩,by rw [j];omega⟩;rw [<-o,show(n- (k:Int)).toNat=(n- ((k+1:Nat):Int)).toNat+1 by omega]
  conv=>rhs;unfold iO
  rw [eB ah]
 .rw [<-o];by_cases c:(k:Int)<n
  .rw [show(n- (k:Int)).toNat=(n- ((k+1:Nat):Int)).toNat+1 by omega];unfold iO;rw [dY (λz=>by rw [decide_eq_true (show 0<n- (k:Int) by omega),decide_eq_true z.1,decide_eq_true z.2]at g;cases g)]
  .rw [show(n- (k:Int)).toNat=0 by omega];rfl
variable{i:Ins}{m:aC}
def TR(h:bg i):bU (fK i)=i:=by
 unfold fK;rw [aJ h,eB rfl];obtain⟨⟨g,n⟩,⟨e,m⟩,⟨f,j⟩,l,h⟩:=h;have b:i.k<=255:=by omega
 obtain⟨c,d,a,k⟩:=i;unfold bU Fp;dsimp only at*
 congr 1<;>omega
def ajM(w:¬(m.waits=true/\m.aL=true)):smp m false=m:=by
 unfold smp;rw [Bool.or_false,dY w]
def an6(a:bg i)(w:¬(m.waits=true/\m.aL=true))(b:0<=m.pc)(p:m.pc<64)(hm:((m.mem).getD (m.pc).toNat default)=fK i):stepM m false=exec m i:=by
 rw [lH,ajM w,dY ah,hm,TR a,aJ a,dY (by decide)]
def azD{q:List Int}(b:m.count∉q)(d:m.halt=0)(c:m.count<1000000)(e:bg i)(w:¬(m.waits=true/\m.aL=true))(a:0<=m.pc)(p:m.pc<64)(hm:((m.mem).getD (m.pc).toNat default)=fK i)(k:Nat):iO q (k+1) m=iO q k (exec m i):=by
 conv=>lhs;unfold iO
 rw [eB ⟨d,c⟩,aV b,an6 e w a p hm]
def ajN(h:i.op≠0):(eff m i).waits=m.waits/\(eff m i).aL=m.aL:=by
 unfold eff
 repeat' split
 all_goals first | exact⟨rfl,rfl⟩ | (exfalso;omega)
def an7{j:Int}(b:0<=j)(c:i.op≠0)(h:i.op=10->adr m i≠j):(((eff m i).mem).getD (j).toNat default)=((m.mem).getD (j).toNat default):=by
 by_cases e:i.op=10
 .rw [an0 e];have a:0<=adr m i:=by unfold adr;omega
  have:=h e;dsimp only;simp only [getD,getElem?_set_ne (show(adr m i).toNat≠j.toNat by omega)]
 .unfold eff
  repeat' split
  all_goals first | rfl | (exfalso;omega)
theorem ajO{s:aC}(h:Mid i){u v:Int}(f:0<=v)(e:v<64)(c:¬((i.op=9\/i.op=10)/\64<=adr s i)):exec (upd s u v) i=upd (eff s i) (u+1) (v+1):=by
 have a:adr (upd s u v) i=adr s i:=rfl;obtain⟨_,d,b⟩:=h;unfold exec;rw [a,dY c,adn,nxp ⟨λq=>absurd q d,b⟩];show({upd (eff s i) u v with pc:=(v+1)%65536,count:=u+1}:aC)=_;rw [show(v+1)%65536=v+1 by omega]
theorem TS{s:aC}{u v:Int}(b:(i.op=9\/i.op=10)/\64<=adr s i):exec (upd s u v) i={upd s u v with halt:=3}:=by
 have a:adr (upd s u v) i=adr s i:=rfl;unfold exec;rw [a,eB b]
def adt(q:List Int)(pc len:Int)(G:0<=pc)(D:pc+len<=64):∀(r:List Ins) (n:Int) (s:aC),(∀i∈r,Mid i)->(∀c:Int,s.count+n<=c->c<s.count+len->c∉q)->s.pc=pc->s.halt=0->¬(s.waits=true/\s.aL=true)->0<=n->n+r.length<len->s.count+len<=1000000->
  (∀t:Nat,t<r.length->((s.mem).getD (pc+n+t).toNat default)=fK (r.getD t default))->
  ((xr pc len n s r).2=true->(s.count+n<=(xr pc len n s r).1.count/\(xr pc len n s r).1.count<=s.count+n+r.length)/\∃k:Nat,1<=k/\(k:Int)=(xr pc len n s r).1.count- (s.count+n)+(if(xr pc len n s r).1.halt=3 then 1 else 0)/\iO q k (upd s (s.count+n) (pc+n))=(xr pc len n s r).1)/\
  ((xr pc len n s r).2=false->(¬((xr pc len n s r).1.waits=true/\(xr pc len n s r).1.aL=true))/\(∀j:Int,pc+n+r.length<=j->j<pc+len->(((xr pc len n s r).1.mem).getD (j).toNat default)=((s.mem).getD (j).toNat default))/\∀k:Nat,iO q (r.length+k) (upd s (s.count+n) (pc+n))=iO q k (upd (xr pc len n s r).1 (s.count+(n+r.length)) (pc+(n+r.length))))
 | [],n,s,_,_,_,_,hw,_,_,_,_=>by
  refine⟨λh=>(by cases h),λ_=>⟨hw,λj _ _=>rfl,λk=> ?_⟩⟩;show iO q (0+k) _=iO q k (upd s (s.count+(n+((0:Nat):Int))) (pc+(n+((0:Nat):Int))));rw [Nat.zero_add,show n+((0:Nat):Int)=n by omega]
 | i::r,n,s,hr,hq,hp,hh,hw,h0,hl,hc,hm=>by
  simp only [fA]at hl hm;obtain⟨z,d,B⟩:=hr i (mem_cons_self ..);have f:Mid i:=⟨z,d,B⟩;have F:(((upd s (s.count+n) (pc+n)).mem).getD ((upd s (s.count+n) (pc+n)).pc).toNat default)=fK i:=by
   have:=hm 0 ah;rw [show pc+n+((0:Nat):Int)=pc+n by omega]at this;exact this
  have l:=λk=>azD (m:=upd s (s.count+n) (pc+n)) (hq (s.count+n) (Int.le_refl _) ah) hh (show s.count+n<1000000 by omega) z hw (show 0<=pc+n by omega) (show pc+n<64 by omega) F k
  rw [ado];by_cases b:(i.op=9\/i.op=10)/\64<=adr s i
  .rw [eB b];refine⟨λ_=>⟨⟨show s.count+n<=s.count+n by omega,show s.count+n<=_ by omega⟩,1,Nat.le_refl _,?_,?_⟩,λh=>by cases h⟩
   .show(1:Int)=s.count+n- (s.count+n)+(if(3:Int)=3 then 1 else 0);rw [eB rfl];omega
   .rw [l 0,TS b];show({upd s (s.count+n) (pc+n)with halt:=3}:aC)=leave s n 3;unfold leave;rw [hp]
  rw [dY b];have E:=ajO (s:=s) f (u:=s.count+n) (v:=pc+n) ah ah b;obtain⟨a,A,k3⟩:=Kn (m:=s) d;by_cases g:i.op=10/\pc+n+1<=adr s i/\adr s i<=pc+len-1
  .rw [eB g];refine⟨λ_=>⟨⟨show _<=(eff s i).count+(n+1) by omega,show(eff s i).count+(n+1)<=_ by simp only [fA];omega⟩,1,Nat.le_refl _,?_,?_⟩,λh=>by cases h⟩
   .show(1:Int)=(eff s i).count+(n+1)- (s.count+n)+(if s.halt=3 then 1 else 0);rw [a,hh,dY (by decide)];omega
   .rw [l 0,E];show upd (eff s i) (s.count+n+1) (pc+n+1)=leave (eff s i) (n+1) s.halt;unfold leave upd;rw [a,A,hp,hh,<-k3.trans hh,show s.count+(n+1)=s.count+n+1 by omega,show pc+(n+1)=pc+n+1 by omega]
  rw [dY g];have y:∀j:Int,pc+n+1<=j->j<pc+len->(((eff s i).mem).getD (j).toNat default)=((s.mem).getD (j).toNat default):=λj o p=>an7 ah d λe q=>g ⟨e,ah,ah⟩
  obtain⟨x,C⟩:=adt q pc len G D r (n+1) (eff s i) (λj H=>hr j (mem_cons_of_mem _ H)) (λc b g=>hq c ah ah) (by rw [A,hp]) (by rw [k3,hh]) (by rw [(ajN d).1,(ajN d).2];exact hw) ah ah (by rw [a];exact hc) (λt I=>by
   rw [y _ ah ah];have:=hm (t+1) ah;rw [getD_cons_succ]at this;rw [<-this];congr 2;omega)
  rw [a,show s.count+(n+1)=s.count+n+1 by omega,show pc+(n+1)=pc+n+1 by omega]at x;refine⟨λh=> ?_,λh=> ?_⟩
  .obtain⟨⟨b1,b2⟩,k,e0,e1,e2⟩:=x h;exact⟨⟨ah,by simp only [fA];omega⟩,k+1,ah,ah,by rw [l k,E,e2]⟩
  .obtain⟨w,e1,e2⟩:=C h;refine⟨w,λj o p=>by rw [e1 j (by simp only [fA]at o;omega) p,y j (by simp only [fA]at o;omega) p],λk=> ?_⟩;have:=e2 k;rw [a,show s.count+(n+1)=s.count+n+1 by omega,show pc+(n+1)=pc+n+1 by omega]at this;rw [fA,show r.length+1+k=(r.length+k)+1 by omega,l,E,this]
   congr 2<;>omega
end Go.TX.F
namespace Go.TX.F
open Go Go.AE Go.TX List
def aBq{r s:List Ins}{t:Nat}(h:t<r.length):(r++s).getD t default=r.getD t default:=by
 rw [getD_eq_getElem?_getD,getElem?_append_left h,<-getD_eq_getElem?_getD]
def aBr{r:List Ins}{i:Ins}:(r++ [i]).getD r.length default=i:=by
 rw [getD_eq_getElem?_getD,getElem?_append_right (Nat.le_refl _),Nat.sub_self];rfl
theorem aeL{q:List Int}{pc:Int}{l:List Ins}{m:aC}(h:ni pc l)(hm:MOK m)(f:m.halt=0)(p:m.pc=pc)(w:¬(m.waits=true/\m.aL=true))(x:∀c:Int,m.count<=c->c<m.count+l.length->c∉q)(I:m.count<=1000000-l.length)(mem:∀t:Nat,t<l.length->((m.mem).getD (pc+t).toNat default)=fK (l.getD t default)):
  (eZ (lower pc l) m).2=true/\(0<=(eZ (lower pc l) m).1.count/\(eZ (lower pc l) m).1.count<=1000000)/\∃k:Nat,1<=k/\(k:Int)=(eZ (lower pc l) m).1.count-m.count+(if(eZ (lower pc l) m).1.halt=3 then 1 else 0)/\k<=l.length/\iO q k m=(eZ (lower pc l) m).1:=by
 obtain⟨r,i,rfl,s,C,v⟩:=Oe h;have Q:=h.ln;have R:=h.pc;have X:=hm.ct;simp only [eG,fA,fE]at Q R mem x I ⊢;have O:((m.mem).getD (pc+r.length).toNat default)=fK i:=by
  have:=mem r.length ah
  rwa [aBr]at this
 obtain⟨F,B⟩:=adt q pc (r.length+1) ah ah r 0 m s (λc d V=>x c ah ah) p f w ah ah ah (λt H=>by
  have:=mem t ah;rw [aBq H]at this;rw [<-this,Int.add_zero])
 have L:upd m (m.count+0) (pc+0)=m:=by rw [Int.add_zero,Int.add_zero,<-p]
 rw [L]at F B;rw [anZ h s C v hm f p ah];by_cases c:(xr pc (r.length+1) 0 m r).2=true
 .rw [eB c];obtain⟨⟨U,W⟩,k,G,e,n⟩:=F c;exact⟨rfl,⟨by dsimp only;omega,by dsimp only;omega⟩,k,G,by dsimp only;rw [e,Int.add_zero],by split at e<;>omega,n⟩
 have z:(xr pc (r.length+1) 0 m r).2=false:=by simpa using c
 rw [dY c];obtain⟨y,e,n⟩:=B z;obtain⟨u,D,k3,S⟩:=adp (pc:=pc) (len:=r.length+1) r 0 m (λj E=>⟨(s j E).1,(s j E).2.1⟩) hm z;have A:=(e (pc+r.length) ah ah).trans O;have b:=n 1;generalize (xr pc (r.length+1) 0 m r).1=T at y e n u D k3 S A b;rw [show m.count+(0+(r.length:Int))=m.count+r.length by omega,show pc+(0+(r.length:Int))=pc+r.length by omega]at b;have M:=azD (m:=upd T (m.count+r.length) (pc+r.length)) (x (m.count+r.length) ah ah) (show T.halt=0 by rw [k3,f]) (show m.count+r.length<1000000 by omega) C y (show 0<=pc+(r.length:Int) by omega) (show pc+(r.length:Int)<64 by omega) A 0;rw [M]at b;obtain⟨J,Y,K⟩:=Kn (m:=T) v;rw [at7];by_cases d:(i.op=9\/i.op=10)/\64<=adr T i
 .rw [eB d,eB rfl];refine⟨rfl,⟨show 0<=T.count+_ by omega,show T.count+_<=_ by omega⟩,r.length+1,ah,?_,ah,?_⟩
  .show((r.length+1:Nat):Int)=T.count+r.length-m.count+(if(3:Int)=3 then 1 else 0);rw [eB rfl];omega
  .rw [b,TS d];show({upd T (m.count+r.length) (pc+r.length)with halt:=3}:aC)=leave T r.length 3;unfold leave;rw [u,D,p]
 rw [dY d,dY (show¬(i.op=10/\pc+(r.length:Int)+1<=adr T i/\adr T i<=pc+((r.length:Int)+1)-1) by omega),dY (show¬((eff T i,false):aC×Bool).2=true by intro h;cases h)];have P:((eff T i).halt=3)=False:=by rw [K,k3,f];exact eq_false (by decide)
 refine⟨rfl,⟨show 0<=(eff T i).count+_ by omega,show(eff T i).count+_<=_ by omega⟩,r.length+1,ah,?_,ah,?_⟩
 .show((r.length+1:Nat):Int)=(eff T i).count+(r.length+1)-m.count+(if(eff T i).halt=3 then 1 else 0);rw [dY (by rw [P];exact id)];omega
 .rw [b];have a:adr (upd T (m.count+r.length) (pc+r.length)) i=adr T i:=rfl;unfold exec;rw [a,dY d,adn];show({eff T i with pc:=nxt (upd T (m.count+r.length) (pc+r.length)) i,count:=m.count+r.length+1}:aC)={eff T i with count:=(eff T i).count+(r.length+1),pc:=epc pc (r.length+1) T i};have N:nxt (upd T (m.count+r.length) (pc+r.length)) i=epc pc (r.length+1) T i:=by
   unfold nxt epc;rw [dY (λq=>v q.1)];show(if(i.op=11\/i.op=12)/\xP (i.op-10) ((T.regs).getD (i.d).toNat default) ((T.regs).getD (i.a).toNat default)=true then i.k else if i.op=13 then((T.regs).getD (i.a).toNat default)else(pc+r.length+1)%65536)=_;rw [show(pc+(r.length:Int)+1)%65536=pc+(r.length+1) by omega];by_cases o:i.op=11\/i.op=12
   .rw [eB o];by_cases g:xP (i.op-10) ((T.regs).getD (i.d).toNat default) ((T.regs).getD (i.a).toNat default)=true
    .rw [eB ⟨o,g⟩,eB g]
    .rw [dY (λq=>g q.2),dY g,dY ah]
   .rw [dY (λq=>o q.1),dY o]
  rw [N,J,u,show m.count+(r.length:Int)+1=m.count+(r.length+1) by omega]
abbrev azE(b:aC×lT->Bool)(a:aC×lT->aBW):Prop:=∀m q n,MSh m->q.length<1000000000->m.outs.length<800000000->b (m,q,n,())=true/\a (m,q,n,())=m10 (lZ q n m)
structure PS where
 m:aC
 L:List Int
 I:List Int
 left:Bool
def wE(x:aC)(a:List (List au))(v:List Int)(pc n h:Int):aC:={x with regs:=a.map (evF v),pc:=pc,count:=x.count+n,halt:=h}
section
variable (T:List Atom) (r0:List Int) (pc len:Int)
def pv(s:PS):List Int:=tv r0 s.L s.I T
def oQ(s:PS)(e:Ev):PS:=
 if s.left=true then s
 else if e.kind=7 then {s with m:={s.m with outs:=s.m.outs++ [evF (pv T r0 s) e.x]}}
 else if e.kind=6 then {s with m:={s.m with ins:=s.m.ins.drop 1},I:=s.I++ [s.m.ins.getD 0 default]}
 else if 64<=evF (pv T r0 s) e.x then⟨wE s.m e.regs (pv T r0 s) (pc+e.at_) e.at_ 3,s.L,s.I,true⟩
 else if e.kind=4 then {s with L:=s.L++ [((s.m.mem).getD (evF (pv T r0 s) e.x).toNat default)]}
 else if pc+e.at_<evF (pv T r0 s) e.x/\evF (pv T r0 s) e.x<pc+len then⟨wE {s.m with mem:=s.m.mem.set (evF (pv T r0 s) e.x).toNat (evF (pv T r0 s) e.y)} e.regs (pv T r0 s) (pc+e.at_+1) (e.at_+1) 0,s.L,s.I,true⟩
 else {s with m:={s.m with mem:=s.m.mem.set (evF (pv T r0 s) e.x).toNat (evF (pv T r0 s) e.y)}}
def QK(S:Sym)(p q:Int):Int:=if S.fin=2 then p else if S.fin=1\/S.fin=3/\p=q\/S.fin=4/\p<q then S.k else pc+len
def adu(S:Sym)(s:PS):aC:=if s.left=true then s.m else wE s.m S.regs (pv T r0 s) (QK pc len S (evF (pv T r0 s) S.x) (evF (pv T r0 s) S.y)) len 0
def ajP(S:Sym)(m:aC):aC:=adu T m.regs pc len S (S.events.foldl (oQ T m.regs pc len) ⟨m,[],[],false⟩)
theorem adw:∀(E:List Ev) (s:PS),s.left=true->E.foldl (oQ T r0 pc len) s=s
 | [],_,_=>rfl
 | e::E,s,h=>by
  have:oQ T r0 pc len s e=s:=by unfold oQ;rw [eB h]
  rw [foldl_cons,this];exact adw E s h
end
theorem QL{α β:Type}[Inhabited α][Inhabited β]{f:α->β}(h:f default=default)(l:List α)(i:Int):(l.map f).getD i.toNat default=f (l.getD i.toNat default):=by
 rw [getD_eq_getElem?_getD,getElem?_map,getD_eq_getElem?_getD];cases l[i.toNat]? with
 | none=>exact h.symm
 | some x=>rfl
theorem auO{regs a ins:List Int}{t:List Atom}{k:Int}(d:0<=k)(f:k<t.length):iq (tv regs a ins t) k=aVal regs a ins (tv regs a ins (t.take k.toNat)) ((t).getD (k).toNat default):=by
 have e:t=(t.take k.toNat++ [((t).getD (k).toNat default)])++t.drop (k.toNat+1):=by
  rw [append_assoc,singleton_append,getD_lt (show k.toNat<t.length by omega),<-drop_eq_getElem_cons,take_append_drop]
 have b:(t.take k.toNat).length=k.toNat:=by rw [length_take];omega
 obtain⟨c,hc⟩:=Fb regs a ins (t.drop (k.toNat+1)) (t.take k.toNat++ [((t).getD (k).toNat default)]);rw [<-e,Qt]at hc;have lv:=aja regs a ins (t.take k.toNat);rw [hc,za d (by rw [eG,lv,b];simp only [fA,fE];omega)];unfold iq;rw [eB (by rw [eG,lv,b];simp only [fA,fE];omega),getD_lt (by rw [eG,lv,b];simp only [fA,fE];omega),getElem_append_right ah];simp only [lv,b,Nat.sub_self,getElem_cons_zero]
theorem abb{b L I:List Int}(f:wOK b)(j:wOK L)(i:wOK I){t T:List Atom}{a:Atom}(g:aI T)(h:0<=(aU t a).2)(c:(aU t a).1<+:T)(hk:a.kind=1\/a.kind=2\/a.kind=3):
  evF (tv b L I T) (fJ (aU t a).2)=if a.kind=1 then iq b a.k else if a.kind=2 then iq L a.k else iq I a.k:=by
 obtain⟨k,d⟩:=tq h;have m:=oZ c;have l:=g.2;rw [ac4 _ ⟨h,ah⟩ (ao3 f j i _),auO h ah,Ke c ah,d];unfold aVal;rcases hk with e | e | e<;>simp [e]
theorem an8{l:List Int}{k:Int}(a:0<=k)(h:k<l.length):iq l k=((l).getD (k).toNat default):=by unfold iq;rw [eB h]
theorem TT{l L:List Int}{x k:Int}(hk:(l.length:Int)=k)(h:l++ [x]<+:L):iq L k=x:=by
 obtain⟨c,rfl⟩:=h;unfold iq;rw [eB (by simp only [eG,fA,fE];omega),append_assoc,getD_eq_getElem?_getD,getElem?_append_right ah,show k.toNat-l.length=0 by omega];rfl
structure PJ(T:List Atom)(r0:List Int)(M:MS)(S:SS)(P:PS):Prop where
 lf:P.left=false
 m:P.m={M.m with regs:=r0}
 ld:(P.L.length:Int)=S.ld
 inn:(P.I.length:Int)=S.inn
 wl:wOK P.L
 wi:wOK P.I
 v:∀L I,P.L<+:L->P.I<+:I->wOK L->wOK I->S.vals.map (evF (tv r0 L I T))=M.vals
 r:∀L I,P.L<+:L->P.I<+:I->wOK L->wOK I->S.regs.map (evF (tv r0 L I T))=M.m.regs
structure MJ(b:Blk)(i:Nat)(M:MS):Prop where
 lf:M.left=false
 ln:M.vals.length=i
 wv:Wos M.vals
 ok:MOK M.m
 pc:M.m.pc=b.pc
 ha:M.m.halt=0
theorem PJ.x{T:List Atom}{a:List Int}{M:MS}{S:SS}{P:PS}(h:PJ T a M S P){L I:List Int}(c:P.L<+:L)(h2:P.I<+:I)(d:wOK L)(b:wOK I)(o:IOp):evF (tv a L I T) (xOf S o)=vx M o/\evF (tv a L I T) (yOf S o)=vy M o:=by
 have e:=h.v L I c h2 d b;unfold xOf yOf vx vy;rw [<-e];constructor
 .split
  .exact(QL (f:=evF (tv a L I T)) rfl S.vals o.x).symm
  .rfl
 .split
  .exact(QL (f:=evF (tv a L I T)) rfl S.vals o.y).symm
  .rfl
theorem HZ{s:MS}(o:IOp):(mM s o).pc=s.m.pc/\(mM s o).halt=s.m.halt/\(mM s o).count=s.m.count:=by
 unfold mM
 repeat' split
 all_goals exact⟨rfl,rfl,rfl⟩
theorem auP{T:List Atom}{l:List Int}{b:Blk}{n:Int}{i:Nat}{M:MS}{S:SS}{P:PS}{o:IOp}{t:Int}(N:wOK l)(C:aI T)(J:T≠ [])(h:PJ T l M S P)(y:SI n i S)(hm:MJ b i M)(hk:1<=o.kind/\o.kind<=8)(U:o.kind=1->0<=o.k/\o.k<=65535)(k3:o.kind=3->1<=o.k/\o.k<=5)(hn:n+i<200)(hi:i<200)(Z:(stp S o).t<+:T)(hl:t=b.len):
  (∃a,(stp S o).evs=S.evs++(if evO o then [⟨o.kind,o.at_,xOf S o,yOf S o,if o.kind=4\/o.kind=5 then S.regs else []⟩]else [])/\(if evO o then [(⟨o.kind,o.at_,xOf S o,yOf S o,if o.kind=4\/o.kind=5 then S.regs else []⟩:Ev)]else []).foldl (oQ T l b.pc t) P=a/\
   ((PJ T l (aK b M o) (stp S o) a/\MJ b (i+1) (aK b M o))\/((aK b M o).left=true/\a.left=true/\a.m=(aK b M o).m))):=by
 subst hl;refine⟨_,?_,rfl,?_⟩
 .show nE S o=_;unfold nE;split<;>simp
 obtain⟨a1,R⟩:=Ch y k3 hn hi;obtain⟨ex,ey⟩:=h.x (prefix_refl P.L) (prefix_refl P.I) h.wl h.wi o;have X:=h.r P.L P.I (prefix_refl P.L) (prefix_refl P.I) h.wl h.wi;have Y:(P.m.mem=M.m.mem)/\P.m.ins=M.m.ins/\P.m.outs=M.m.outs/\P.m.count=M.m.count:=by rw [h.m];exact⟨rfl,rfl,rfl,rfl⟩
 have B:∀a:PS,¬((o.kind=4\/o.kind=5)/\64<=vx M o)->¬(o.kind=5/\b.pc+o.at_+1<=vx M o/\vx M o<=b.pc+b.len-1)->a.left=false->a.m={mM M o with regs:=l}->
   a.L=(if o.kind=4 then P.L++ [((M.m.mem).getD (vx M o).toNat default)]else P.L)->a.I=(if o.kind=6 then P.I++ [M.m.ins.getD 0 default]else P.I)->PJ T l (aK b M o) (stp S o) a/\MJ b (i+1) (aK b M o):=by
  intro a w G q1 q2 D H;have e:aK b M o=⟨mM M o,M.vals++ [mV M o],false⟩:=by unfold aK;rw [dY (by rw [hm.lf];decide),dY w,dY G]
  have mk:=HZ (s:=M) o;rw [e];have x:P.L<+:a.L:=by rw [D];split;exact prefix_append _ _;exact prefix_refl _
  have v:P.I<+:a.I:=by rw [H];split;exact prefix_append _ _;exact prefix_refl _
  have V:∀L I,a.L<+:L->a.I<+:I->wOK L->wOK I->evF (tv l L I T) (nV S o)=mV M o:=by
   intro L I m k j g;obtain⟨O,fy⟩:=h.x (x.trans m) (v.trans k) j g o;have F:=h.r L I (x.trans m) (v.trans k) j g;unfold nV mV;by_cases A:o.kind=1
   .rw [eB A,eB A];exact Dv _ (U A)
   rw [dY A,dY A];by_cases E:o.kind=2
   .rw [eB E,eB E,<-F];exact(QL (f:=evF (tv l L I T)) rfl S.regs o.k).symm
   rw [dY E,dY E];by_cases u:o.kind=3
   .rw [eB u,eB u];have d:=R.d u;have tp:(tDo S.t o.k (xOf S o) (yOf S o)).1<+:T:=by
     have:(stp S o).t=(tDo S.t o.k (xOf S o) (yOf S o)).1:=by show nT S o=_;unfold nT;rw [eB u]
     rwa [this]at Z
    have on:=aaY C d.ok tp;have lp:=oZ tp;have lq:=oZ d.pre;have dd:=ayo N j g C (k3 u) (y.x o).1 (y.y o).1 (qO (y.x o).2 ah) (qO (y.y o).2 ah) (by rw [on];exact J);rw [on]at dd;rw [dd.2.2.2,O,fy]
   rw [dY u,dY u];by_cases q:o.kind=4\/o.kind=6
   .rw [eB q];have tp:(aU S.t (aOf S o)).1<+:T:=by
     have:(stp S o).t=(aU S.t (aOf S o)).1:=by show nT S o=_;unfold nT;rw [dY u,eB q]
     rwa [this]at Z
    rcases q with r | p
    .have ea:aOf S o=⟨2,S.ld,[],[]⟩:=by unfold aOf;rw [eB r]
     rw [abb N j g C (R.p (Or.inl r)) tp (by rw [ea];exact Or.inr (Or.inl rfl)),ea,eB r];show iq L S.ld=_;rw [D,eB r]at m;exact TT h.ld m
    .have ea:aOf S o=⟨3,S.inn,[],[]⟩:=by unfold aOf;rw [dY ah]
     rw [abb N j g C (R.p (Or.inr p)) tp (by rw [ea];exact Or.inr (Or.inr rfl)),ea,dY (show¬o.kind=4 by omega),eB p];show iq I S.inn=_;rw [H,eB p]at k;exact TT h.inn k
   .rw [dY q,dY ah,dY ah];rfl
  refine⟨⟨q1,q2,?_,?_,?_,?_,λL I m k j g=> ?_,λL I m k j g=> ?_⟩,⟨rfl,by rw [eG,hm.ln];rfl,hm.wv.snoc (ajB hm.wv hm.ok U),ajC hm.wv hm.ok o,by rw [<-hm.pc];exact mk.1,by rw [<-hm.ha];exact mk.2.1⟩⟩
  .rw [D];show _=(if o.kind=4 then S.ld+1 else S.ld);split
   .rw [eG,fA,fE];have:=h.ld;omega
   .exact h.ld
  .rw [H];show _=(if o.kind=6 then S.inn+1 else S.inn);split
   .rw [eG,fA,fE];have:=h.inn;omega
   .exact h.inn
  .rw [D];split
   .exact h.wl.snoc (hm.ok.mw.at _)
   .exact h.wl
  .rw [H];split
   .exact h.wi.snoc hm.ok.iw.hd
   .exact h.wi
  .show(S.vals++ [nV S o]).map _=M.vals++ [mV M o];rw [map_append,h.v L I (x.trans m) (v.trans k) j g,map_cons,map_nil,V L I m k j g]
  .show(nR S o).map _=(mM M o).regs;have F:=h.r L I (x.trans m) (v.trans k) j g;obtain⟨O,_⟩:=h.x (x.trans m) (v.trans k) j g o;unfold nR mM;by_cases Q:o.kind=8
   .rw [eB Q,dY ah,dY ah,dY ah,eB Q,map_set,F,O]
   .rw [dY Q,F]
    repeat' split
    all_goals first | rfl | (exfalso;omega)
 by_cases c:evO o
 .rw [eB c,foldl_cons,foldl_nil];unfold oQ pv;rw [dY (by rw [h.lf];decide)];dsimp only;rw [ex,ey];by_cases K:o.kind=7
  .rw [eB K];refine Or.inl (B _ ah ah h.lf ?_ (by rw [dY ah]) (by rw [dY ah]));show({P.m with outs:=P.m.outs++ [vx M o]}:aC)=_;unfold mM;rw [dY ah,dY ah,eB K,h.m]
  rw [dY K];by_cases p:o.kind=6
  .rw [eB p];refine Or.inl (B _ ah ah h.lf ?_ (by rw [dY ah]) (by rw [eB p,Y.2.1]));show({P.m with ins:=P.m.ins.drop 1}:aC)=_;unfold mM;rw [dY ah,eB p,h.m]
  rw [dY p];have z:o.kind=4\/o.kind=5:=by have:=c.1;have:=c.2;omega
  rw [eB z];by_cases w:64<=vx M o
  .rw [eB w];have e:aK b M o=⟨leave M.m o.at_ 3,M.vals,true⟩:=by unfold aK;rw [dY (by rw [hm.lf];decide),eB ⟨z,w⟩]
   refine Or.inr ⟨by rw [e],rfl,?_⟩;rw [e];show wE P.m S.regs (tv l P.L P.I T) (b.pc+o.at_) o.at_ 3=leave M.m o.at_ 3;unfold wE leave;rw [X,h.m,hm.pc]
  rw [dY w];by_cases r:o.kind=4
  .rw [eB r];refine Or.inl (B _ ah ah h.lf ?_ (by rw [eB r,Y.1]) (by rw [dY ah]));show P.m=_;unfold mM;rw [dY ah,dY ah,dY ah,dY ah,h.m]
  rw [dY r];have W:o.kind=5:=by omega
  have m5:mM M o={M.m with mem:=M.m.mem.set (vx M o).toNat (vy M o)}:=by unfold mM;rw [eB W]
  by_cases G:b.pc+o.at_<vx M o/\vx M o<b.pc+b.len
  .rw [eB G];have e:aK b M o=⟨leave (mM M o) (o.at_+1) (mM M o).halt,M.vals,true⟩:=by unfold aK;rw [dY (by rw [hm.lf];decide),dY ah,eB ⟨W,ah,ah⟩]
   refine Or.inr ⟨by rw [e],rfl,?_⟩;rw [e];show wE {P.m with mem:=P.m.mem.set (vx M o).toNat (vy M o)} S.regs (tv l P.L P.I T) (b.pc+o.at_+1) (o.at_+1) 0=leave (mM M o) (o.at_+1) (mM M o).halt;unfold wE leave;rw [X,h.m,m5];dsimp only;rw [hm.pc,hm.ha,show b.pc+(o.at_+1)=b.pc+o.at_+1 by omega]
  .rw [dY G];refine Or.inl (B _ ah ah h.lf ?_ (by rw [dY r]) (by rw [dY p]));show({P.m with mem:=P.m.mem.set (vx M o).toNat (vy M o)}:aC)=_;rw [m5,h.m]
 .rw [dY c,foldl_nil];refine Or.inl (B _ ah ah h.lf ?_ (by rw [dY ah]) (by rw [dY ah]));rw [h.m];unfold mM;rw [dY ah,dY ah,dY ah];split<;>rfl
end Go.TX.F
namespace Go.TX.F
open Go Go.AE Go.TX List
def adx:∀(a:List IOp) (s:SS),∃E,(a.foldl stp s).evs=s.evs++E
 | [],s=>⟨[],by simp⟩
 | o::r,s=>by
  obtain⟨E,h⟩:=adx r (stp s o);rw [foldl_cons,h];have:∃F,(stp s o).evs=s.evs++F:=by
   show∃F,nE s o=_;unfold nE;split
   .exact⟨_,rfl⟩
   .exact⟨[],by simp⟩
  obtain⟨F,e⟩:=this;exact⟨F++E,by rw [e,append_assoc]⟩
def ady{T:List Atom}{c:List Int}{b:Blk}{n:Int}(k:wOK c)(j:aI T)(e:T≠ [])(d:PS):∀(a:List IOp) (i:Nat) (M:MS) (S:SS) (P:PS),PJ T c M S P->SI n i S->MJ b i M->
  (∀o∈a,(1<=o.kind/\o.kind<=8)/\(o.kind=1->0<=o.k/\o.k<=65535)/\(o.kind=3->1<=o.k/\o.k<=5))->n+i+a.length<=200->i+a.length<=200->(a.foldl stp S).t<+:T->S.evs.foldl (oQ T c b.pc b.len) d=P->
  (PJ T c (a.foldl (aK b) M) (a.foldl stp S) ((a.foldl stp S).evs.foldl (oQ T c b.pc b.len) d)/\MJ b (i+a.length) (a.foldl (aK b) M))\/
  ((a.foldl (aK b) M).left=true/\((a.foldl stp S).evs.foldl (oQ T c b.pc b.len) d).left=true/\((a.foldl stp S).evs.foldl (oQ T c b.pc b.len) d).m=(a.foldl (aK b) M).m)
 | [],i,M,S,P,h,hs,hm,_,_,_,_,hP=>by
  subst hP;exact Or.inl ⟨h,hm⟩
 | o::r,i,M,S,P,h,hs,hm,hk,h1,h2,hp,hP=>by
  rw [fA]at h1 h2;rw [foldl_cons]at hp;obtain⟨t,s,k3⟩:=hk o mem_cons_self;obtain⟨l,A⟩:=Ch hs k3 ah ah;have w:=(wh r (i+1) (stp S o) l (λo g=>(hk o (mem_cons_of_mem _ g)).2.2) ah ah).2;obtain⟨q,y,u,H⟩:=auP k j e h hs hm t s k3 ah ah (w.trans hp) rfl;have f:(stp S o).evs.foldl (oQ T c b.pc b.len) d=q:=by rw [y,foldl_append,hP,u]
  simp only [foldl_cons];rcases H with⟨z,x⟩ | ⟨m,p,v⟩
  .have:=ady k j e d r (i+1) _ _ q z l x (λo g=>hk o (mem_cons_of_mem _ g)) ah ah hp f;rw [fA,show i+(r.length+1)=i+1+r.length by omega];exact this
  .obtain⟨E,eE⟩:=adx r (stp S o);refine Or.inr ?_;rw [Hy b m r,eE,foldl_append,f,adw _ _ _ _ _ _ p];exact⟨m,p,v⟩
def ao8{t T:List Atom}{a L I:List Int}(b:wOK a)(g:wOK L)(f:wOK I)(h:aI t)(c:t.length<=196)(d:aI T)(i:a.length=4):∀n:Nat,n<=4->(rN t n).1<+:T->(rN t n).2.map (evF (tv a L I T))=a.take n
 | 0,_,_=>rfl
 | n+1,hn,hp=>by
  have k:=uX (rN t n).1 ⟨1,n,[],[]⟩;have j:=ao8 b g f h c d i n ah (k.trans hp);show((rN t n).2++ [fJ (aU (rN t n).1 ⟨1,n,[],[]⟩).2]).map _=_;have e:=abb (L:=L) (I:=I) b g f d (Ci h c (n:=n) ah) hp (Or.inl rfl);rw [eB rfl]at e;rw [map_append,j,map_cons,map_nil,e,take_succ_eq_append_getElem ah];show a.take n++ [iq a (n:Int)]=_;rw [an8 ah ah,getD_lt ah];rfl
def abd{v:List Int}{z:List au}(g:(bP z).2=true):evF v z=(bP z).1:=by
 obtain⟨_,e,b,a⟩:=oO g
 conv=>lhs;rw [e]
 exact Dv v ⟨b,a⟩
def auQ(pc len:Int)(v:List Int){S:Sym}(h:aW S.x/\aW S.y):QK pc len (symEnd S (pc+len)) (evF v (symEnd S (pc+len)).x) (evF v (symEnd S (pc+len)).y)=QK pc len S (evF v S.x) (evF v S.y):=by
 unfold symEnd;rw [dY (by rw [aJ h];simp)];split
 .rename_i c;unfold QK;dsimp only;rw [dY (by decide),eB (Or.inl rfl),eB c.1,abd c.2]
 split
 .rfl
 split
 .rename_i c1 c2 c;have b:S.fin=3\/S.fin=4:=by omega
  unfold QK;dsimp only;rw [dY (by decide),eB (Or.inl rfl),dY (show¬S.fin=2 by omega)];have a:(S.x=S.y/\S.fin=3\/((bP S.x).2=true/\(bP S.y).2=true)/\(S.fin=3/\(bP S.x).1=(bP S.y).1\/S.fin=4/\(bP S.x).1< (bP S.y).1))↔(S.fin=1\/S.fin=3/\evF v S.x=evF v S.y\/S.fin=4/\evF v S.x<evF v S.y):=by
   by_cases e:S.x=S.y
   .rw [e];constructor
    .rintro(⟨_,q⟩ | ⟨_,⟨q,_⟩ | ⟨_,q⟩⟩)
     .exact Or.inr (Or.inl ⟨q,rfl⟩)
     .exact Or.inr (Or.inl ⟨q,rfl⟩)
     .omega
    .rintro(q | ⟨q,_⟩ | ⟨_,q⟩)
     .omega
     .exact Or.inl ⟨rfl,q⟩
     .omega
   .obtain⟨n1,n2⟩:=c.resolve_left e;rw [abd n1,abd n2];constructor
    .rintro(⟨q,_⟩ | ⟨_,q | q⟩)
     .exact absurd q e
     .exact Or.inr (Or.inl q)
     .exact Or.inr (Or.inr q)
    .rintro(q | q | q)
     .omega
     .exact Or.inr ⟨⟨n1,n2⟩,Or.inl q⟩
     .exact Or.inr ⟨⟨n1,n2⟩,Or.inr q⟩
  by_cases d:S.fin=1\/S.fin=3/\evF v S.x=evF v S.y\/S.fin=4/\evF v S.x<evF v S.y
  .rw [eB (a.2 d),eB d]
  .rw [dY (λq=>d (a.1 q)),dY d]
 split
 .rename_i c;unfold QK;dsimp only;rw [dY (show¬S.fin=2 by omega),dY (show¬S.fin=2 by omega)];have a:(S.fin=1\/S.fin=3/\evF v S.y=evF v S.x\/S.fin=4/\evF v S.y<evF v S.x)↔(S.fin=1\/S.fin=3/\evF v S.x=evF v S.y\/S.fin=4/\evF v S.x<evF v S.y):=by omega
  by_cases d:S.fin=1\/S.fin=3/\evF v S.x=evF v S.y\/S.fin=4/\evF v S.x<evF v S.y
  .rw [eB (a.2 d),eB d]
  .rw [dY (λq=>d (a.1 q)),dY d]
 .rfl
theorem Kt{t T:List Atom}{b:Blk}{m:aC}(c:aI t)(x:t.length<=100)(a:dB b)(q:aI T)(g:(bR t b).1<+:T)(hm:MOK m)(N:m.halt=0)(V:m.pc=b.pc)(g2:m.count<=1000000-b.len):eZ b m=(ajP T b.pc b.len (bR t b).2 m,true):=by
 have sz:=a.sz;have E:bR t b=((eU t b).t,symEnd (sD b (eU t b)) (b.pc+b.len)):=by unfold bR;rw [eB (aJ ⟨c,x,a⟩)]
 rw [E]at g ⊢;dsimp only at g ⊢;have u:=Kg c ah;have SO:=(Qv c x a).1;have w:wOK m.regs:=hm.rw;have v:=(wh b.ops 0 (s0 t) u a.k3 ah ah).2;have X:∀o∈b.ops,(1<=o.kind/\o.kind<=8)/\(o.kind=1->0<=o.k/\o.k<=65535)/\(o.kind=3->1<=o.k/\o.k<=5):=λo U=>by
  obtain⟨j,hj,rfl⟩:=getElem_of_mem U;have:=a.op j ah ah;rw [getD_lt ah]at this;exact⟨this.kd,this.k1,this.k3⟩
 have O:PJ T m.regs ⟨m,[],false⟩ (s0 t) ⟨m,[],[],false⟩:=⟨rfl,rfl,rfl,rfl,λ_ h=>(by cases h),λ_ h=>(by cases h),λL I _ _ _ _=>rfl,λL I _ _ w2 D=>by
  have:=ao8 w w2 D c ah q hm.r4 4 (Nat.le_refl _) (v.trans g);rw [take_of_length_le (by rw [hm.r4];exact Nat.le_refl _)]at this;exact this⟩
 have G:MJ b 0 ⟨m,[],false⟩:=⟨rfl,rfl,λ_ h=>(by cases h),hm,V,N⟩;have l:T≠ []:=by
  have q8:0<=(aU (rN t 3).1 ⟨1,((3:Nat):Int),[],[]⟩).2:=Ci c ah (n:=3) ah;have S:=tq (Ci c ah (n:=3) ah:0<=(aU (rN t 3).1 ⟨1,((3:Nat):Int),[],[]⟩).2);have s:=oZ (v.trans g);have H:(s0 t).t=(aU (rN t 3).1 ⟨1,((3:Nat):Int),[],[]⟩).1:=rfl;intro z;rw [z,H]at s;have q7:=S.1;simp only [fE]at s;omega
 have F:=ady w q l ⟨m,[],[],false⟩ b.ops 0 ⟨m,[],false⟩ (s0 t) _ O u G X ah ah g rfl;have y:=Ho (b:=b) SO;obtain⟨C,W,_,_⟩:=Dy (n:=b.pc+b.len) y;have B:eZ b m=(qE b (b.ops.foldl (aK b) ⟨m,[],false⟩),true):=by unfold eZ;rw [aJ ⟨a,hm⟩,eB rfl,dY ah]
 rw [B];unfold ajP;rw [C];show _=(adu T m.regs b.pc b.len (symEnd (sD b (eU t b)) (b.pc+b.len)) ((eU t b).evs.foldl (oQ T m.regs b.pc b.len) ⟨m,[],[],false⟩),true);rw [show b.ops.foldl stp (s0 t)=eU t b from rfl]at F;generalize (eU t b).evs.foldl (oQ T m.regs b.pc b.len) ⟨m,[],[],false⟩=P at F;generalize b.ops.foldl (aK b) ⟨m,[],false⟩=M at F;rcases F with⟨J,K⟩ | ⟨Y,Z,R⟩
 .unfold qE adu;rw [dY (show¬M.left=true by rw [K.lf];decide),dY (show¬P.left=true by rw [J.lf];decide),auQ _ _ _ y,W];unfold pv;have ev:=J.v P.L P.I (prefix_refl _) (prefix_refl _) J.wl J.wi;have Q:=J.r P.L P.I (prefix_refl _) (prefix_refl _) J.wl J.wi;have wv:wOK M.vals:=K.wv;have vx:=λi:Int=>(QL (f:=evF (tv m.regs P.L P.I T)) rfl (eU t b).vals i).symm
  rw [ev]at vx;have p:=λi:Int=>K.wv.at i
  have en:=a.en.f;refine Prod.ext ?_ rfl;show({M.m with count:=M.m.count+b.len,pc:=if b.fin=1 then b.k else if b.fin=2 then((M.vals).getD (b.x).toNat default)else if xP (b.fin-2) ((M.vals).getD (b.x).toNat default) ((M.vals).getD (b.y).toNat default)=true then b.k else b.pc+b.len}:aC)=wE P.m (eU t b).regs (tv m.regs P.L P.I T) (QK b.pc b.len (sD b (eU t b)) (evF (tv m.regs P.L P.I T) (sD b (eU t b)).x) (evF (tv m.regs P.L P.I T) (sD b (eU t b)).y)) b.len 0;unfold wE;rw [Q,J.m];dsimp only;have epc:(if b.fin=1 then b.k else if b.fin=2 then((M.vals).getD (b.x).toNat default)else if xP (b.fin-2) ((M.vals).getD (b.x).toNat default) ((M.vals).getD (b.y).toNat default)=true then b.k else b.pc+b.len)=QK b.pc b.len (sD b (eU t b)) (evF (tv m.regs P.L P.I T) (sD b (eU t b)).x) (evF (tv m.regs P.L P.I T) (sD b (eU t b)).y):=by
   unfold QK sD;dsimp only;by_cases e:b.fin=1
   .rw [eB e,dY ah,eB (Or.inl e)]
   rw [dY e];by_cases k:b.fin=2
   .rw [eB k,eB k,dY e,vx]
   rw [dY k,dY k,dY e,eB (show 3<=b.fin by omega),vx b.x,vx b.y];obtain⟨r,A⟩:=HV (p b.x) (p b.y);by_cases f3:b.fin=3
   .rw [f3,show(3:Int)-2=1 by decide];by_cases d:((M.vals).getD (b.x).toNat default)=((M.vals).getD (b.y).toNat default)
    .rw [eB (r.2 d),eB (Or.inr (Or.inl ⟨rfl,d⟩))]
    .rw [dY (λz=>d (r.1 z)),dY ah]
   .have f4:b.fin=4:=by omega
    rw [f4,show(4:Int)-2=2 by decide];by_cases d:((M.vals).getD (b.x).toNat default)< ((M.vals).getD (b.y).toNat default)
    .rw [eB (A.2 d),eB (Or.inr (Or.inr ⟨rfl,d⟩))]
    .rw [dY (λz=>d (A.1 z)),dY ah]
  rw [epc,<-K.ha]
 .unfold qE adu;rw [eB Y,eB Z,R]
def adz{b c:Blk}(h:chk b c=true)(m:aC):eZ b m=eZ c m/\dB b/\dB c/\b.pc=c.pc/\b.len=c.len:=by
 obtain⟨d,e,j,len,h⟩:=aF.1 h;refine⟨?_,d,e,j,len⟩;rcases h with rfl | h
 .rfl
 by_cases k:MOK m/\m.halt=0/\m.pc=b.pc/\m.count<=1000000-b.len
 .obtain⟨hm,g0,g1,g2⟩:=k;have g:=TF;have s:=d.sz;obtain⟨f,r,o⟩:=Ao g.1 ah d;obtain⟨i,n,p⟩:=Ao f ah e;rw [Kt g.1 ah d i n hm g0 g1 g2,Kt f ah e i (prefix_refl _) hm g0 ah ah,h,j,len]
 .unfold eZ;by_cases hm:MOK m
  .have k':m.halt≠0\/m.pc≠b.pc\/1000000-b.len<m.count:=by
    by_cases a:m.halt=0
    .by_cases a2:m.pc=b.pc
     .exact Or.inr (Or.inr (Int.not_le.1 λl=>k ⟨hm,a,a2,l⟩))
     .exact Or.inr (Or.inl a2)
    .exact Or.inl a
   rw [aJ ⟨d,hm⟩,aJ ⟨e,hm⟩,eB rfl,eB ah,eB rfl,eB ah]
  .rw [aV (λq=>hm q.2),aV (λq=>hm q.2),dY (by decide),dY (by decide)]
noncomputable def tC:List Int->List Ins
 | []=> []
 | w::r=>if bp (Wo w/\bg (bU w))=true then bU w::tC r else []
def TU{w:Int}(h:Wo w)(k:bg (bU w)):fK (bU w)=w:=by
 unfold fK;rw [aJ k,eB rfl];obtain⟨b,a⟩:=h;unfold Fp bU;dsimp only;omega
def Og:∀ {a:List Int},(tC a).length=a.length->∀t:Nat,t<a.length->bg ((tC a).getD t default)/\fK ((tC a).getD t default)=a.getD t default
 | [],_,t,h=>by cases h
 | w::r,h,t,ht=>by
  unfold tC at h ⊢;by_cases c:Wo w/\bg (bU w)
  .rw [aJ c,eB rfl]at h ⊢;simp only [fA]at h ht;cases t with
   | zero=>exact⟨c.2,TU c.1 c.2⟩
   | succ t=>exact Og ah t ah
  .rw [aV c,dY (by decide)]at h;simp at h
def Oh:∀ {l:List Ins},(∀i∈l,bg i)->tC (l.map fK)=l
 | [],_=>rfl
 | i::l,h=>by
  have a:=h i (mem_cons_self ..);rw [map_cons];unfold tC;rw [TR a,aJ ⟨Aw i,a⟩,eB rfl,Oh λj b=>h j (mem_cons_of_mem _ b)]
def azF(e:Cac)(mem:List Int):Prop:=0<=e.blk.pc/\∀t:Nat,t<e.words.length->e.blk.pc+t<mem.length/\((mem).getD (e.blk.pc+t).toNat default)=e.words.getD t default
structure ajQ(e:Cac):Prop where
 len:(tC e.words).length=e.words.length
 ok:ni e.blk.pc (tC e.words)
 chk:chk (lower e.blk.pc (tC e.words)) e.blk=true
def ajR(m:aC)(i:Ins):(exec m i).count=m.count+1\/(exec m i).halt≠0/\(exec m i).count=m.count:=by
 unfold exec;split
 .exact Or.inr ⟨show(3:Int)≠0 by decide,rfl⟩
 .exact Or.inl rfl
def Ku(m:aC)(b:Bool):(stepM m b).count=m.count+1\/(stepM m b).halt≠0/\(stepM m b).count=m.count:=by
 obtain⟨_,_,e⟩:=Cm m b;rw [lH,<-e];split
 .exact Or.inr ⟨show(4:Int)≠0 by decide,rfl⟩
 split
 .exact Or.inr ⟨show(2:Int)≠0 by decide,rfl⟩
 .exact ajR _ _
def aeM(m:aC)(b:Bool):m.count<=(stepM m b).count:=by rcases Ku m b with h | h<;>omega
def ajS(m:aC)(b:Bool):m.count< (stepM m b).count\/(stepM m b).halt≠0:=by
 rcases Ku m b with h | h
 .exact Or.inl ah
 .exact Or.inr h.1
def an9{e:Cac}{m:aC}{q:List Int}(h:ajQ e)(hc:azF e m.mem)(hm:MOK m)(g:m.halt=0)(C:m.pc=e.blk.pc)(w:¬((m.waits || bp (m.count∈q))=true/\m.aL=true))(u:∀c:Int,m.count<c->c<m.count+e.blk.len->c∉q)(O:m.count<=1000000-e.blk.len):
  1<=e.blk.len/\e.blk.len<=8/\e.blk.len=e.words.length/\(eZ e.blk {m with waits:=m.waits || bp (m.count∈q)}).2=true/\∃k:Nat,1<=k/\(k:Int)<=e.blk.len/\(k:Int)=(eZ e.blk {m with waits:=m.waits || bp (m.count∈q)}).1.count-m.count+(if(eZ e.blk {m with waits:=m.waits || bp (m.count∈q)}).1.halt=3 then 1 else 0)/\
   iO q k m=(eZ e.blk {m with waits:=m.waits || bp (m.count∈q)}).1:=by
 have s:=Og h.len;have f:=adz h.chk;obtain⟨_,R,L,epc,aBs⟩:=f m;obtain⟨Q,H⟩:=aua h.ok;have U:=h.ok.ln;have N:e.blk.len=(tC e.words).length:=by rw [<-aBs,H]
 have P:=h.len
 let a:List Int:=q.filter λc=>decide (c≠m.count)
 have D:MOK {m with waits:=m.waits || bp (m.count∈q)}:={hm with};have A:=aeL (q:=a) (pc:=e.blk.pc) (m:={m with waits:=m.waits || bp (m.count∈q)}) h.ok D g C w (λc i j d=>by
   have i:m.count<=c:=i;have j:c<m.count+(tC e.words).length:=j;obtain⟨K,l⟩:=mem_filter.1 d;have l:c≠m.count:=by simpa using l
   exact u c ah ah K) (show m.count<=_ by omega) (λt M=>by
   obtain⟨y1,y2⟩:=hc.2 t ah;rw [(s t ah).2];exact y2)
 have I:=(adz h.chk {m with waits:=m.waits || bp (m.count∈q)}).1;rw [I]at A;obtain⟨r,T,k,v,p,S,k3⟩:=A;refine⟨ah,ah,ah,r,k,v,ah,p,?_⟩;rw [<-k3];have o:m.count<1000000:=by omega
 have b:∀n:Nat,∀X:aC,(m.count<X.count\/X.halt≠0)->iO q n X=iO a n X:=by
  intro n
  induction n with
  | zero=>exact λX _=>rfl
  | succ n G=>
   intro X hX;unfold iO;by_cases c:X.halt=0/\X.count<1000000
   .rw [eB c,eB c];have x:m.count<X.count:=hX.resolve_right (λz=>z c.1);have B:bp (X.count∈q)=bp (X.count∈a):=gP ⟨λz=>mem_filter.2 ⟨z,by simp;omega⟩,λz=>(mem_filter.1 z).1⟩;rw [B];refine G _ (Or.inl (Int.lt_of_lt_of_le x ?_));exact aeM X _
   .rw [dY c,dY c]
 obtain⟨n,rfl⟩:∃n,k=n+1:=⟨k-1,ah⟩;unfold iO;rw [eB ⟨g,o⟩,eB (show m.halt=0/\m.count<1000000 from⟨g,o⟩)];have E:smp m (bp (m.count∈q))={m with waits:=m.waits || bp (m.count∈q)}:=by unfold smp;rw [dY w]
 have y:smp {m with waits:=m.waits || bp (m.count∈q)} false={m with waits:=m.waits || bp (m.count∈q)}:=ajM w;have F:bp (m.count∈a)=false:=aV λz=>by have:=(mem_filter.1 z).2;simp at this
 have J:stepM {m with waits:=m.waits || bp (m.count∈q)} (bp (m.count∈a))=stepM m (bp (m.count∈q)):=by
  rw [F,lH,lH,E,y]
 show _=iO a n (stepM {m with waits:=m.waits || bp (m.count∈q)} (bp (m.count∈a)));rw [J];exact b n _ (ajS m _)
def auR(l:List Int)(k:Int):YQ.F () (l,k,()) (λy=>y=(if k<0 then 0 else iq l k,())):=by
 dsimp only [YQ,gm];simp (disch:=omega) only [RR];unfold iq;refine⟨λh=> ?_,λ⟨a,b⟩=>⟨ah,ah,by rw [dY a,eB ah]⟩⟩;by_cases c:k<0
 .rw [eB c]
 .rw [dY c,dY ah]
abbrev aBt(b:lT->Bool)(a:lT->eu):Prop:=∀l k,b (l,k,())=true/\a (l,k,())=(if k<0 then 0 else iq l k,())
variable{l:List Cac}{α:Type}
def CAB:(∀e:Cac,jN .cac 0 .i64 e=e.words)/\(∀e:Cac,cO .cac 1 e=e.blk.pc)/\(∀e:Cac,cO .cac 2 e=e.blk.len)/\(∀e:Cac,jN .cac 3 .iop e=e.blk.ops)/\(∀e:Cac,cO .cac 4 e=e.blk.fin)/\(∀e:Cac,cO .cac 5 e=e.blk.x)/\(∀e:Cac,cO .cac 6 e=e.blk.y)/\(∀e:Cac,cO .cac 7 e=e.blk.k):=
 ⟨λ_=>rfl,λ_=>rfl,λ_=>rfl,λ_=>rfl,λ_=>rfl,λ_=>rfl,λ_=>rfl,λ_=>rfl⟩
def CAM:(∀e:Cac,Co.mk .cac (e.words,e.blk.pc,e.blk.len,e.blk.ops,e.blk.fin,e.blk.x,e.blk.y,e.blk.k,())=e)/\(∀x:Cac,([x].length:Int)=1):=⟨λ_=>rfl,λ_=>rfl⟩
def ShK(l:List Cac):Prop:=l.length<1000/\∀x∈l,x.words.length<1000/\x.blk.ops.length<1000000/\x.blk.pc<=1000000
def ShK.at(h:ShK l)(i:Nat):(l.getD i default).words.length<1000/\(l.getD i default).blk.ops.length<1000000/\(l.getD i default).blk.pc<=1000000:=by
 by_cases c:i<l.length
 .rw [getD_lt c];exact h.2 _ (getElem_mem _)
 .rw [getD_eq_getElem?_getD,getElem?_eq_none ah];exact⟨by decide,by decide,by decide⟩
def ShX(l:List Cac):Prop:=l.length<1000000000/\∀x∈l,x.words.length<1000000000/\x.blk.ops.length<1000000000
def ShK.x(h:ShK l):ShX l:=⟨by have:=h.1;omega,λq g=>by have:=h.2 q g;omega⟩
def ShX.at(h:ShX l)(i:Nat):(l.getD i default).words.length<1000000000/\(l.getD i default).blk.ops.length<1000000000:=by
 by_cases c:i<l.length
 .rw [getD_lt c];exact h.2 _ (getElem_mem _)
 .rw [getD_eq_getElem?_getD,getElem?_eq_none ah];exact⟨by decide,by decide⟩
def ShK.sub{l r:List Cac}(h:ShK l)(n:r.length<1000)(s:∀x∈r,x∈l):ShK r:=⟨n,λx a=>h.2 x (s x a)⟩
def FC(l:List Cac)(a k:Int):Prop:=(k= -1/\∀j:Int,0<=j->j<l.length->(((l).getD (j).toNat default)).blk.pc≠a)\/(0<=k/\k<l.length/\(((l).getD (k).toNat default)).blk.pc=a/\∀j:Int,0<=j->j<k->(((l).getD (j).toNat default)).blk.pc≠a)
def FC.one{e k m:Int}(h:FC l e k)(g:FC l e m):k=m:=by
 rcases h with⟨a,b⟩ | ⟨a,b,c,d⟩<;>rcases g with⟨f,i⟩ | ⟨f,i,n,j⟩
 all_goals grind
def auS(l:List Cac)(a:Int)(h:l.length<1000000000):Yn.F () (l,a,()) (λy=>FC l a y.1):=by
 dsimp only [Yn,gm];refine ay (λ(y:List Cac×sj)=>y.1=l/\y.2.1=a/\0<=y.2.2.1/\y.2.2.1<=l.length/\∀j:Int,0<=j->j<y.2.2.1->(((l).getD (j).toNat default)).blk.pc≠a) (λy=>(l.length-y.2.2.1).toNat) ⟨rfl,rfl,by simp,by simp,λj m b=>absurd b (by simp;omega)⟩ ?_;rintro⟨(l:List Cac),(a:Int),(i:Int),⟨⟩⟩ hI;dsimp only at hI ⊢;obtain⟨rfl,rfl,b,k,d⟩:=hI;simp (disch:=omega) only [RR,CAB];refine⟨λg=>⟨b,g,λe=>Or.inr ⟨b,g,e,d⟩,λe=>⟨⟨ah,ah,λj c f=> ?_⟩,ah⟩⟩,λg=>Or.inl ⟨rfl,λj c f=>d j c ah⟩⟩
 grind
def There(w mem:List Int)(a:Int):Prop:=∀k:Int,0<=k->k<w.length->a+k<mem.length/\((mem).getD (a+k).toNat default)=((w).getD (k).toNat default)
def auT(w mem:List Int)(a:Int)(o:w.length<1000)(hm:mem.length<1000000000)(r:0<=a)(p:a<=1000000):XR.F () (w,mem,a,()) (λy=>y=(bp (There w mem a),())):=by
 dsimp only [XR,gm];refine ay (λ(y:List Int×aBY)=>y.1=w/\y.2.1=mem/\y.2.2.1=a/\0<=y.2.2.2.1/\y.2.2.2.1<=w.length/\∀k:Int,0<=k->k<y.2.2.2.1->a+k<mem.length/\((mem).getD (a+k).toNat default)=((w).getD (k).toNat default)) (λy=>(w.length-y.2.2.2.1).toNat) ⟨rfl,rfl,rfl,by simp,by simp,λj m b=>absurd b (by simp;omega)⟩ ?_;rintro⟨(w:List Int),(mem:List Int),(a:Int),(i:Int),⟨⟩⟩ hI;dsimp only at hI ⊢;obtain⟨rfl,rfl,rfl,b,l,h⟩:=hI;simp (disch:=omega) only [RR];refine⟨λg=>⟨ah,ah,ah,ah,λe=> ?_,λe=>⟨⟨ah,ah,λj d f=> ?_⟩,ah⟩⟩,λg=> ?_⟩
 .rw [aV];intro q;obtain⟨n,s⟩:=q i b g;omega
 .by_cases c:j<i
  all_goals grind
 .rw [aJ];exact λj d f=>h j d ah
abbrev cE(e:Cac):aCz:=(e.blk.pc,e.blk.len,e.blk.fin,e.blk.x,e.blk.y,e.blk.k,e.words,e.blk.ops,())
theorem auU{p1 f1}(b:Y77 p1 f1)(e:Cac)(d:e.words.length<1000)(a:e.blk.ops.length<1000000):X6.F (p1,f1,()) (e,()) (λy=>y=cE e):=by
 have mE:∀c:Blk,Co.mk .blk (c.pc,c.len,c.ops,c.fin,c.x,c.y,c.k,())=c:=λ_=>rfl
 dsimp only [X6,gm,jU];simp (disch:=omega) only [RR,CAB,mE,b _ a,nil_append,fE];omega
noncomputable def dF (mem:List Int) (x:Cac):Bool:=bp (0<=x.blk.pc/\There x.words mem x.blk.pc)
def pG{d:α}{P:α->Bool}{l:List α}{i:Int}(a:0<=i)(h:i<l.length):(l.take (i+1).toNat).filter P=(l.take i.toNat).filter P++(if P (l.getD i.toNat d)=true then [l.getD i.toNat d]else []):=by
 rw [show(i+1).toNat=i.toNat+1 by omega,take_succ_eq_append_getElem ah,getD_lt ah,filter_append]
 grind
def zm(P:α->Bool)(l:List α)(i:Nat):((l.take i).filter P).length<=i:=Nat.le_trans (length_filter_le _ _) (length_take_le _ _)
abbrev aoa(b:aCq->Bool)(a:aCq->aCz):Prop:=∀e,e.words.length<1000->e.blk.ops.length<1000000->b (e,())=true/\a (e,())=cE e
abbrev azG(c:aCt->Bool)(b:aCt->lX):Prop:=∀w mem a,w.length<1000->mem.length<1000000000->0<=a->a<=1000000->c (w,mem,a,())=true/\b (w,mem,a,())=(bp (There w mem a),())
def auV{p1 f1 p2 f2}(t:aoa p1 f1)(s:azG p2 f2)(l:List Cac)(mem:List Int)(h:ShK l)(hm:mem.length<1000000000):Ya.F (p1,f1,p2,f2,()) (l,mem,()) (λy=>y=(l.filter (dF mem),())):=by
 have f:=λz1 z2 z3=>(t z1 z2 z3).1
 have q:=λz1 z2 z3=>(t z1 z2 z3).2
 have m:=λz1 z2 z3 z4 k n j=>(s z1 z2 z3 z4 k n j).1
 have p:=λz1 z2 z3 z4 k n j=>(s z1 z2 z3 z4 k n j).2
 have A:=h.1;have mC:=CAM;dsimp only [Ya,gm,jU,map_cons,map_nil]at*;refine ay (λ(y:List Cac×List Int×Int×vw)=>y.1=l/\y.2.1=mem/\0<=y.2.2.1/\y.2.2.1<=l.length/\y.2.2.2.1=(l.take y.2.2.1.toNat).filter (dF mem)) (λy=>(l.length-y.2.2.1).toNat) ⟨rfl,rfl,by simp,by simp,by simp⟩ ?_;rintro⟨(l:List Cac),(mem:List Int),(i:Int),(o:List Cac),⟨⟩⟩ hI;dsimp only at hI ⊢;obtain⟨rfl,rfl,a,z,rfl⟩:=hI;obtain⟨b,u,r⟩:=h.at i.toNat;have B:=zm (dF mem) l i.toNat;by_cases c:i<l.length
 .have fs:=pG (d:=default) (P:=dF mem) a c;by_cases d:0<=(((l).getD (i).toNat default)).blk.pc
  .have P2:=m _ mem _ b hm d r;have x:=p _ mem _ b hm d r;have v:=f _ b u;have w:=q _ b u;simp (disch:=omega) only [RR,CAB,c,d,v,P2,w,x,mC];refine⟨a,a,a,λe=>⟨a,ah,⟨ah,ah,?_⟩,ah⟩,λe=>⟨⟨ah,ah,?_⟩,ah⟩⟩
   .rw [fs,eB (show dF mem _=true from aJ ⟨d,aF.1 e⟩)]
   .rw [fs,dY (by rw [dF,aV (λg=>by rw [aJ g.2]at e;simp at e)];decide),append_nil]
  .simp (disch:=omega) only [RR,CAB,c,d,mC];refine⟨a,λe=>e.1.elim,λ_=>⟨⟨ah,ah,?_⟩,ah⟩⟩;rw [fs,dY (by rw [dF,aV (λg=>d g.1)];decide),append_nil]
 .simp (disch:=omega) only [RR,CAB,c];rw [take_of_length_le ah]
noncomputable def mh:List Int->List Ins
 | []=> []
 | w::r=>if bp (Wo w/\bg (bU w))=true then bU w::mh r else []
def QM:∀w:List Int,(mh w).length<=w.length
 | []=>Nat.le_refl _
 | w::r=>by
  have:=QM r
  grind [mh,fA,fE]
def zn:∀(a b:List Int),(∀w∈a,Wo w/\bg (bU w))->mh (a++b)=a.map bU++mh b
 | [],b,_=>rfl
 | w::a,b,h=>by
  rw [cons_append,mh,eB (aJ (h w (by simp))),zn a b (λx c=>h x (by simp [c]))];rfl
theorem auW{p1 f1}(m:aa8 p1 f1)(w:List Int)(h:w.length<1000000000):XP.F (p1,f1,()) (w,()) (λy=>y=(mh w,())):=by
 have e:∀x y z u:Int,Co.mk .ins (x,y,z,u,())=⟨x,y,z,u⟩:=λ_ _ _ _=>rfl
 dsimp only [XP,gm];refine ay (λ(y:Xn)=>y.1=w/\0<=y.2.1/\y.2.1<=w.length/\y.2.2.1=(w.take y.2.1.toNat).map bU/\∀x∈w.take y.2.1.toNat,Wo x/\bg (bU x)) (λy=>(w.length-y.2.1).toNat) ⟨rfl,by simp,by simp,by simp,by simp⟩ ?_;rintro⟨(w:List Int),(i:Int),(o:List Ins),⟨⟩⟩ hI;dsimp only at hI ⊢;obtain⟨rfl,b,n,rfl,a⟩:=hI;simp (disch:=omega) only [RR,m];have tl:=length_take_le' i.toNat w;refine⟨λg=>⟨b,g,?_⟩,λg=> ?_⟩
 .have dr:w=w.take i.toNat++(w.getD i.toNat default::w.drop (i.toNat+1)):=by simp_all
  unfold tkI;by_cases c:Wo (w.getD i.toNat default)/\bg (bU (w.getD i.toNat default))
  .rw [eB (aJ c)];simp (disch:=omega) only [RR,e];have j:=bA (d:=default) b g (l:=w) rfl;have k:((w.take i.toNat).map bU).length=i.toNat:=by rw [length_map,length_take];omega
   refine⟨by rw [k];simp only [fA,fE];omega,⟨ah,ah,by rw [<-j,map_append];rfl,λx f=> ?_⟩,ah⟩;rw [<-j,mem_append,mem_singleton]at f;exact f.elim (a x) (λq=>q▸c)
  .rw [dY (by rw [aV c];decide)];simp (disch:=omega) only [RR]
   conv=>rhs;rw [dr]
   rw [zn _ _ a,mh,dY (by rw [aV c];decide),append_nil]
   done
 .rw [take_of_length_le ah]at a ⊢;have:=zn w [] a;rw [append_nil]at this;rw [this];simp [mh]
def neP(a:Int)(x:Cac):Bool:= !decide (x.blk.pc=a)
def kR(l:List Cac)(e:Cac):List Cac:=(l.filter (neP e.blk.pc)++ [e]).drop ((l.filter (neP e.blk.pc)).length+1-4)
def auX{p1 f1}(k:aoa p1 f1)(l:List Cac)(e:Cac)(h:ShK l)(j:e.words.length<1000)(g:e.blk.ops.length<1000000):YI.F (p1,f1,()) (l,e,()) (λy=>y=(kR l e,())):=by
 have a:=λz1 z2 z3=>(k z1 z2 z3).1
 have b:=λz1 z2 z3=>(k z1 z2 z3).2
 have C:=h.1;have mC:=CAM;dsimp only [YI,gm,jU,map_cons,map_nil]at*;refine ay (λ(y:List Cac×Int×Cac×vw)=>y.1=l/\0<=y.2.1/\y.2.1<=l.length/\y.2.2.1=e/\y.2.2.2.1=(l.take y.2.1.toNat).filter (neP e.blk.pc)) (λy=>(l.length-y.2.1).toNat) ⟨rfl,by simp,by simp,rfl,by simp⟩ ?_;rintro⟨(l:List Cac),(i:Int),(e:Cac),(o:List Cac),⟨⟩⟩ hI;dsimp only at hI ⊢;obtain⟨rfl,f,A,rfl,rfl⟩:=hI;obtain⟨m,p,B⟩:=h.at i.toNat;have x:=zm (neP e.blk.pc) l i.toNat;have u:=a _ j g;have q:=b _ j g;by_cases c:i<l.length
 .have fs:=pG (d:=default) (P:=neP e.blk.pc) f c;by_cases d:(((l).getD (i).toNat default)).blk.pc=e.blk.pc
  .rw [dY (by simp [neP,d, -getD_eq_getElem?_getD])]at fs;simp (disch:=omega) only [RR,CAB,c,d,mC];exact⟨f,⟨ah,ah,by rw [fs,append_nil]⟩,ah⟩
  .rw [eB (by simp [neP,d, -getD_eq_getElem?_getD])]at fs;have t:=a _ m p;have v:=b _ m p;simp (disch:=omega) only [RR,CAB,c,d,t,v,mC];exact⟨f,f,ah,⟨ah,ah,fs.symm⟩,ah⟩
 .simp (disch:=omega) only [RR,CAB,c,u,q,mC];rw [take_of_length_le ah]at x ⊢;have r:((l.filter (neP e.blk.pc)++ [e]).length:Int)=(l.filter (neP e.blk.pc)).length+1:=by rw [eG,length_singleton];omega
  have s:(l.filter (neP e.blk.pc)++ [e]).length=(l.filter (neP e.blk.pc)).length+1:=by rw [eG,length_singleton]
  rw [r];generalize hn:(l.filter (neP e.blk.pc)).length=n at*;have w:IntKind.i64.wrap ((n:Int)+1-4)=n+1-4:=w64 ah ah;rw [w];unfold kR;rw [hn];refine⟨ah,λz=>⟨ah,ah,ah,ah,ah,ah,?_⟩,λz=>by rw [show n+1-4=0 by omega];rfl⟩;rw [take_of_length_le ah,show((n:Int)+1-4).toNat=n+1-4 by omega]
def mq(x:Cac):Prop:=(mh x.words).length=x.words.length/\ni x.blk.pc (mh x.words)/\chk (lower x.blk.pc (mh x.words)) x.blk=true
abbrev azH(b:bn->Bool)(a:bn->aCg):Prop:=∀w,w.length<1000000000->b (w,())=true/\a (w,())=(mh w,())
theorem auY{p1 f1 p2 f2 p3 f3 p4 f4}(n:an5 p1 f1)(k:azw p2 f2)(j:azH p3 f3)(m:Y96 p4 f4)(e:Cac)(h:e.words.length<1000000000)(o:e.blk.ops.length<1000000000):XQ.F (p1,f1,p2,f2,p3,f3,p4,f4,()) (e,()) (λy=>y=(bp (mq e),())):=by
 have mE:∀c:Blk,Co.mk .blk (c.pc,c.len,c.ops,c.fin,c.x,c.y,c.k,())=c:=λ_=>rfl
 have tl:=QM e.words;obtain⟨g,a⟩:=n e.blk.pc (mh e.words) ah;obtain⟨i,l⟩:=k e.blk.pc (mh e.words) ah;have b:=QJ a;rw [a]at b;obtain⟨d,f⟩:=m (lower e.blk.pc (mh e.words)) e.blk (by have:((lower e.blk.pc (mh e.words)).ops.length:Int)<=5000:=b;omega) ah;dsimp only [XQ,gm,jU];simp (disch:=omega) only [RR,CAB,mE,j _ h,g,a,i,l,d,f]
 grind [bp,mq,decide,mh,chk,lower,aF]
def Fv(l:List Cac)(mem:List Int):Prop:=l.length<=4/\(∀j:Int,0<=j->j<l.length->mq ((l).getD (j).toNat default)/\There (((l).getD (j).toNat default)).words mem (((l).getD (j).toNat default)).blk.pc)/\∀i j:Int,0<=i->i<j->j<l.length->(((l).getD (i).toNat default)).blk.pc≠(((l).getD (j).toNat default)).blk.pc
def auZ{p2 f2}{D:aCq->Bool}{C:aCq->lX}(H:∀e,e.words.length<1000000000->e.blk.ops.length<1000000000->D (e,())=true/\C (e,())=(bp (mq e),()))(M:azG p2 f2)(l:List Cac)(mem:List Int)(h:ShX l)(hm:mem.length<1000000000):XU.F (D,C,p2,f2,()) (l,mem,()) (λy=>y=(bp (Fv l mem),())):=by
 have R:=h.1;dsimp only [XU,gm,jU];simp (disch:=omega) only [RR,CAB];refine⟨λg=>by rw [aV (λe=>by have:=e.1;omega)],λg=> ?_⟩;refine ay (λ(y:List Cac×lT)=>y.1=l/\y.2.1=mem/\0<=y.2.2.1/\y.2.2.1<=l.length/\(∀j:Int,0<=j->j<y.2.2.1->mq ((l).getD (j).toNat default)/\There (((l).getD (j).toNat default)).words mem (((l).getD (j).toNat default)).blk.pc)/\∀i j:Int,0<=i->i<j->j<y.2.2.1->(((l).getD (i).toNat default)).blk.pc≠(((l).getD (j).toNat default)).blk.pc) (λy=>(l.length-y.2.2.1).toNat) ⟨rfl,rfl,by simp,by simp,λj A p=>absurd p (by simp;omega),λi j A p J=>absurd J (by simp;omega)⟩ ?_;rintro⟨(n:List Cac),(f:List Int),(i:Int),⟨⟩⟩ hI;dsimp only at hI ⊢;obtain⟨rfl,rfl,m,P,F,G⟩:=hI;obtain⟨r,s⟩:=h.at i.toNat;by_cases c:i<n.length
 .by_cases d:mq ((n).getD (i).toNat default)
  .have pc:=d.2.1.pc;have Q:=d.1;have T:=d.2.1.ln;obtain⟨L,N⟩:=M _ f _ (show(((n).getD (i).toNat default)).words.length<1000 by omega) hm pc.1 ah;simp (disch:=omega) only [RR,CAB,c,H _ r s,aJ d,L,N];refine⟨m,m,m,λe=> ?_,λe=> ?_⟩
   .rw [aV];intro q;rw [aJ (q.2.1 i m c).2]at e;cases e
   have K:=aF.1 e;refine ay (λ(y:List Cac×aBY)=>y.1=n/\y.2.1=f/\y.2.2.1=i/\0<=y.2.2.2.1/\y.2.2.2.1<=i/\∀j:Int,0<=j->j<y.2.2.2.1->(((n).getD (j).toNat default)).blk.pc≠(((n).getD (i).toNat default)).blk.pc) (λy=>(i-y.2.2.2.1).toNat) ⟨rfl,rfl,rfl,by simp,m,λj A p=>absurd p (by simp;omega)⟩ ?_;rintro⟨(u:List Cac),(v:List Int),(w:Int),(k:Int),⟨⟩⟩ hJ;dsimp only at hJ ⊢;obtain⟨rfl,rfl,rfl,t,U,k3⟩:=hJ;simp (disch:=omega) only [RR];refine⟨λE=>⟨t,ah,m,c,λq=> ?_,λq=>⟨⟨ah,ah,λj o x=> ?_⟩,ah⟩⟩,λE=>⟨⟨ah,ah,λj o x=> ?_,λa b B I S=> ?_⟩,ah⟩⟩
   .rw [aV];exact λz=>z.2.2 k w t E c q
   .by_cases y:j<k
    .exact k3 j o y
    .rw [show j=k by omega];exact q
   .by_cases y:j<w
    .exact F j o y
    .rw [show j=w by omega];exact⟨d,K⟩
   .by_cases y:b<w
    .exact G a b B I y
    .rw [show b=w by omega];exact k3 a B ah
  .simp (disch:=omega) only [RR,CAB,c,H _ r s,aV d];refine⟨m,?_,λe=>e.1.elim⟩;rw [aV];exact λz=>d (z.2.1 i m c).1
 .simp (disch:=omega) only [RR,CAB,c];rw [aJ];exact⟨ah,λj o x=>F j o ah,λa b O r s=>G a b O r ah⟩
def EGB:(∀e:Eng,jN .eng 0 .i64 e=e.aj.regs)/\(∀e:Eng,cO .eng 1 e=e.aj.pc)/\(∀e:Eng,jN .eng 2 .i64 e=e.aj.mem)/\(∀e:Eng,cO .eng 3 e=e.aj.save)/\(∀e:Eng,LW .eng 4 e=e.aj.aL)/\(∀e:Eng,LW .eng 5 e=e.aj.waits)/\(∀e:Eng,cO .eng 6 e=e.aj.halt)/\(∀e:Eng,jN .eng 7 .i64 e=e.aj.ins)/\(∀e:Eng,jN .eng 8 .i64 e=e.aj.outs)/\(∀e:Eng,cO .eng 9 e=e.aj.count)/\(∀e:Eng,jN .eng 10 .cac e=e.cache)/\(∀e:Eng,jN .eng 11 .cer e=e.aQ):=
 ⟨λ_=>rfl,λ_=>rfl,λ_=>rfl,λ_=>rfl,λ_=>rfl,λ_=>rfl,λ_=>rfl,λ_=>rfl,λ_=>rfl,λ_=>rfl,λ_=>rfl,λ_=>rfl⟩
theorem MKM:∀m:aC,Co.mk .aj (m.regs,m.pc,m.mem,m.save,m.aL,m.waits,m.halt,m.ins,m.outs,m.count,())=m:=λ_=>rfl
def iA(e:Eng):Prop:=MOK e.aj/\Fv e.cache e.aj.mem/\uY e.aQ
abbrev azI(b:aBR->Bool)(a:aBR->lX):Prop:=∀l mem,ShX l->mem.length<1000000000->b (l,mem,())=true/\a (l,mem,())=(bp (Fv l mem),())
def au0{p1 f1 p2 f2 p3 f3}(m:azI p1 f1)(k:ayX p2 f2)(j:QG p3 f3)(e:Eng)(a:MSh e.aj)(i:ShX e.cache)(l:ShD e.aQ):XW.F (p1,f1,p2,f2,p3,f3,()) (e,()) (λy=>y=(bp (iA e),())):=by
 have b:=λz1 z2 z3 z4=>(m z1 z2 z3 z4).1
 have h:=λz1 z2 z3 z4=>(m z1 z2 z3 z4).2
 have f:=λz1 z2=>(k z1 z2).1
 have g:=λz1 z2=>(k z1 z2).2
 have d:=λz1 z2=>(j z1 z2).1
 have c:=λz1 z2=>(j z1 z2).2
 have mM:=MKM;have n:=b _ e.aj.mem i a.2.1;have o:=h _ e.aj.mem i a.2.1;dsimp only [XW,gm,jG]at*;simp (disch:=omega) only [RR,EGB,mM,d _ a,c _ a,n,o,f _ l,g _ l];unfold iA;rw [eH,eH,Bool.and_assoc]
abbrev e12(e:Eng):oz:=(e.aj.regs,e.aj.pc,e.aj.save,e.aj.aL,e.aj.waits,e.aj.halt,e.aj.ins,e.aj.outs,e.aj.count,e.aQ,e.aj.mem,e.cache,())
noncomputable def newE (m:aC):Eng:=if bp (MOK m)=true then⟨m,[],[]⟩else⟨TP,[],[]⟩
def au1{p1 f1 p2 f2}(a:QG p1 f1)(b:aa5 p2 f2)(m:aC)(h:MSh m):Zf.F (p1,f1,p2,f2,()) (m,()) (λy=>y=e12 (newE m)):=by
 dsimp only [Zf,gm];simp (disch:=omega) only [RR,a _ h,b _ h];unfold newE;exact⟨λg=>by rw [g];rfl,λg=>by rw [g];rfl⟩
def ajT{m:aC}(h:MSh m)(f:m.outs.length<900000000)(b:Bool):MSh (stS m b)/\(stS m b).outs.length<=m.outs.length+1/\(stS m b).ins.length<=m.ins.length:=by
 obtain⟨c,d,e,a⟩:=h;unfold stS;split
 .rename_i g;have ok:=aF.1 g;split
  .exact⟨⟨c,d,e,a⟩,Nat.le_succ _,Nat.le_refl _⟩
  .have k:=rF ok (by have:=ok.ct;omega) b;have l:=DJ m b;exact⟨⟨by rw [k.r4];omega,by have:=k.m64;omega,ah,ah⟩,l.2,l.1⟩
 .exact⟨⟨by decide,by decide,by decide,by decide⟩,Nat.zero_le _,Nat.zero_le _⟩
noncomputable def jB (e:Eng) (q:List Int):Eng:=⟨stS e.aj (bp (e.aj.count∈q)),e.cache.filter (dF (stS e.aj (bp (e.aj.count∈q))).mem),e.aQ⟩
abbrev au2(b:aBR->Bool)(a:aBR->vw):Prop:=∀l mem,ShK l->mem.length<1000000000->b (l,mem,())=true/\a (l,mem,())=(l.filter (dF mem),())
def au3{p1 f1 p2 f2 p3 f3}(n:au2 p1 f1)(m:azp p2 f2)(l:aeK p3 f3)(e:Eng)(q:List Int)(c:MSh e.aj)(g:e.aj.outs.length<900000000)(j:ShK e.cache)(k:q.length<1000000000):Yl.F (p1,f1,p2,f2,p3,f3,()) (e.aj.regs,e.aj.pc,e.aj.mem,e.aj.save,e.aj.aL,e.aj.waits,e.aj.halt,e.aj.ins,e.aj.outs,e.aj.count,e.cache,q,e.aQ,()) (λy=>y=e12 (jB e q)):=by
 have a:=λz1 z2 z3 z4=>(n z1 z2 z3 z4).1
 have i:=λz1 z2 z3 z4=>(n z1 z2 z3 z4).2
 have f:=λz1 z2 z3 z4=>(m z1 z2 z3 z4).1
 have h:=λz1 z2 z3 z4=>(m z1 z2 z3 z4).2
 have d:=λz1 z2 z3=>(l z1 z2 z3).1
 have b:=λz1 z2 z3=>(l z1 z2 z3).2
 have mM:=MKM;dsimp only [Yl,gm,jG]at*;have p:=d _ e.aj.count k;have o:=b _ e.aj.count k;have s:=f e.aj (bp (e.aj.count∈q)) c g;have u:=h e.aj (bp (e.aj.count∈q)) c g;have sh:=(ajT c g (bp (e.aj.count∈q))).1;have r:=a _ (stS e.aj (bp (e.aj.count∈q))).mem j sh.2.1;have t:=i _ (stS e.aj (bp (e.aj.count∈q))).mem j sh.2.1;simp (disch:=omega) only [RR,mM,p,o,s,u,r,t];rfl
theorem au4{p1 f1 p2 f2 p3 f3}(t:aoa p1 f1)(o:atJ p2 f2)(n:aa5 p3 f3)(e:Eng)(m:MSh e.aj)(l:ShK e.cache)(p:ShC e.aQ):X8.F (p1,f1,p2,f2,p3,f3,()) (e,()) (λy=>y=e12 e):=by
 have d:=λz1 z2 z3=>(t z1 z2 z3).1
 have k:=λz1 z2 z3=>(t z1 z2 z3).2
 have h:=λz1 z2 z3=>(o z1 z2 z3).1
 have a:=λz1 z2 z3=>(o z1 z2 z3).2
 have g:=λz1 z2=>(n z1 z2).1
 have f:=λz1 z2=>(n z1 z2).2
 have mM:=MKM;have mC:=CAM;have z:∀q:Cer,Co.mk .cer (q.base.pc,q.base.len,q.base.ops,q.base.fin,q.base.x,q.base.y,q.base.k,q.made.pc,q.made.len,q.made.ops,q.made.fin,q.made.x,q.made.y,q.made.k,())=q:=λ_=>rfl
 unfold wD at a;dsimp only [X8,gm,jG,jU,cons_append,nil_append,map_cons,map_nil]at*;simp (disch:=omega) only [RR,EGB,mM,g _ m,f _ m];have E:=l.1;have B:=p.1;have w:∀x:Cer,([x].length:Int)=1:=λ_=>rfl
 refine ay (λy=>∃i:Nat,i<=e.cache.length/\y=((i:Int),e,(0:Int),(0:Int),false,false,(0:Int),(0:Int),e.aj.pc,e.aj.save,e.aj.aL,e.aj.waits,e.aj.halt,e.aj.count,e.aj.regs,e.aj.mem,e.aj.ins,e.aj.outs,e.cache.take i,())) (λy=>(e.cache.length-y.1).toNat) ⟨0,Nat.zero_le _,rfl⟩ ?_;rintro y ⟨i,C,rfl⟩;dsimp only;obtain⟨r,s,A⟩:=l.at i;have u:((i:Int)).toNat=i:=rfl;by_cases c:(i:Int)<e.cache.length
 .have tl:=length_take_le' i e.cache;simp (disch:=omega) only [RR,c,u,d _ r s,k _ r s,mC];refine⟨ah,ah,⟨i+1,ah,?_⟩,ah⟩;simp_all
 .simp (disch:=omega) only [RR,c];rw [take_of_length_le ah];refine ay (λy=>∃i:Nat,i<=e.aQ.length/\y=((i:Int),e,(0:Int),(0:Int),false,false,(0:Int),(0:Int),e.aj.pc,e.aj.save,e.aj.aL,e.aj.waits,e.aj.halt,e.aj.count,e.aj.regs,e.aj.mem,e.aj.ins,e.aj.outs,e.cache,e.aQ.take i,())) (λy=>(e.aQ.length-y.1).toNat) ⟨0,Nat.zero_le _,rfl⟩ ?_;rintro y ⟨j,D,rfl⟩;dsimp only;have b:=p.at j;have v:((j:Int)).toNat=j:=rfl;by_cases c:(j:Int)<e.aQ.length
  .have tl:=length_take_le' j e.aQ;simp (disch:=omega) only [RR,c,v,h _ b.1 b.2,a _ b.1 b.2,z,w];refine⟨ah,ah,⟨j+1,ah,?_⟩,ah⟩;rw [take_succ_eq_append_getElem ah,getD_lt ah];rfl
  .simp (disch:=omega) only [RR,c];rw [take_of_length_le ah]
end Go.TX.F
namespace Go.TX.F
open Go Go.AE Go.TX List
def azJ(e:Cac)(a:Int):ah7.F () (e,a,()) (λy=>y=(decide (e.blk.pc=a),a,())):=by
 dsimp only [ah7,gm];simp (disch:=omega) only [RR,CAB]
def au5{c:Cac×eu->Bool}{d:Cac×eu->Bool×eu}(m:∀e a,c (e,a,())=true/\d (e,a,())=(decide (e.blk.pc=a),a,()))(l:List Cac)(a:Int)(h:l.length<1000000000):aas.F (c,d,()) (l,a,()) (λy=>y.2.1=a/\FC l a y.1):=by
 dsimp only [aas,gm];refine ay (λ(y:List Cac×aCf)=>y.1=l/\y.2.1=l.length/\0<=y.2.2.1/\y.2.2.1<=l.length/\y.2.2.2.1=a/\∀j:Int,0<=j->j<y.2.2.1->(((l).getD (j).toNat default)).blk.pc≠a) (λy=>(l.length-y.2.2.1).toNat) ⟨rfl,rfl,by simp,by simp,rfl,λj q b=>absurd b (by simp;omega)⟩ ?_;rintro⟨(l:List Cac),(n:Int),(i:Int),(a:Int),⟨⟩⟩ hI;dsimp only at hI ⊢;obtain⟨rfl,rfl,b,p,rfl,k⟩:=hI;simp (disch:=omega) only [RR,CAB,m];refine⟨λg=>⟨b,g,λe=>Or.inr ⟨b,g,e,k⟩,λe=>⟨⟨ah,ah,λj f o=> ?_⟩,ah⟩⟩,λg=>Or.inl ⟨rfl,λj f o=>k j f ah⟩⟩
 grind
def azK{c:aCh->Bool}{b:aCh->sj}(d:∀l a,l.length<1000000000->c (l,a,())=true/\(b (l,a,())).2.1=a/\FC l a (b (l,a,())).1)(l:List Cac)(a:Int)(h:l.length<1000000000):ah9.F (c,b,()) (l,a,()) (λy=>FC l a y.1):=by
 dsimp only [ah9,gm];simp_all
abbrev au6(c:aCh->Bool)(b:aCh->eu):Prop:=∀l a,l.length<1000000000->c (l,a,())=true/\FC l a (b (l,a,())).1
def lvS(m:aC)(b:Blk)(n h:Int):aC:={m with pc:=b.pc+n,count:=m.count+n,halt:=h}
def au7(m:aC)(b:Blk)(n h:Int)(c:0<=m.count/\m.count<=2000000)(a:0<=n/\n<=1000)(d: -1000<=b.pc/\b.pc<=1000000):YN.F () (m.pc,m.save,m.aL,m.waits,m.halt,m.ins,m.count,b,n,h,m.regs,m.mem,m.outs,()) (λy=>y=mB (lvS m b n h)):=by
 dsimp only [YN,gm];simp (disch:=omega) only [RR,RB];rfl
def au8(b:Blk)(a n:Int)(c:0<=n/\n<=1000)(e: -1000<=b.pc/\b.pc<=1000000)(d: -1000<=b.len/\b.len<=1000000):YO.F () (b,a,n,()) (λy=>y=(decide (b.pc+n<a)&&decide (a<b.pc+b.len),())):=by
 dsimp only [YO,gm];simp (disch:=omega) only [RR,RB]
def au9{p1 f1}(a:Y24 p1 f1)(m:aC)(o:IOp)(x y:Int)(h:o.kind=2->0<=o.k/\o.k<m.regs.length):YR.F (p1,f1,()) (m,o,x,y,()) (λz=>z=(if o.kind=1 then o.k else if o.kind=2 then((m.regs).getD (o.k).toNat default)else if o.kind=3 then wdo o.k x y else 0,())):=by
 dsimp only [YR,gm];simp (disch:=omega) only [RR,RB,MRB,a];simp_all
def goS(b:Blk)(v:List Int):Int:=if b.fin=1 then b.k else if b.fin=2 then((v).getD (b.x).toNat default)else if b.fin=3/\((v).getD (b.x).toNat default)=((v).getD (b.y).toNat default)then b.k else if b.fin=4/\((v).getD (b.x).toNat default)< ((v).getD (b.y).toNat default)then b.k else b.pc+b.len
def ava(b:Blk)(v:List Int)(d: -1000<=b.pc/\b.pc<=1000000)(c: -1000<=b.len/\b.len<=1000000)(e:b.fin≠1->0<=b.x/\b.x<v.length)(a:3<=b.fin->0<=b.y/\b.y<v.length):YS.F () (b,v,()) (λz=>z=(goS b v,())):=by
 dsimp only [YS,gm];simp (disch:=omega) only [RR,RB];unfold goS
 grind
noncomputable def rG (m:aC) (q:List Int) (left size:Int):Bool:=bp (size<=left/\m.count<=1000000-size/\∀k:Int,1<=k->k<size->m.count+k∉q)
def avb{p1 f1}(c:aeK p1 f1)(m:aC)(q:List Int)(left size:Int)(b:q.length<1000000000)(a:0<=m.count/\m.count<=2000000)(f: -1000<=size/\size<=1000000):YM.F (p1,f1,()) (m,q,left,size,()) (λy=>y=(rG m q left size,())):=by
 dsimp only [YM,gm];simp (disch:=omega) only [RR,MRB];refine⟨λg=>by unfold rG;rw [aV (λz=>by omega)],λg=> ?_⟩;refine ay (λ(y:List Int×Int×Int×aCa)=>y.1=q/\y.2.1=size/\1<=y.2.2.1/\(y.2.2.1<=size\/y.2.2.1=1)/\y.2.2.2.1=m/\∀k:Int,1<=k->k<y.2.2.1->m.count+k∉q) (λy=>(size-y.2.2.1).toNat) ⟨rfl,rfl,by simp,Or.inr rfl,rfl,λk h a=>absurd a (by simp;omega)⟩ ?_;rintro⟨(q:List Int),(s:Int),(k:Int),(m:aC),⟨⟩⟩ hI;dsimp only at hI ⊢;obtain⟨rfl,rfl,d,e,rfl,k3⟩:=hI;simp (disch:=omega) only [RR,c _ _ b]
 grind [rG,aJ,aV,aF,gK]
def avc(b:List Int)(k:Int)(a:By b)(g:0<=k)(f:k+1<b.length)(e:b.length<1000000000):YC.F () (b,k,()) (λy=>y=(((b).getD (k).toNat default)*256+((b).getD (k+1).toNat default),())):=by
 have B:=λk:Nat=>a.at k
 have c:∀k:Nat,IntKind.i64.wrap (b.getD k default)=b.getD k default:=λk=>by grind [w64]
 have d:=B k.toNat;have h:=B (k+1).toNat;dsimp only [YC,gm];simp (disch:=omega) only [RR,c];omega
def evR(m:aC)(b:Blk)(o:IOp)(x y:Int):aC×Int×Bool:=
 if o.kind=7 then({m with outs:=m.outs++ [x]},0,false)
 else if o.kind=6 then({m with ins:=m.ins.drop 1},m.ins.getD 0 0,false)
 else if 64<=x then(lvS m b o.at_ 3,0,true)
 else if o.kind=4 then(m,((m.mem).getD (x).toNat default),false)
 else if b.pc+o.at_<x/\x<b.pc+b.len then(lvS {m with mem:=m.mem.set x.toNat y} b (o.at_+1) 0,0,true)
 else({m with mem:=m.mem.set x.toNat y},0,false)
abbrev avd(z:aC×Int×Bool):aCk:=(z.1.pc,z.1.save,z.1.aL,z.1.waits,z.1.halt,z.1.ins,z.1.count,z.2.1,z.2.2,z.1.regs,z.1.mem,z.1.outs,())
theorem ave{B:aCr->Bool}{w:aCr->iK}{t:Blk×sj->Bool}{D:Blk×sj->lX}(E:∀(m:aC) (b:Blk) (n h:Int),0<=m.count/\m.count<=2000000->0<=n/\n<=1000-> -1000<=b.pc/\b.pc<=1000000->B (m.pc,m.save,m.aL,m.waits,m.halt,m.ins,m.count,b,n,h,m.regs,m.mem,m.outs,())=true/\w (m.pc,m.save,m.aL,m.waits,m.halt,m.ins,m.count,b,n,h,m.regs,m.mem,m.outs,())=mB (lvS m b n h))(C:∀(b:Blk) (a n:Int),0<=n/\n<=1000-> -1000<=b.pc/\b.pc<=1000000-> -1000<=b.len/\b.len<=1000000->t (b,a,n,())=true/\D (b,a,n,())=(decide (b.pc+n<a)&&decide (a<b.pc+b.len),()))(m:aC)(b:Blk)(o:IOp)(x y:Int)(hm:m.mem.length=64)(l:0<=x)(O:m.ins.length<1000000000)(N:m.outs.length<900000000)(L:0<=m.count/\m.count<=1000000)(K:0<=o.at_/\o.at_<=100)(j: -1000<=b.pc/\b.pc<=1000000)(A: -1000<=b.len/\b.len<=1000000):YP.F (B,w,t,D,()) (m.pc,m.save,m.aL,m.waits,m.halt,m.ins,m.count,b,o,x,y,m.regs,m.mem,m.outs,()) (λz=>z=avd (evR m b o x y)):=by
 have k:=λz1 z2 z3 z4 c d q=>(E z1 z2 z3 z4 c d q).1
 have f:=λz1 z2 z3 z4 c d q=>(E z1 z2 z3 z4 c d q).2
 have r:=λz1 z2 z3 z4 c d=>(C z1 z2 z3 z4 c d).1
 have s:=λz1 z2 z3 z4 c d=>(C z1 z2 z3 z4 c d).2
 unfold mB at f;have G:=k m b o.at_ 3 ah ah j;have I:=f m b o.at_ 3 ah ah j;have H:=r b x o.at_ ah j A;have J:=s b x o.at_ ah j A;have v:=k {m with mem:=m.mem.set x.toNat y} b (o.at_+1) 0 (show 0<=m.count/\m.count<=2000000 by omega) ah j;have u:=f {m with mem:=m.mem.set x.toNat y} b (o.at_+1) 0 (show 0<=m.count/\m.count<=2000000 by omega) ah j;dsimp only at v u;dsimp only [YP,gm];simp (disch:=omega) only [RR,RB,G,I,H,J,v,u,hm,fH];unfold evR;have M:(default:Int)=0:=rfl;refine⟨λe=>⟨by simp only [fA,fE];omega,by rw [eB e]⟩,λi=>⟨λe=>⟨λg=>⟨ah,g,ah,ah,ah,?_⟩,λg=> ?_⟩,λp=>⟨λg=>by rw [dY i,dY p,eB g],λg=>⟨λe=>⟨l,ah,l,ah,by rw [dY i,dY p,dY g,eB e]⟩,λF=>⟨l,ah,l,ah,λe=>by rw [dY i,dY p,dY g,dY F,eB e],λe=> ?_⟩⟩⟩⟩⟩
 .rw [dY i,eB e,take_of_length_le ah];rfl
 .have n:m.ins=[]:=eq_nil_of_length_eq_zero ah;rw [dY i,eB e,n];rfl
 .rw [dY i,dY p,dY g,dY F,dY (λz=>by rw [decide_eq_true z.1,decide_eq_true z.2]at e;cases e)]
noncomputable def dH (mem:List Int):Nat->Int->List Ins
 | 0,_=> []
 | n+1,p=>if bp (p<64/\(Wo ((mem).getD (p).toNat default)/\bg (bU ((mem).getD (p).toNat default)))/\(bU ((mem).getD (p).toNat default)).op≠0)=true then(if bp (11<=(bU ((mem).getD (p).toNat default)).op/\(bU ((mem).getD (p).toNat default)).op<=13)=true then [bU ((mem).getD (p).toNat default)]else bU ((mem).getD (p).toNat default)::dH mem n (p+1))else []
noncomputable def findF (m:aC):List Ins:=if bp (MOK m)=true then dH m.mem 8 m.pc else []
def yX(mem:List Int):∀(n:Nat) (p:Int),(dH mem n p).length<=n/\(0< (dH mem n p).length->p+(dH mem n p).length<=64)/\
  ∀i:Nat,i< (dH mem n p).length->bg ((dH mem n p).getD i default)/\((dH mem n p).getD i default).op≠0/\(11<=((dH mem n p).getD i default).op/\((dH mem n p).getD i default).op<=13->i+1=(dH mem n p).length)
 | 0,_=>⟨Nat.le_refl _,λh=>absurd h (by simp [dH]),λi a=>absurd a (by simp [dH])⟩
 | n+1,p=>by
  obtain⟨j,b,e⟩:=yX mem n (p+1);unfold dH;split
  .rename_i g;obtain⟨f,⟨d,k⟩,c⟩:=aF.1 g;split
   all_goals grind
  simp_all
def zo(m:aC):(findF m).length<=8/\(0< (findF m).length->MOK m/\ni m.pc (findF m)):=by
 unfold findF;split
 .rename_i g;have ok:=aF.1 g;have d:0<=m.pc/\m.pc<=65535:=ok.pc;obtain⟨c,a,b⟩:=yX m.mem 8 m.pc;exact⟨c,λh=>⟨ok,⟨ah,ah⟩,⟨ah,by have:=a h;omega⟩,b⟩⟩
 simp_all
def ao9{w:Int}(h:Wo w/\bg (bU w)):tkI w=((bU w).op,(bU w).d,(bU w).a,(bU w).k,true,()):=by unfold tkI;rw [eB (aJ h)]
theorem avf{p1 f1 p2 f2 p3 f3}(t:ajE p1 f1)(s:aa8 p2 f2)(r:QG p3 f3)(m:aC)(h:MSh m):Ym.F (p1,f1,p2,f2,p3,f3,()) (m,()) (λy=>y=(findF m,())):=by
 have f:=λz1=>(t z1).1
 have b:=λz1=>(t z1).2
 have l:=λz1=>(s z1).1
 have p:=λz1=>(s z1).2
 have k:=λz1 z2=>(r z1 z2).1
 have j:=λz1 z2=>(r z1 z2).2
 replace b:∀i:Int,f1 (i,())=(bp (11<=i/\i<=13),()):=λi=>by grind [Prod.ext_iff,bF,aF]
 have D:∀x y z u:Int,Co.mk .ins (x,y,z,u,())=⟨x,y,z,u⟩:=λ_ _ _ _=>rfl
 dsimp only [Ym,gm,jG];simp (disch:=omega) only [RR,MRB,k _ h,j _ h];refine⟨λg=>by unfold findF;rw [g];rfl,λg=> ?_⟩;have ok:=aF.1 g;have F:0<=m.pc/\m.pc<=65535:=ok.pc;have A:=ok.m64;have v:findF m=dH m.mem 8 m.pc:=by unfold findF;rw [g,eB rfl]
 rw [v];generalize C:dH m.mem 8 m.pc=G;refine ay (λ(y:Int×aC×aCg)=>0<=y.1/\y.1<=8/\y.2.1=m/\y.2.2.1.length<=y.1/\y.2.2.1++dH m.mem (8-y.1).toNat (m.pc+y.1)=G) (λy=>(8-y.1).toNat) ⟨by simp,by simp,rfl,by simp,by simpa using C⟩ ?_;rintro⟨(i:Int),(m:aC),(o:List Ins),⟨⟩⟩ hI;dsimp only at hI ⊢;obtain⟨I,E,rfl,H,a⟩:=hI;simp (disch:=omega) only [RR,f,b,l,p,MRB,A,fA,fE,eG,D];have w:IntKind.i64.wrap (m.pc+i)=m.pc+i:=w64 ah ah;refine⟨λc=> ?_,λc=> ?_⟩
 .obtain⟨n,hn⟩:∃n,(8-i).toNat=n+1:=⟨(8-i).toNat-1,ah⟩;rw [hn]at a;unfold dH at a;by_cases z:Wo ((m.mem).getD ((m.pc+i)).toNat default)/\bg (bU ((m.mem).getD ((m.pc+i)).toNat default))
  .rw [ao9 z];generalize hd:bU ((m.mem).getD ((m.pc+i)).toNat default)=d at*;have B:(⟨d.op,d.d,d.a,d.k⟩:Ins)=d:=rfl;dsimp only;rw [B];refine⟨ah,ah,λe=> ?_,λe=>⟨ah,λq=> ?_,λq=>⟨⟨ah,ah,ah,?_⟩,ah⟩⟩⟩
   .rw [dY (by rw [aV (λy=>y.2.2 (by simpa using e))];decide)]at a;rw [<-a,append_nil]
   .rw [eB (aJ ⟨ah,z,by simpa using e⟩),eB q]at a;rw [<-a]
   .rw [eB (aJ ⟨ah,z,by simpa using e⟩),dY (by rw [q];decide)]at a;rw [show(8- (i+1)).toNat=n by omega,<-a,append_assoc,show m.pc+(i+1)=m.pc+i+1 by omega];rfl
  .have tf:(tkI ((m.mem).getD ((m.pc+i)).toNat default)).2.2.2.2.1=false:=by unfold tkI;rw [dY (by rw [aV z];decide)]
   rw [dY (by rw [aV (λy=>z y.2.1)];decide),append_nil]at a;rw [tf];refine⟨ah,ah,λ_=>by rw [<-a],λe=>by simp at e⟩
 .have:o=G:=by
   rw [<-a];by_cases z:i<8
   .obtain⟨n,hn⟩:∃n,(8-i).toNat=n+1:=⟨(8-i).toNat-1,ah⟩;rw [hn];unfold dH;have c:=Bool.and_eq_false_iff.1 c;rw [decide_eq_false_iff_not,decide_eq_false_iff_not]at c;rw [dY (by rw [aV (λy=>by have:=y.1;omega)];decide),append_nil]
   .rw [show(8-i).toNat=0 by omega];unfold dH;rw [append_nil]
  rw [this]
variable{l:List Int}{b:Blk}{a:Ask}{cs:List Cer}
def aob{n i:Nat}(h:i<n):(rE l n).getD i default=rdO l (7+6*i):=by grind [getD_lt,rE,length_map,length_range]
theorem avg(o:By l)(t:7<=l.length)(u:(l.length-7)%6=0):QA (rdB l)=l:=by
 have B:=λk:Nat=>o.at k
 have r:(rdB l).ops.length=(l.length-7)/6:=by show(rE l _).length=_;unfold rE;simp_all
 have m:∀n,n<l.length->(QA (rdB l)).getD n default=l.getD n default:=λn hn=>by
  by_cases c:n<7
  .have h:=B 0;have b:=B 1;have p:=B 2;have g:=B 3;have q:=B 4;have d:=B 5;have s:=B 6;have e:n=0\/n=1\/n=2\/n=3\/n=4\/n=5\/n=6:=by omega
   rcases e with rfl | rfl | rfl | rfl | rfl | rfl | rfl
   .show l.getD 0 default%256=_;omega
   .show l.getD 1 default%256=_;omega
   .show l.getD 2 default%256=_;omega
   .show l.getD 3 default%256=_;omega
   .show l.getD 4 default%256=_;omega
   .show(l.getD 5 default*256+l.getD 6 default)/256%256=_;omega
   .show(l.getD 5 default*256+l.getD 6 default)%256=_;omega
  .obtain⟨i,j,hj,rfl⟩:∃i j,j<6/\n=7+6*i+j:=⟨(n-7)/6,(n-7)%6,ah,ah⟩;have a:i< (l.length-7)/6:=by omega
   rw [atP _ i j (by rw [r];exact a) hj];have f:(rdB l).ops.getD i default=rdO l (7+6*i):=aob a;rw [f];have h:=B (7+6*i);have b:=B (7+6*i+1);have p:=B (7+6*i+2);have g:=B (7+6*i+3);have q:=B (7+6*i+4);have d:=B (7+6*i+5);have e:j=0\/j=1\/j=2\/j=3\/j=4\/j=5:=by omega
   rcases e with rfl | rfl | rfl | rfl | rfl | rfl
   .show l.getD (7+6*i) default%256=l.getD (7+6*i) default;omega
   .show l.getD (7+6*i+1) default%256=_;omega
   .show l.getD (7+6*i+2) default%256=_;omega
   .show(l.getD (7+6*i+3) default*256+l.getD (7+6*i+4) default)/256%256=_;omega
   .show(l.getD (7+6*i+3) default*256+l.getD (7+6*i+4) default)%256=_;omega
   .show l.getD (7+6*i+5) default%256=_;omega
 grind [ext_getElem,ajy,getD_lt]
def TW(c:By l):ajw l↔(7<=l.length/\(l.length-7)%6=0/\l.length<=295)/\dB (rdB l):=by
 refine⟨λ⟨a,b⟩=>⟨a,?_⟩,λ⟨a,b⟩=>⟨a,?_⟩⟩
 all_goals grind [rdB,irB,aV,aJ,avg]
theorem avh{p1 f1}{m:lT->Bool}{v:lT->eu}(K:Y60 p1 f1)(i:∀b k,By b->0<=k->k+1< (b.length:Int)->b.length<1000000000->m (b,k,())=true/\v (b,k,())=(((b).getD (k).toNat default)*256+((b).getD (k+1).toNat default),()))(l:List Int)(d:By l)(a:l.length<1000000000):YD.F (p1,f1,m,v,()) (l,()) (λy=>y=rdF l):=by
 have B:=λk:Nat=>d.at k
 have c:∀k:Nat,IntKind.i64.wrap (l.getD k default)=l.getD k default:=λk=>by grind [w64]
 have no:¬ajw l->rdF l=(0,0,0,0,0,0,false,[],()):=λh=>by grind [rdF,aV]
 have A:7<=l.length->((l.length:Int)-7).tmod 6=((l.length-7)%6:Nat):=λh=>by grind
 dsimp only [YD,gm,jU];simp (disch:=omega) only [RR,c];refine⟨Or.inr (by decide),λh=> ?_,λg=> ?_⟩
 .rw [no];rintro⟨⟨s,o,N⟩,_⟩;rw [A s]at h;omega
 obtain⟨⟨s,o⟩,N⟩:=g;have t:7<=l.length:=by omega
 rw [A t]at o;have L:(l.length-7)%6=0:=by omega
 have atQ:l.length<=295:=by omega
 refine⟨ah,ah,ah,ah,ah,ah,ah,ah,ah,ah,(i l 5 d ah ah a).1,?_⟩;rw [(i l 5 d ah ah a).2];refine ay (λ(y:List Int×aCv)=>y.1=l/\(∃j:Nat,y.2.1=7+6*j/\7+6*j<=l.length/\y.2.2.2.2.2.2.2.2.2.2.2.2.2.2.1=rE l j)/\y.2.2.2.2.2.2.2.2.1=l.getD 0 default/\y.2.2.2.2.2.2.2.2.2.1=l.getD 1 default/\y.2.2.2.2.2.2.2.2.2.2.1=l.getD 2 default/\y.2.2.2.2.2.2.2.2.2.2.2.1=l.getD 3 default/\y.2.2.2.2.2.2.2.2.2.2.2.2.1=l.getD 4 default/\y.2.2.2.2.2.2.2.2.2.2.2.2.2.1=l.getD 5 default*256+l.getD 6 default) (λy=>(l.length-y.2.1).toNat) ⟨rfl,⟨0,rfl,ah,rfl⟩,rfl,rfl,rfl,rfl,rfl,rfl⟩ ?_;rintro⟨(l:List Int),(E:Int),(z1:Int),(z2:Int),(z3:Int),(z4:Int),(P:Int),(R:Int),(S:Int),(len:Int),(fin:Int),(x:Int),(y:Int),(k:Int),(H:List IOp),⟨⟩⟩ hI;dsimp only at hI ⊢;obtain⟨rfl,⟨j,rfl,O,rfl⟩,rfl,rfl,rfl,rfl,rfl,rfl⟩:=hI;have Q:(rE l j).length=j:=by unfold rE;simp_all
 by_cases h:7+6*(j:Int)<l.length
 .have w:IntKind.i64.wrap (7+6*(j:Int)+3)=7+6*(j:Int)+3:=w64 ah ah;obtain⟨G,J⟩:=i l (7+6*(j:Int)+3) d ah ah a;have M:∀x:IOp,([x].length:Int)=1:=λ_=>rfl
  simp (disch:=omega) only [RR,h,c,G,J,M];have I:rE l (j+1)=rE l j++ [rdO l (7+6*j)]:=by unfold rE;rw [range_succ,map_append];rfl
  repeat' apply And.intro
  all_goals first | omega | exact⟨j+1,ah,ah,by rw [I];rfl⟩
 .have e:7+6*j=l.length:=by omega
  have f:(⟨l.getD 0 default,l.getD 1 default,rE l j,l.getD 2 default,l.getD 3 default,l.getD 4 default,l.getD 5 default*256+l.getD 6 default⟩:Blk)=rdB l:=by
   unfold rdB;rw [show(l.length-7)/6=j by omega]
  have mE:∀(C D:Int) (p:List IOp) (r q u n:Int),Co.mk .blk (C,D,p,r,q,u,n,())=⟨C,D,p,r,q,u,n⟩:=λ_ _ _ _ _ _ _=>rfl
  have F:(rdB l).ops.length<1000000000:=by
   rw [<-f];show(rE l j).length<_;omega
  simp (disch:=omega) only [RR,h,mE,f,K _ F];refine⟨λg=> ?_,λg=> ?_⟩
  .rw [no];intro z;rw [aJ ((TW d).1 z).2]at g;cases g
  .unfold rdF;rw [eB (aJ ((TW d).2 ⟨⟨t,L,atQ⟩,aF.1 g⟩)),<-f]
noncomputable def mdF (b:Blk) (a:Ask):Blk×Bool:=if a.own=true then(zf b,true)else if bp (ajw a.bytes)=true then(rdB a.bytes,true)else(TG,false)
theorem avi{p1 f1 p2 f2}(d:aza p1 f1)(j:Y81 p2 f2)(b:Blk)(a:Ask)(h:b.ops.length<1000000)(e:By a.bytes)(f:a.bytes.length<1000000000):YE.F (p1,f1,p2,f2,()) (b,a,()) (λy=>y=((mdF b a).1,(mdF b a).2,())):=by
 have mE:∀c:Blk,Co.mk .blk (c.pc,c.len,c.ops,c.fin,c.x,c.y,c.k,())=c:=λ_=>rfl
 have k:∀a:Ask,LW .ask 0 a=a.own/\jN .ask 1 .u8 a=a.bytes:=λ_=>⟨rfl,rfl⟩
 have i:=(d a.bytes e f).2;dsimp only [YE,gm,jU];simp (disch:=omega) only [RR,k,mE,(d _ e f).1,j _ h];unfold mdF;refine⟨λg=>by rw [g];rfl,λg=> ?_⟩;rw [g,dY (by decide),i];unfold rdF;split<;>rfl
theorem abe(h:b.ops.length<1000000)(c:a.bytes.length<1000000000):(mdF b a).1.ops.length<1000000:=by
 have L:=Fh b;unfold mdF;split
 .dsimp only;omega
 split
 .rename_i g;have:=(aF.1 g).1;show(rE _ _).length<_;unfold rE;grind
 .decide
noncomputable def iU (cs:List Cer) (b:Blk) (a:Ask):Blk×List Cer:=
 if(mdF b a).2=false then(b,cs)else if bp (Gx cs b (mdF b a).1)=true then((mdF b a).1,cs)else if chk b (mdF b a).1=true then((mdF b a).1,Fj cs ⟨b,(mdF b a).1⟩)else(b,cs)
theorem aoc{l:List Cer}{q:Cer}(h:ShC l)(b:q.base.ops.length<1000000)(a:q.made.ops.length<1000000):ShC (Fj l q):=by
 unfold Fj;have:=h.1;refine⟨by rw [length_drop,eG,length_singleton];omega,λc hc=> ?_⟩;have:=mem_of_mem_drop hc;rw [mem_append,mem_singleton]at this;rcases this with g | rfl
 .exact h.2 c g
 .exact⟨b,a⟩
def avj{p1 f1 p2 f2 p3 f3}{j:Blk×Ask×Unit->Bool}{m:Blk×Ask×Unit->Blk×lX}(w:ayW p1 f1)(v:ay4 p2 f2)(u:Y96 p3 f3)(l:∀b a,b.ops.length<1000000->By a.bytes->a.bytes.length<1000000000->j (b,a,())=true/\m (b,a,())=((mdF b a).1,(mdF b a).2,()))(e:Eng)(b:Blk)(a:Ask)(h:ShC e.aQ)(c:b.ops.length<1000000)(n:By a.bytes)(f:a.bytes.length<1000000000):YH.F (p1,f1,p2,f2,p3,f3,j,m,()) (e.aj.regs,e.aj.pc,e.aj.mem,e.aj.save,e.aj.aL,e.aj.waits,e.aj.halt,e.aj.ins,e.aj.outs,e.aj.count,e.cache,b,a,e.aQ,()) (λy=>y=(e.aj.regs,e.aj.pc,e.aj.mem,e.aj.save,e.aj.aL,e.aj.waits,e.aj.halt,e.aj.ins,e.aj.outs,e.aj.count,e.cache,(iU e.aQ b a).1,(iU e.aQ b a).2,())):=by
 have M:=abe (a:=a) c f;have p:=(l b a c n f).2;unfold iU;generalize hm:mdF b a=d at*;obtain⟨q,o⟩:=u b d.1 ah ah;obtain⟨r,t⟩:=w _ b d.1 h;obtain⟨s,i⟩:=v e.aQ ⟨b,d.1⟩ h c M;have i:(f2 (e.aQ,⟨b,d.1⟩,())).1=Fj e.aQ ⟨b,d.1⟩:=by rw [i]
 dsimp only [YH,gm,jU,jG];simp (disch:=omega) only [RR,RB,(l b a c n f).1,p,r,t,q,o];refine⟨λg=>by rw [eB g],λg=>⟨λk=>by rw [dY (by rw [g];decide),eB k],λk=>⟨λz=>by rw [dY (by rw [g];decide),dY (by rw [k];decide),dY (by rw [z];decide)],λz=>⟨s,by
  rw [dY (by rw [g];decide),dY (by rw [k];decide),eB z];show(_,_,_,_,_,_,_,_,_,_,_,_,(f2 (e.aQ,⟨b,d.1⟩,())).1,())=_;rw [i]⟩⟩⟩⟩
def QN(h:ShC cs)(d:b.ops.length<1000000)(c:a.bytes.length<1000000000):(iU cs b a).1.ops.length<1000000/\ShC (iU cs b a).2:=by grind [abe,iU,aoc]
def ajU(a:Int)(l:List Ins):(lower a l).pc<=1000000:=by
 by_cases h:ni a l
 .have:=(ku h).pc;have:=(ku h).ln;omega
 .unfold lower;rw [dY (by rw [aV h];decide)];decide
def adA(h:uY cs):(iU cs b a).1=b\/chk b (iU cs b a).1=true:=by
 unfold iU;split
 .exact Or.inl rfl
 split
 .rename_i g;obtain⟨q,c,d,e⟩:=aF.1 g;refine Or.inr ?_;have:=h.2 q c;simp_all
 grind
def adB{l:List Cac}{e:Cac}(h:ShK l)(b:e.words.length<1000)(a:e.blk.ops.length<1000000)(d:e.blk.pc<=1000000):ShK (kR l e)/\0< (kR l e).length:=by
 unfold kR;have f:=length_filter_le (neP e.blk.pc) l;refine⟨⟨by rw [length_drop,eG,length_singleton];omega,λc hc=> ?_⟩,by rw [length_drop,eG,length_singleton];omega⟩;have:=mem_of_mem_drop hc;rw [mem_append,mem_singleton]at this;rcases this with g | rfl
 .exact h.2 c (mem_filter.1 g).1
 .exact⟨b,a,d⟩
def fcI(l:List Cac)(a:Int):Int:=match l.findIdx? (λx=>decide (x.blk.pc=a))with | some i=>i | none=> -1
def QO(l:List Cac)(a:Int):FC l a (fcI l a):=by
 unfold fcI;split
 .rename_i i h;obtain⟨e,d,f⟩:=List.findIdx?_eq_some_iff_getElem.1 h;refine Or.inr ⟨ah,ah,?_,λj c b=> ?_⟩
  all_goals grind
 .rename_i h;rw [findIdx?_eq_none_iff]at h;refine Or.inl ⟨rfl,λj c b=> ?_⟩;simp_all
noncomputable def cB (e:Eng) (a:Ask):Eng×Int×Bool:=
 if 0<=fcI e.cache e.aj.pc then(e,fcI e.cache e.aj.pc,false)else if(findF e.aj).length=0 then(e, -1,false)else
  (⟨e.aj,kR e.cache ⟨(findF e.aj).map fK,(iU e.aQ (lower e.aj.pc (findF e.aj)) a).1⟩,(iU e.aQ (lower e.aj.pc (findF e.aj)) a).2⟩,((kR e.cache ⟨(findF e.aj).map fK,(iU e.aQ (lower e.aj.pc (findF e.aj)) a).1⟩).length:Int)-1,true)
abbrev avk(b:aCa->Bool)(a:aCa->aCg):Prop:=∀m,MSh m->b (m,())=true/\a (m,())=(findF m,())
abbrev aBu(b:F3->Bool)(a:F3->vw):Prop:=∀l e,ShK l->e.words.length<1000->e.blk.ops.length<1000000->b (l,e,())=true/\a (l,e,())=(kR l e,())
theorem avl{p1 f1 p2 f2 p3 f3 p4 f4 p5 f5}{E:Sk->Bool}{L:Sk->List Int×Int×List Int×Int×Bool×Bool×Int×List Int×List Int×Int×List Cac×Blk×qj}(O:avk p1 f1)(K:an5 p2 f2)(J:auG p3 f3)(N:au6 p4 f4)(H:aBu p5 f5)(I:∀(e:Eng) (b:Blk) (a:Ask),ShC e.aQ->b.ops.length<1000000->By a.bytes->a.bytes.length<1000000000->E (e.aj.regs,e.aj.pc,e.aj.mem,e.aj.save,e.aj.aL,e.aj.waits,e.aj.halt,e.aj.ins,e.aj.outs,e.aj.count,e.cache,b,a,e.aQ,())=true/\L (e.aj.regs,e.aj.pc,e.aj.mem,e.aj.save,e.aj.aL,e.aj.waits,e.aj.halt,e.aj.ins,e.aj.outs,e.aj.count,e.cache,b,a,e.aQ,())=(e.aj.regs,e.aj.pc,e.aj.mem,e.aj.save,e.aj.aL,e.aj.waits,e.aj.halt,e.aj.ins,e.aj.outs,e.aj.count,e.cache,(iU e.aQ b a).1,(iU e.aQ b a).2,()))(e:Eng)(a:Ask)(G:MSh e.aj)(h:ShK e.cache)(w:ShC e.aQ)(P:By a.bytes)(u:a.bytes.length<1000000000):YL.F (p1,f1,p2,f2,p3,f3,p4,f4,p5,f5,E,L,()) (e.aj.regs,e.aj.pc,e.aj.mem,e.aj.save,e.aj.aL,e.aj.waits,e.aj.halt,e.aj.ins,e.aj.outs,e.aj.count,e.cache,a,e.aQ,()) (λy=>y=((cB e a).1.aj.regs,(cB e a).1.aj.pc,(cB e a).1.aj.mem,(cB e a).1.aj.save,(cB e a).1.aj.aL,(cB e a).1.aj.waits,(cB e a).1.aj.halt,(cB e a).1.aj.ins,(cB e a).1.aj.outs,(cB e a).1.aj.count,(cB e a).1.cache,(cB e a).2.1,(cB e a).2.2,(cB e a).1.aQ,())):=by
 have f:=λz1 z2=>(O z1 z2).1
 have D:=λz1 z2=>(O z1 z2).2
 have s:=λz1 z2 z3=>(K z1 z2 z3).1
 have C:=λz1 z2 z3=>(K z1 z2 z3).2
 have q:=λz1 z2=>(J z1 z2).1
 have m:=λz1 z2=>(J z1 z2).2
 have x:=λz1 z2 z3=>(N z1 z2 z3).1
 have t:=λz1 z2 z3=>(N z1 z2 z3).2
 have p:=λz1 z2 z3 z4 d=>(H z1 z2 z3 z4 d).1
 have r:=λz1 z2 z3 z4 d=>(H z1 z2 z3 z4 d).2
 have o:=λz1 z2 z3 z4 d v j=>(I z1 z2 z3 z4 d v j).1
 have i:=λz1 z2 z3 z4 d v j=>(I z1 z2 z3 z4 d v j).2
 have mM:=MKM;have mE:∀c:Blk,Co.mk .blk (c.pc,c.len,c.ops,c.fin,c.x,c.y,c.k,())=c:=λ_=>rfl
 have l2:=h.1;have R:=x e.cache e.aj.pc ah;have U:(f4 (e.cache,e.aj.pc,())).1=fcI e.cache e.aj.pc:=FC.one (t e.cache e.aj.pc ah) (QO _ _);have B:=zo e.aj;have W:=f _ G;have Y:=D _ G;unfold cB;generalize fcI e.cache e.aj.pc=k at*;generalize findF e.aj=l at*;have X:=s e.aj.pc l ah;have M:=C e.aj.pc l ah;have lw:((lower e.aj.pc l).ops.length:Int)<=5000:=by have:=QJ M;simp_all
 generalize lower e.aj.pc l=b at*;have P6:=o e b a w ah P u;have Q:=i e b a w ah P u;have A:=QN (a:=a) w (show b.ops.length<1000000 by omega) u;generalize iU e.aQ b a=z at*;have V:=q l ah;have T:=m l ah;have F:(l.map fK).length<1000:=by rw [length_map];omega
 have Z:=p e.cache ⟨l.map fK,z.1⟩ h F A.1;have S:=r e.cache ⟨l.map fK,z.1⟩ h F A.1;have kl:(kR e.cache ⟨l.map fK,z.1⟩).length<=e.cache.length+1:=by
  unfold kR;have fl:=length_filter_le (neP z.1.pc) e.cache;rw [length_drop,eG,length_singleton];dsimp only;omega
 have mK:Co.mk .cac (l.map fK,z.1.pc,z.1.len,z.1.ops,z.1.fin,z.1.x,z.1.y,z.1.k,())=(⟨l.map fK,z.1⟩:Cac):=rfl;dsimp only [YL,gm,jU,jG]at*;simp (disch:=omega) only [RR,RB,mM,R,U,W,Y,X,M,mE,P6,Q,V,T,mK,Z,S];refine⟨λn=>by rw [eB n],λn=>⟨λg=>by rw [dY ah,eB ah],λg=> ?_⟩⟩;rw [dY ah,dY ah]
end Go.TX.F
namespace Go.TX.F
open Go Go.AE Go.TX List
theorem avm(n:Int)(b:List Int)(a:0<=n)(d:n<=1000000)(e:b.length<1000000000):Zb.F () (n,b,()) (λy=>y=(b++ [n/256%256,n%256],())):=by
 have c:∀x:Int,Co.mk .u8 (x,())=x:=λ_=>rfl
 dsimp only [Zb,gm];simp (disch:=omega) only [RR,c,u8w];rw [Int.tmod_eq_emod_of_nonneg a,Int.tdiv_eq_ediv_of_nonneg a,w64 ah ah,Int.emod_emod];exact⟨by decide,by decide,by simp only [fA,fE];omega,rfl⟩
def aBv{b:Blk}(h:dB b):0<=b.k/\b.k<=1000000:=by
 have:=h.en.k1;have:=h.en.k0;omega
def opk{a:List IOp}{n i:Int}{o:IOp}(h:pU a n i o):0<=o.k/\o.k<=1000000:=by
 have:=h.kd;have:=h.k1;have:=h.k2;have:=h.k3;have:=h.k0;omega
theorem avn{p1 f1}{j:Int×bn->Bool}{l:Int×bn->bn}(o:Y60 p1 f1)(d:∀n b,0<=n->n<=1000000->b.length<1000000000->j (n,b,())=true/\l (n,b,())=(b++ [n/256%256,n%256],()))(b:Blk)(m:b.ops.length<1000000000):Zc.F (p1,f1,j,l,()) (b,()) (λy=>y=(irB b,())):=by
 have p:∀x:Int,Co.mk .u8 (x,())=x:=λ_=>rfl
 dsimp only [Zc,gm];simp (disch:=omega) only [RR,RB,o b m,p,u8w];refine⟨λh=>by unfold irB;rw [h];rfl,λh=> ?_⟩;have ok:=aF.1 h;have r:=ok.sz;have a:=aBv ok;rw [(d _ _ a.1 a.2 (by simp only [fA,fE];omega)).1,(d _ _ a.1 a.2 (by simp only [fA,fE];omega)).2];refine⟨rfl,?_⟩;refine ay (λ(y:Int×Blk×bn)=>y.2.1=b/\0<=y.1/\y.1<=b.ops.length/\y.2.2.1=[b.pc%256,b.len%256,b.fin%256,b.x%256,b.y%256,b.k/256%256,b.k%256]++(b.ops.take y.1.toNat).flatMap opB) (λy=>(b.ops.length-y.1).toNat) ⟨rfl,by simp,by simp,by simp⟩ ?_;rintro⟨(i:Int),(c:Blk),(e:List Int),⟨⟩⟩ hI;dsimp only at hI ⊢;obtain⟨rfl,k,q,f⟩:=hI;have al:e.length<=1000:=by
  rw [f,eG,zh];have:=length_take_le' i.toNat c.ops;simp only [fA,fE];omega
 refine⟨λg=> ?_,λg=> ?_⟩
 .have ko:=opk (ok.op i k g);rw [(d _ _ ko.1 ko.2 (by simp only [eG,fA,fE];omega)).1,(d _ _ ko.1 ko.2 (by simp only [eG,fA,fE];omega)).2];simp (disch:=omega) only [RR,eG,fA,fE];refine⟨k,g,ah,ah,⟨ah,ah,?_⟩,ah⟩;rw [f,show(i+1).toNat=i.toNat+1 by omega,take_succ_eq_append_getElem ah,flatMap_append,getD_lt (show i.toNat<c.ops.length by omega)];simp only [append_assoc];rfl
 .rw [f,take_of_length_le ah];unfold irB;rw [h];rfl
structure TuD(b l:List Int)(p:Int)(y:wz):Prop where
 b:y.1=b
 p:p<=y.2.1/\y.2.1<=p+20
 l:By y.2.2.1/\y.2.2.1.length<=l.length+1
theorem avo{p1 f1}(d:Y38 p1 f1)(l:List Int)(b:List Int)(p:Int)(f:By l)(h:l.length<100000000)(c:Bt b)(e:0<=p)(m:p<900000000):Ze.F (p1,f1,()) (l,b,p,()) (λy=>TuD b l p y):=by
 have w:∀x:Int,Co.mk .u8 (x,())=x:=λ_=>rfl
 dsimp only [Ze,gm];have R:=pkS c d;have P:=λn p e m=>(d n b p c e m).1
 have t:=(d 256 b p c e ah).2;have i:=(d 256 b (p+1) c ah ah).2;simp (disch:=omega) only [RR,w,u8w,R,P];have C:=t.2.2;have E:=i.2.2;generalize (f1 (256,b,p,())).1=u at*;generalize (f1 (256,b,p+1,())).1=v at*;have r:IntKind.i64.wrap (u*256)=u*256:=w64 ah ah;have z:IntKind.i64.wrap (u*256+v)=u*256+v:=w64 ah ah;rw [r,z];refine⟨λ_=>⟨rfl,⟨by dsimp only;omega,by dsimp only;omega⟩,λx a=> ?_,by simp⟩,λn=>⟨n,?_⟩⟩
 .dsimp only at a;rw [mem_singleton]at a;omega
 have D:0<=(u*256+v).tmod l.length:=Int.tmod_nonneg _ ah;have A:(u*256+v).tmod l.length<l.length:=Int.tmod_lt_of_pos _ ah;generalize (u*256+v).tmod l.length=k at*;have o:∀x∈l.take k.toNat,0<=x/\x<=255:=λx a=>f x (mem_of_mem_take a)
 have s:IntKind.i64.wrap (k+1)=k+1:=w64 ah ah;rw [s];simp only [eG,length_drop,length_take,fE,fA,Int.toNat_zero,drop_zero,nil_append,Int.toNat_natCast,take_length];have q:∀j,∀x∈l.drop j,0<=x/\x<=255:=λj x a=>f x (mem_of_mem_drop a)
 have B:=((d 2 b (p+1+1+1+1+1) c ah ah).2).2.2;refine⟨λ_=>⟨ah,ah,ah,ah,ah,ah,ah,ah,ah,⟨rfl,⟨by dsimp only;omega,by dsimp only;omega⟩,λx a=> ?_,?_⟩⟩,λ_=>⟨λ_=>⟨ah,ah,ah,ah,ah,ah,ah,ah,ah,ah,⟨rfl,⟨by dsimp only;omega,by dsimp only;omega⟩,λx a=> ?_,?_⟩⟩,λ_=>⟨ah,ah,ah,ah,ah,ah,ah,⟨rfl,⟨by dsimp only;omega,by dsimp only;omega⟩,λx a=> ?_,?_⟩⟩⟩⟩
 .rcases mem_append.1 a with g | g
  .exact o x g
  .exact q _ x g
 .dsimp only;rw [eG,length_take,length_drop];omega
 .rcases mem_append.1 a with g | g
  .rcases mem_append.1 g with g | g
   .exact o x g
   .rw [mem_singleton]at g;omega
  .exact q _ x g
 .dsimp only;rw [eG,eG,length_take,length_drop,length_singleton];omega
 .rcases mem_or_eq_of_mem_set a with g | g
  .exact f x g
  .omega
 .dsimp only;rw [length_set];omega
structure AsD(b:List Int)(p:Int)(y:Bool×wz):Prop where
 b:y.2.1=b
 p:p<=y.2.2.1/\y.2.2.1<=p+2000000
 l:By y.2.2.2.1/\y.2.2.2.1.length<200000000
def Ia{b:Blk}(h:b.ops.length<=1000000):(irB b).length<100000000:=by
 unfold irB;split
 .unfold QA;rw [eG,zh];simp only [fA,fE];omega
 .simp
theorem avp{p1 f1 p2 f2 p3 f3 p4 f4 p5 f5 p6 f6 p7 f7 p8 f8}{F:aCt->Bool}{G:aCt->wz}(X:avk p1 f1)(Q:an5 p2 f2)(i:ay8 p3 f3)(V:Y81 p4 f4)(w:Y38 p5 f5)(f:Y83 p6 f6)(s:Y84 p7 f7)(C:Y86 p8 f8)(v:∀l b p,By l->l.length<100000000->Bt b->0<=p->p<900000000->F (l,b,p,())=true/\TuD b l p (G (l,b,p,())))(m:aC)(b:List Int)(p:Int)(h:MSh m)(a:Bt b)(u:0<=p)(r:p<500000000):Qh.F (p1,f1,p2,f2,p3,f3,p4,f4,p5,f5,p6,f6,p7,f7,p8,f8,F,G,()) (m,b,p,()) (λ(y:Bool×wz)=>AsD b p y):=by
 have t:∀x:Int,Co.mk .u8 (x,())=x:=λ_=>rfl
 have mE:∀c:Blk,Co.mk .blk (c.pc,c.len,c.ops,c.fin,c.x,c.y,c.k,())=c:=λ_=>rfl
 have R:=pkS a w;have P:=λn p u r=>(w n b p a u r).1
 obtain⟨E,A⟩:=X m h;have B:=zo m;have no:AsD b p (true,b,p+1,[],()):=⟨rfl,⟨by dsimp only;omega,by dsimp only;omega⟩,λx j=>(by cases j),by simp⟩;generalize findF m=l at*;by_cases n:0<l.length
 .have ir:=ku (B.2 n).2;have sz:=ir.sz;obtain⟨O,U⟩:=Q m.pc l ah;generalize lower m.pc l=c at*;obtain⟨I,J⟩:=V c ah;have o:=aeI c;have L:=Fh c;generalize zf c=d at*;dsimp only [Qh,gm,jG,jU];simp (disch:=omega) only [RR,t,u8w,MRB,R,P,E,A,O,U,mE,I,J];have W:∀(z:yw) (M:Int) (N:Nat) (q:Int),BkD M N b q z->N<=1000000->M<=1000000->p<=q->q<=p+2->p3 (Co.mk .blk (z.1,z.2.1,z.2.2.2.2.2.2.2.2.1,z.2.2.1,z.2.2.2.1,z.2.2.2.2.1,z.2.2.2.2.2.1,()),())=true/\AsD b p (false,z.2.2.2.2.2.2.1,z.2.2.2.2.2.2.2.1,(f3 (Co.mk .blk (z.1,z.2.1,z.2.2.2.2.2.2.2.2.1,z.2.2.1,z.2.2.2.1,z.2.2.2.2.1,z.2.2.2.2.2.1,()),())).1,()):=by
   intro z M N q D a1 a2 a3 a4;have d1:=D.len;have Z:=D.lo;have k:=D.hi;have K:z.2.2.2.2.2.2.2.2.1.length<1000000000:=by omega
   have e:=(i (Co.mk .blk (z.1,z.2.1,z.2.2.2.2.2.2.2.2.1,z.2.2.1,z.2.2.2.1,z.2.2.2.2.1,z.2.2.2.2.2.1,())) K).2;refine⟨(i _ K).1,D.b,⟨by dsimp only;omega,by dsimp only;omega⟩,?_⟩;dsimp only;rw [e];exact⟨Kk _,Nat.lt_of_lt_of_le (Ia (show z.2.2.2.2.2.2.2.2.1.length<=1000000 by omega)) (by decide)⟩
  obtain⟨S,k3⟩:=i c ah;obtain⟨k,H⟩:=i d ah;have T:=(v (irB c) b (p+1+1) (Kk c) (Ia ah) a ah ah).2;rw [k3,H];have tl:=Ia (b:=c) ah;have T1:=T.p;have Y:=T.l;refine⟨λ_=>no,λ_=>⟨λ_=>⟨(C d b _ o ah a ah ah).1,W _ _ _ _ ((C d b (p+1+1) o ah a ah ah).2) ah ah ah ah⟩,λ_=>⟨λ_=>⟨(f c b _ ah a ah ah).1,W _ _ _ _ ((f c b (p+1+1) ah a ah ah).2).1 ah ah ah ah⟩,λ_=>⟨λ_=>⟨(f d b _ ah a ah ah).1,W _ _ _ _ ((f d b (p+1+1) ah a ah ah).2).1 ah ah ah ah⟩,λ_=>⟨λ_=>⟨S,(v _ b _ (Kk c) tl a ah ah).1,T.b,⟨by dsimp only;omega,by dsimp only;omega⟩,Y.1,by dsimp only;omega⟩,λ_=>⟨λ_=>⟨(s b _ a ah ah).1,W _ _ _ _ ((s b (p+1+1) a ah ah).2) ah ah ah ah⟩,λ_=>⟨λ_=>⟨rfl,⟨by dsimp only;omega,by dsimp only;omega⟩,λx j=> ?_,by simp⟩,λ_=>⟨k,rfl,⟨by dsimp only;omega,by dsimp only;omega⟩,Kk d,Nat.lt_of_lt_of_le (Ia ah) (by decide)⟩⟩⟩⟩⟩⟩⟩⟩;dsimp only at j;rw [mem_singleton]at j;omega
 .dsimp only [Qh,gm,jG,jU];simp (disch:=omega) only [RR,t,u8w,MRB,R,P,E,A];exact⟨λ_=>no,λg=>absurd (Int.natCast_eq_zero.2 ah) g.2⟩
structure SJ(b:Blk)(m0:aC)(i:Nat)(S:MS):Prop where
 r:RJ b m0 i S
 p:S.m.pc=m0.pc
 h:S.m.halt=m0.halt
 c:S.m.count=m0.count
abbrev yS(b:Blk)(i:Int)(S:MS):yt:=(i,b,0,0,false,false,0,0,S.m.pc,S.m.save,S.m.aL,S.m.waits,S.m.halt,S.m.ins,S.m.count,S.vals,S.m.regs,S.m.mem,S.m.outs,())
abbrev azL(z:aC×Bool):Eo:=(z.1.pc,z.1.save,z.1.aL,z.1.waits,z.1.halt,z.1.ins,z.1.count,z.2,z.1.regs,z.1.mem,z.1.outs,())
def SIv(b:Blk)(a:aC)(y:yt):Prop:=∃(i:Nat) (S:MS),i<=b.ops.length/\SJ b a i S/\y=yS b i S
def SIv.next{b:Blk}{a:aC}{i:Nat}{S:MS}{o:IOp}{y:yt}(h:SJ b a i S)(c:i<b.ops.length)(g:b.ops.getD i default=o)(d:o.kind=1->0<=o.k/\o.k<=65535)
  (j:¬((o.kind=4\/o.kind=5)/\64<=vx S o)) (f:¬(o.kind=5/\b.pc+o.at_+1<=vx S o/\vx S o<=b.pc+b.len-1))
  (e:y=yS b ((i:Int)+1) ⟨mM S o,S.vals++ [mV S o],false⟩):SIv b a y/\(b.ops.length-y.1).toNat< (b.ops.length- (i:Int)).toNat:=by
 subst e;have k:=HZ (s:=S) o;exact⟨⟨i+1,_,c,⟨h.r.next c g d j f,k.1.trans h.p,k.2.1.trans h.h,k.2.2.trans h.c⟩,rfl⟩,by dsimp only;omega⟩
def Kv{b:Blk}{m:aC}(c:dB b)(a:MOK m)(h:¬(m.halt≠0\/m.pc≠b.pc\/1000000-b.len<m.count)):eZ b m=(qE b (b.ops.foldl (aK b) ⟨m,[],false⟩),true):=by
 unfold eZ;rw [eB (aJ ⟨c,a⟩),dY h]
set_option maxHeartbeats 4000000 in
theorem avq{p1 f1 p2 f2 p3 f3 p4 f4}{p5:aCl->Bool}{f5:aCl->aCk}{p6:Blk×bn->Bool}{f6:Blk×bn->eu}{p7:aC×IOp×sj->Bool}{f7:aC×IOp×sj->eu}(U1:Y60 p1 f1)(U2:QG p2 f2)(U3:aa5 p3 f3)(U4:aBt p4 f4)(U5:∀(m:aC) (b:Blk) (o:IOp) (x y:Int),m.mem.length=64->0<=x->m.ins.length<1000000000->m.outs.length<900000000->0<=m.count/\m.count<=1000000->0<=o.at_/\o.at_<=100-> -1000<=b.pc/\b.pc<=1000000-> -1000<=b.len/\b.len<=1000000->p5 (m.pc,m.save,m.aL,m.waits,m.halt,m.ins,m.count,b,o,x,y,m.regs,m.mem,m.outs,())=true/\f5 (m.pc,m.save,m.aL,m.waits,m.halt,m.ins,m.count,b,o,x,y,m.regs,m.mem,m.outs,())=avd (evR m b o x y))(U6:∀(b:Blk) (v:List Int), -1000<=b.pc/\b.pc<=1000000-> -1000<=b.len/\b.len<=1000000->(b.fin≠1->0<=b.x/\b.x<v.length)->(3<=b.fin->0<=b.y/\b.y<v.length)->p6 (b,v,())=true/\f6 (b,v,())=(goS b v,()))(U7:∀(m:aC) (o:IOp) (x y:Int),(o.kind=2->0<=o.k/\o.k<m.regs.length)->p7 (m,o,x,y,())=true/\f7 (m,o,x,y,())=(if o.kind=1 then o.k else if o.kind=2 then((m.regs).getD (o.k).toNat default)else if o.kind=3 then wdo o.k x y else 0,()))(b:Blk)(m:aC)(T:MSh m)(hb:b.ops.length<1000000000)(ho:m.outs.length<800000000):YT.F (p1,f1,p2,f2,p3,f3,p4,f4,p5,f5,p6,f6,p7,f7,()) (b,m,()) (λy=>y=azL (eZ b m)):=by
 have a7:=λz1 z2=>(U1 z1 z2).1
 have b0:=λz1 z2=>(U1 z1 z2).2
 have a6:=λz1 z2=>(U2 z1 z2).1
 have a4:=λz1 z2=>(U2 z1 z2).2
 have a2:=λz1 z2=>(U3 z1 z2).1
 have O:=λz1 z2=>(U3 z1 z2).2
 have a:=λz1 z2=>(U4 z1 z2).1
 have a3:=λz1 z2=>(U4 z1 z2).2
 have a9:=λz1 z2 z3 z4 r H z7 z8 z9 C K I D=>(U5 z1 z2 z3 z4 r H z7 z8 z9 C K I D).1
 have P:=λz1 z2 z3 z4 r H z7 z8 z9 C K I D=>(U5 z1 z2 z3 z4 r H z7 z8 z9 C K I D).2
 have a5:=λz1 z2 z3 z4 r H=>(U6 z1 z2 z3 z4 r H).1
 have a8:=λz1 z2 z3 z4 r H=>(U6 z1 z2 z3 z4 r H).2
 have E:=λz1 z2 z3 z4 r=>(U7 z1 z2 z3 z4 r).1
 have F:=λz1 z2 z3 z4 r=>(U7 z1 z2 z3 z4 r).2
 unfold m10 at O;unfold avd at P;have j:=MKM;dsimp only [YT,gm,jG,jU];simp (disch:=omega) only [RR,RB,MRB,a7 b hb,b0 b hb,a6 m T,a4 m T,a2 m T,O m T];refine⟨λg=> ?_,λg=> ?_⟩
 .unfold eZ;rw [dY]
  .rfl
  .intro z;have z:=aF.1 z;rw [aJ z.1,aJ z.2]at g;rcases g with g | g<;>cases g
 have u:=aF.1 g.1;have L:=aF.1 g.2;have bl:=u.ln;have cw:=L.ct;have sz:=u.sz;have b2:=u.pc;have en:=u.en;have w0:IntKind.i64.wrap (1000000-b.len)=1000000-b.len:=w64 ah ah;rw [w0];refine⟨λh=> ?_,λh=> ?_⟩
 .unfold eZ;rw [eB (aJ ⟨u,L⟩),eB (show m.halt≠0\/m.pc≠b.pc\/1000000-b.len<m.count by omega)]
 have st:¬(m.halt≠0\/m.pc≠b.pc\/1000000-b.len<m.count):=by omega
 rw [Kv u L st];refine ay (SIv b m) (λy=>(b.ops.length-y.1).toNat) ⟨0,⟨m,[],false⟩,Nat.zero_le _,⟨⟨rfl,rfl,rfl,(by intro n hn;cases hn),L,T.2.2.1,Nat.le_add_right _ _⟩,rfl,rfl,rfl⟩,rfl⟩ ?_;rintro y ⟨i,S,hi,J,rfl⟩;dsimp only;have R:=J.r;have ok:=R.ok;have ln:=R.ln;have Jp:=J.p;have Jh:=J.h;have Jc:=J.c;by_cases q:(i:Int)<b.ops.length
 case neg=>
  have ei:i=b.ops.length:=by omega
  have eS:b.ops.foldl (aK b) ⟨m,[],false⟩=S:=by rw [R.e,ei];unfold SM;rw [take_of_length_le (Nat.le_refl _)]
  have G:=en.x1;have y1:=en.y1;unfold Vl at G y1;have hf:=en.f;have hx:b.fin≠1->0<=b.x/\b.x<S.vals.length:=λz=>by have:=G ah;omega
  have hy:3<=b.fin->0<=b.y/\b.y<S.vals.length:=λz=>by have:=y1 ah;omega
  have P6:=a5 b S.vals ah ah hx hy;have H6:=a8 b S.vals ah ah hx hy;simp (disch:=omega) only [RR,q,RB,P6,H6];rw [eS];unfold qE;rw [R.lf,dY (by decide)];have M:=R.wv.at b.x;have wy:=R.wv.at b.y;unfold Wo at M wy;have eg:goS b S.vals=if b.fin=1 then b.k else if b.fin=2 then((S.vals).getD (b.x).toNat default)else if xP (b.fin-2) ((S.vals).getD (b.x).toNat default) ((S.vals).getD (b.y).toNat default)=true then b.k else b.pc+b.len:=by
   unfold goS;have ix:=bF.2 M;have iy:=bF.2 wy;rcases(by omega:b.fin=1\/b.fin=2\/b.fin=3\/b.fin=4)with f | f | f | f
   all_goals simp only [f,Int.reduceEq,if_false,if_true,true_and,false_and,Int.reduceSub,QE,QF,ix,iy,Bool.true_and,decide_eq_true_eq]
  rw [eg]
 have l:=u.op i ah ah;have eT:((i:Int)).toNat=i:=rfl;generalize p:((b.ops).getD ((i:Int)).toNat default)=o at*;rw [eT]at p;have kd:=l.kd;have G:=l.x1;have y1:=l.y1;unfold Vl at G y1;have k1:=l.k1;have k2:=l.k2;have k3:=l.k3;have a1:=l.a1;have a0:=l.a0;have W:=ok.m64;have r4:=ok.r4;have lo:=R.lo;have li:=R.li;have A:=λ{y} u L e=>SIv.next (y:=y) J ah p k1 u L e
 have lv:∀s:aC,aK b S o=⟨s,S.vals,true⟩->b.ops.foldl (aK b) ⟨m,[],false⟩=⟨s,S.vals,true⟩:=λs h=>adh (i:=i+1) (by rw [QD ah,<-R.e,p];exact h)
 have X0:0<=o.x:=by
  by_cases h:hX o
  .have:=G h;omega
  .have:=l.x0 h;omega
 have Y0:0<=o.y:=by
  by_cases h:hY o
  .have:=y1 h;omega
  .have:=l.y0 h;omega
 have A4:∀k:Int,0<=k->f4 (S.vals,k,())=(iq S.vals k,()):=λk h=>by rw [a3,dY ah]
 have wV:∀k:Int,Wo (iq S.vals k):=λk=>by
  unfold iq;split
  .exact R.wv.at _
  .exact wo0
 have U:hX o->iq S.vals o.x=vx S o:=λh=>by
  have:=G h;unfold vx iq;rw [eB ah,eB h]
 have ey:hY o->iq S.vals o.y=vy S o:=λh=>by
  have:=y1 h;unfold vy iq;rw [eB ah,eB h]
 have M:=wV o.x;have wy:=wV o.y;have c:=A4 o.x X0;have d:=A4 o.y Y0;generalize iq S.vals o.x=X at*;generalize iq S.vals o.y=Y at*;have b1:S.vals.length<1000:=by omega
 have t:∀v:Int,(([v]:List Int).length:Int)=1:=λ_=>rfl
 have Z:evO o->p5 (S.m.pc,S.m.save,S.m.aL,S.m.waits,S.m.halt,S.m.ins,S.m.count,b,o,X,Y,S.m.regs,S.m.mem,S.m.outs,())=true:=λz=>by
  have:=a1 z;exact a9 S.m b o X Y W M.1 li ah ok.ct ah ah ah
 have EW:=λz:evO o=>P S.m b o X Y W M.1 li ah ok.ct (by have:=a1 z;omega) ah ah
 have EL:∀(s:aC) (n h:Int),s.pc=b.pc->lvS s b n h=leave s n h:=λs n h e=>by unfold lvS leave;rw [e]
 have Sp:S.m.pc=b.pc:=by omega
 have Sh:S.m.halt=0:=by omega
 rcases(by omega:o.kind=1\/o.kind=2\/o.kind=3\/o.kind=4\/o.kind=5\/o.kind=6\/o.kind=7\/o.kind=8)with k | k | k | k | k | k | k | k
 .have N:=E S.m o X Y (λz=>by omega);have B:=F S.m o X Y (λz=>by omega);rw [eB k]at B;simp (disch:=omega) only [RR,q,RB,p,eT,k,Int.reduceEq,a,c,d,j,N,B,t];exact⟨ah,ah,A (λh=>by omega) (λh=>by omega) (by simp [mM,mV,k])⟩
 .have g:=k2 (Or.inl k);have N:=E S.m o X Y (λz=>by omega);have B:=F S.m o X Y (λz=>by omega);rw [dY ah,eB k]at B;simp (disch:=omega) only [RR,q,RB,p,eT,k,Int.reduceEq,a,c,d,j,N,B,t];exact⟨ah,ah,A (λh=>by omega) (λh=>by omega) (by simp [mM,mV,k])⟩
 .have N:=E S.m o X Y (λz=>by omega);have B:=F S.m o X Y (λz=>by omega);rw [dY ah,dY ah,eB k]at B;have w:=U (by unfold hX;omega);have e2:=ey (Or.inl k);simp (disch:=omega) only [RR,q,RB,p,eT,k,Int.reduceEq,a,c,d,j,N,B,t];exact⟨ah,ah,A (λh=>by omega) (λh=>by omega) (by simp [mM,mV,k,w,e2])⟩
 .have w:=U (by unfold hX;omega);have Q:=Z (by unfold evO;omega);have V:=EW (by unfold evO;omega);by_cases z:64<=X
  .have ev:evR S.m b o X Y=(lvS S.m b o.at_ 3,0,true):=by unfold evR;rw [dY ah,dY ah,eB z]
   rw [ev]at V;simp (disch:=omega) only [RR,q,RB,p,eT,k,Int.reduceEq,a,c,d,j,Q,V,t];rw [lv (leave S.m o.at_ 3) (by unfold aK;rw [dY (by rw [R.lf];decide),eB ⟨Or.inl k,ah⟩]),EL _ _ _ Sp];exact⟨ah,rfl⟩
  .have ev:evR S.m b o X Y=(S.m,((S.m.mem).getD (X).toNat default),false):=by unfold evR;rw [dY ah,dY ah,dY z,eB k]
   rw [ev]at V;simp (disch:=omega) only [RR,q,RB,p,eT,k,Int.reduceEq,a,c,d,j,Q,V,t];exact⟨ah,ah,A (λh=>by omega) (λh=>by omega) (by simp [mM,mV,k,w])⟩
 .have w:=U (by unfold hX;omega);have e2:=ey (Or.inr k);have Q:=Z (by unfold evO;omega);have V:=EW (by unfold evO;omega);by_cases z:64<=X
  .have ev:evR S.m b o X Y=(lvS S.m b o.at_ 3,0,true):=by unfold evR;rw [dY ah,dY ah,eB z]
   rw [ev]at V;simp (disch:=omega) only [RR,q,RB,p,eT,k,Int.reduceEq,a,c,d,j,Q,V,t];rw [lv (leave S.m o.at_ 3) (by unfold aK;rw [dY (by rw [R.lf];decide),eB ⟨Or.inr k,ah⟩]),EL _ _ _ Sp];exact⟨ah,rfl⟩
  .have s:mM S o={S.m with mem:=S.m.mem.set X.toNat Y}:=by unfold mM;rw [eB k,w,e2]
   by_cases y:b.pc+o.at_<X/\X<b.pc+b.len
   .have ev:evR S.m b o X Y=(lvS {S.m with mem:=S.m.mem.set X.toNat Y} b (o.at_+1) 0,0,true):=by unfold evR;rw [dY ah,dY ah,dY z,dY ah,eB y]
    rw [ev]at V;simp (disch:=omega) only [RR,q,RB,p,eT,k,Int.reduceEq,a,c,d,j,Q,V,t];rw [lv (leave (mM S o) (o.at_+1) (mM S o).halt) (by unfold aK;rw [dY (by rw [R.lf];decide),dY ah,eB ⟨k,ah⟩]),s,EL {S.m with mem:=S.m.mem.set X.toNat Y} _ _ Sp];dsimp only;rw [Sh];exact⟨ah,rfl⟩
   .have ev:evR S.m b o X Y=({S.m with mem:=S.m.mem.set X.toNat Y},0,false):=by unfold evR;rw [dY ah,dY ah,dY z,dY ah,dY y]
    rw [ev]at V;simp (disch:=omega) only [RR,q,RB,p,eT,k,Int.reduceEq,a,c,d,j,Q,V,t];exact⟨ah,ah,A (λh=>by omega) (λh=>by omega) (by rw [s];simp [mV,k])⟩
 .have Q:=Z (by unfold evO;omega);have V:=EW (by unfold evO;omega);have ev:evR S.m b o X Y=({S.m with ins:=S.m.ins.drop 1},S.m.ins.getD 0 0,false):=by unfold evR;rw [dY ah,eB k]
  rw [ev]at V;simp (disch:=omega) only [RR,q,RB,p,eT,k,Int.reduceEq,a,c,d,j,Q,V,t];exact⟨ah,ah,A (λh=>by omega) (λh=>by omega) (by simp [mM,mV,k])⟩
 .have w:=U (by unfold hX;omega);have Q:=Z (by unfold evO;omega);have V:=EW (by unfold evO;omega);have ev:evR S.m b o X Y=({S.m with outs:=S.m.outs++ [X]},0,false):=by unfold evR;rw [eB k]
  rw [ev]at V;simp (disch:=omega) only [RR,q,RB,p,eT,k,Int.reduceEq,a,c,d,j,Q,V,t];exact⟨ah,ah,A (λh=>by omega) (λh=>by omega) (by simp [mM,mV,k,w])⟩
 .have w:=U (by unfold hX;omega);have xv:=G (by unfold hX;omega);have g:=k2 (Or.inr k);have eX:((S.vals).getD (o.x).toNat default)=vx S o:=by unfold vx;rw [eB (by unfold hX;omega)]
  simp (disch:=omega) only [RR,q,RB,p,eT,k,Int.reduceEq,a,c,d,j,t,eX];exact⟨ah,ah,ah,ah,ah,ah,ah,ah,ah,ah,A (λh=>by omega) (λh=>by omega) (by simp [mM,mV,k])⟩
variable{a:Ask}{l:List Cac}
theorem EGM:∀e:Eng,Co.mk .eng (e.aj.regs,e.aj.pc,e.aj.mem,e.aj.save,e.aj.aL,e.aj.waits,e.aj.halt,e.aj.ins,e.aj.outs,e.aj.count,e.cache,e.aQ,())=e:=λ_=>rfl
def aeN:Eng:=⟨TP,[],[]⟩
noncomputable def goE (e:Eng) (q:List Int) (left:Int) (a:Ask):Eng×Bool:=
 if(e.aj.waits=true\/e.aj.count∈q)/\e.aj.aL=true then(jB e q,false)
 else if(cB e a).2.1<0 then(jB (cB e a).1 q,(cB e a).2.2)
 else if rG e.aj q left ((((cB e a).1.cache).getD ((cB e a).2.1).toNat default)).blk.len=false then(jB (cB e a).1 q,(cB e a).2.2)
 else(⟨(eZ ((((cB e a).1.cache).getD ((cB e a).2.1).toNat default)).blk {e.aj with waits:=e.aj.waits || bp (e.aj.count∈q)}).1,(cB e a).1.cache.filter (dF (eZ ((((cB e a).1.cache).getD ((cB e a).2.1).toNat default)).blk {e.aj with waits:=e.aj.waits || bp (e.aj.count∈q)}).1.mem),(cB e a).1.aQ⟩,(cB e a).2.2)
noncomputable def kY (e:Eng) (q:List Int) (left:Int) (a:Ask):Eng×Bool:=
 if bp (iA e)=false then(aeN,false)else if e.aj.halt≠0\/left<1\/e.aj.count=1000000 then(e,false)else goE e q left a
theorem adC:∀(r:List Ins) (n:Int) (b:Blk),(jV n b r).pc=b.pc/\(jV n b r).len=b.len
 | [],_,_=>⟨rfl,rfl⟩
 | i::r,n,b=>by
  have e:(dz n b i).pc=b.pc/\(dz n b i).len=b.len:=by grind [dz]
  have h:=adC r (n+1) (dz n b i);exact⟨h.1.trans e.1,h.2.trans e.2⟩
def Oi{a:Int}{l:List Ins}(h:ni a l):(lower a l).pc=a:=by grind [lower,aJ,adC,pV]
theorem Kw{b c:Blk}(h:chk b c=true):dB b/\dB c/\b.pc=c.pc/\b.len=c.len:=by
 have:=aF.1 h;simp_all
def Fw(l:List Cac)(e:Cac):((kR l e).getD (((kR l e).length:Int)-1).toNat default)=e:=by
 have n:(kR l e).length=(l.filter (neP e.blk.pc)).length+1- ((l.filter (neP e.blk.pc)).length+1-4):=by unfold kR;simp_all
 rw [n,getD_lt (by rw [n];omega)];unfold kR;rw [getElem_drop,getElem_append_right ah];simp
def Ay(e:Eng)(a:Ask):(cB e a).1.aj=e.aj:=by grind [cB]
def aod{cs:List Cer}{b:Blk}(h:cs.length<=3):(iU cs b a).2.length<=3:=by grind [iU,Fj,length_drop,eG,length_singleton]
structure FnS(e:Eng)(y:Eng×Int×Bool):Prop where
 l:y.1.cache.length<=e.cache.length+4/\(e.cache.length<=4->y.1.cache.length<=4)/\(e.aQ.length<=3->y.1.aQ.length<=3)
 w:(∀x∈e.cache,0<x.words.length)->∀x∈y.1.cache,0<x.words.length
 k:ShK y.1.cache
 c:ShC y.1.aQ
 r:y.2.1<y.1.cache.length
 b:0<=y.2.1->dB (((y.1.cache).getD (y.2.1).toNat default)).blk/\(((y.1.cache).getD (y.2.1).toNat default)).blk.pc=e.aj.pc
def abf{e:Eng}(d:ShK e.cache)(h:ShC e.aQ)(ok:iA e)(o:a.bytes.length<1000000000):FnS e (cB e a):=by
 have B:=zo e.aj;have fc:=QO e.cache e.aj.pc;unfold cB;split
 .rename_i g;rcases fc with f | ⟨m,i,p,_⟩
  .omega
  .exact⟨⟨Nat.le_add_right _ _,id,id⟩,id,d,h,i,λ_=>⟨(Kw (ok.2.1.2.1 _ m i).1.2.2).2.1,p⟩⟩
 split
 .exact⟨⟨Nat.le_add_right _ _,id,id⟩,id,d,h,by dsimp only;omega,λg=>absurd (show(0:Int)<= -1 from g) (by decide)⟩
 .rename_i g;have j:=(B.2 ah).2;have ir:=ku j;have r:=ir.sz;have A:=QN (a:=a) h (show(lower e.aj.pc (findF e.aj)).ops.length<1000000 by omega) o;have Q:=adA (a:=a) (b:=lower e.aj.pc (findF e.aj)) ok.2.2;have k:(lower e.aj.pc (findF e.aj)).pc=e.aj.pc:=Oi j;have Z:dB (iU e.aQ (lower e.aj.pc (findF e.aj)) a).1/\(iU e.aQ (lower e.aj.pc (findF e.aj)) a).1.pc=e.aj.pc:=by grind [Kw]
  have l:((findF e.aj).map fK).length<1000:=by rw [length_map];omega
  have s:=Z.1.pc;have t:=Z.1.ln;have S:=adB d (e:=⟨(findF e.aj).map fK,(iU e.aQ (lower e.aj.pc (findF e.aj)) a).1⟩) l A.1 (by dsimp only;omega);have q:(kR e.cache ⟨(findF e.aj).map fK,(iU e.aQ (lower e.aj.pc (findF e.aj)) a).1⟩).length<=4:=by
   unfold kR;grind
  exact⟨⟨by dsimp only;omega,λ_=>q,λz=>aod z⟩,λn x c=>by
   unfold kR at c;have c:=mem_of_mem_drop c;rw [mem_append,mem_singleton]at c;rcases c with c | rfl
   .exact n x (mem_filter.1 c).1
   .show 0< ((findF e.aj).map fK).length;rw [length_map];omega,S.1,A.2,Int.sub_lt_self _ (by decide),λ_=>by rw [Fw];exact Z⟩
def QS(h:ShK l)(P:Cac->Bool):ShK (l.filter P):=h.sub (Nat.lt_of_le_of_lt (length_filter_le _ _) h.1) λx a=>(mem_filter.1 a).1
abbrev e13(y:Eng×Bool):aBT:=(y.1.aj.regs,y.1.aj.pc,y.1.aj.save,y.1.aj.aL,y.1.aj.waits,y.1.aj.halt,y.1.aj.ins,y.1.aj.outs,y.1.aj.count,y.2,y.1.aQ,y.1.aj.mem,y.1.cache,())
def T9{b:Blk}{m:aC}(d:MSh m)(c:m.outs.length<900000000):MSh (eZ b m).1/\(eZ b m).1.outs.length<=m.outs.length+48/\(eZ b m).1.ins.length<=m.ins.length:=by
 unfold eZ;split
 .rename_i g;have g:=aF.1 g;split
  .simp_all
  .have l:=QC b b.ops ⟨m,[],false⟩;have a:=g.1.sz
   grind [adg,qE]
 .exact⟨⟨by decide,by decide,by decide,by decide⟩,Nat.zero_le _,Nat.zero_le _⟩
abbrev Ua(b:aCj->Bool)(a:aCj->lX):Prop:=∀e,MSh e.aj->ShX e.cache->ShD e.aQ->b (e,())=true/\a (e,())=(bp (iA e),())
abbrev azM(b:aCj->Bool)(a:aCj->oz):Prop:=∀e,MSh e.aj->ShK e.cache->ShC e.aQ->b (e,())=true/\a (e,())=e12 e
theorem avr{p1 f1 p2 f2 p4 f4 p8 f8}{T:Blk×aCa->Bool}{f3:Blk×aCa->Eo}{X:aBU->Bool}{f5:aBU->List Int×Int×List Int×Int×Bool×Bool×Int×List Int×List Int×Int×List Cac×Int×Bool×qj}{p6:P9->Bool}{f6:P9->oz}{p7:aC×aBY->Bool}{V:aC×aBY->lX}(U1:au2 p1 f1)(U2:Ua p2 f2)(U3:∀(b:Blk) (m:aC),MSh m->b.ops.length<1000000000->m.outs.length<800000000->T (b,m,())=true/\f3 (b,m,())=azL (eZ b m))(U4:azM p4 f4)(U5:∀(e:Eng) (a:Ask),MSh e.aj->ShK e.cache->ShC e.aQ->By a.bytes->a.bytes.length<1000000000->X (e.aj.regs,e.aj.pc,e.aj.mem,e.aj.save,e.aj.aL,e.aj.waits,e.aj.halt,e.aj.ins,e.aj.outs,e.aj.count,e.cache,a,e.aQ,())=true/\f5 (e.aj.regs,e.aj.pc,e.aj.mem,e.aj.save,e.aj.aL,e.aj.waits,e.aj.halt,e.aj.ins,e.aj.outs,e.aj.count,e.cache,a,e.aQ,())=((cB e a).1.aj.regs,(cB e a).1.aj.pc,(cB e a).1.aj.mem,(cB e a).1.aj.save,(cB e a).1.aj.aL,(cB e a).1.aj.waits,(cB e a).1.aj.halt,(cB e a).1.aj.ins,(cB e a).1.aj.outs,(cB e a).1.aj.count,(cB e a).1.cache,(cB e a).2.1,(cB e a).2.2,(cB e a).1.aQ,()))(W:∀(e:Eng) (q:List Int),MSh e.aj->e.aj.outs.length<900000000->ShK e.cache->q.length<1000000000->p6 (e.aj.regs,e.aj.pc,e.aj.mem,e.aj.save,e.aj.aL,e.aj.waits,e.aj.halt,e.aj.ins,e.aj.outs,e.aj.count,e.cache,q,e.aQ,())=true/\f6 (e.aj.regs,e.aj.pc,e.aj.mem,e.aj.save,e.aj.aL,e.aj.waits,e.aj.halt,e.aj.ins,e.aj.outs,e.aj.count,e.cache,q,e.aQ,())=e12 (jB e q))(U:∀m q l s,q.length<1000000000->0<=m.count/\m.count<=2000000-> -1000<=s/\s<=1000000->p7 (m,q,l,s,())=true/\V (m,q,l,s,())=(rG m q l s,()))(U8:aeK p8 f8)(e:Eng)(q:List Int)(left:Int)(a:Ask)(f:MSh e.aj)(ho:e.aj.outs.length<700000000)(j:ShK e.cache)(p:ShC e.aQ)(o:q.length<1000000000)(ha:By a.bytes)(L:a.bytes.length<1000000000):YU.F (p1,f1,p2,f2,T,f3,p4,f4,X,f5,p6,f6,p7,V,p8,f8,()) (e,q,left,a,()) (λy=>y=e13 (kY e q left a)):=by
 have N:=λz1 z2 z3 z4=>(U1 z1 z2 z3 z4).1
 have Q:=λz1 z2 z3 z4=>(U1 z1 z2 z3 z4).2
 have K:=λz1 z2 z3 z4=>(U2 z1 z2 z3 z4).1
 have I:=λz1 z2 z3 z4=>(U2 z1 z2 z3 z4).2
 have A:=λz1 z2 z3 z4 d=>(U3 z1 z2 z3 z4 d).1
 have D:=λz1 z2 z3 z4 d=>(U3 z1 z2 z3 z4 d).2
 have B:=λz1 z2 z3 z4=>(U4 z1 z2 z3 z4).1
 have G:=λz1 z2 z3 z4=>(U4 z1 z2 z3 z4).2
 have P:=λz1 z2 z3 z4 d i t=>(U5 z1 z2 z3 z4 d i t).1
 have F:=λz1 z2 z3 z4 d i t=>(U5 z1 z2 z3 z4 d i t).2
 have u:=λz1 z2 z3 z4 d i=>(W z1 z2 z3 z4 d i).1
 have v:=λz1 z2 z3 z4 d i=>(W z1 z2 z3 z4 d i).2
 have H:=λz1 z2 z3 z4 d i t=>(U z1 z2 z3 z4 d i t).1
 have J:=λz1 z2 z3 z4 d i t=>(U z1 z2 z3 z4 d i t).2
 have O:=λz1 z2 z3=>(U8 z1 z2 z3).1
 have C:=λz1 z2 z3=>(U8 z1 z2 z3).2
 have mM:=MKM;have mE:∀c:Blk,Co.mk .blk (c.pc,c.len,c.ops,c.fin,c.x,c.y,c.k,())=c:=λ_=>rfl
 dsimp only [YU,gm,jG,jU]at*;have P6:=u e q f ah j o;have H6:=v e q f ah j o;have P5:=P e a f j p ha L;have H5:=F e a f j p ha L;have P8:=O q e.aj.count o;have H8:=C q e.aj.count o;have fm:=Ay e a;have S:iA e->FnS e (cB e a):=λk=>abf j p k L
 unfold kY goE;generalize cB e a=Y at*;simp (disch:=omega) only [RR,mM,K e f j.x p.d,I e f j.x p.d,B e f j p,G e f j p,P6,H6,P5,H5,P8,H8,CAB,mE];refine⟨λg=>by rw [eB g];rfl,λg=>⟨λh=>by rw [dY (by rw [g];decide),eB (show e.aj.halt≠0\/left<1\/e.aj.count=1000000 by omega)],λh=> ?_⟩⟩;have ok:=aF.1 g;have S:=S ok;have cw:=ok.1.ct;rw [dY (by rw [g];decide),dY (show¬(e.aj.halt≠0\/left<1\/e.aj.count=1000000) by omega)];have PY:=u Y.1 q (by rw [fm];exact f) (by rw [fm];omega) S.k o;have HY:=v Y.1 q (by rw [fm];exact f) (by rw [fm];omega) S.k o;rw [HY];have Z:((e.aj.waits=true\/bp (e.aj.count∈q)=true)/\e.aj.aL=true)↔((e.aj.waits=true\/e.aj.count∈q)/\e.aj.aL=true):=by rw [aF]
 refine⟨λw=>by rw [eB (Z.1 w)],λw=> ?_⟩;rw [dY (λz=>by
  have:((e.aj.waits || bp (e.aj.count∈q))&&e.aj.aL)=true:=by rw [Bool.and_eq_true,Bool.or_eq_true];exact Z.2 z
  rw [this]at w;cases w)]
 refine⟨λn=>⟨PY,by rw [eB n]⟩,λn=> ?_⟩;rw [dY ah];have k0:0<=Y.2.1:=by omega
 have Sr:=S.r;obtain⟨B1,B2⟩:=S.b k0;have s1:=(S.k.at Y.2.1.toNat).2.1;generalize hb:(((Y.1.cache).getD (Y.2.1).toNat default)).blk=b at*;have bl:=B1.ln;have P7:=H e.aj q left b.len o ah ah;have H7:=J e.aj q left b.len o ah ah;refine⟨k0,Sr,P7,?_⟩;rw [H7];refine⟨λr=>⟨PY,by rw [eB r]⟩,λr=> ?_⟩;have r:rG e.aj q left b.len=true:=r;rw [dY (by rw [r];decide)];obtain⟨M,x⟩:∃M:aC,M={e.aj with waits:=e.aj.waits || bp (e.aj.count∈q)}:=⟨_,rfl⟩;have eM:Co.mk .aj (e.aj.regs,e.aj.pc,e.aj.mem,e.aj.save,e.aj.aL,e.aj.waits || bp (e.aj.count∈q),e.aj.halt,e.aj.ins,e.aj.outs,e.aj.count,())=M:=x.symm;have E:MSh M:=by rw [x];exact f
 have Mo:M.outs.length<700000000:=by rw [x];exact ho
 rw [<-x];have R:=T9 (b:=b) E ah;simp only [eM,A b M E ah ah,D b M E ah ah,N _ _ S.k R.1.2.1,Q _ _ S.k R.1.2.1];exact⟨trivial,trivial,trivial⟩
structure EgS(e:Eng)(n:Nat):Prop where
 m:MSh e.aj
 o:e.aj.outs.length<=n
 k:ShK e.cache
 c:ShC e.aQ
 kl:e.cache.length<=4
 cl:e.aQ.length<=3
 w:∀x∈e.cache,0<x.words.length
 v:∀x∈e.cache,0<=x.blk.pc/\x.blk.pc<e.aj.mem.length
def abg{mem:List Int}(w:∀x∈l,0<x.words.length):∀x∈l.filter (dF mem),0<=x.blk.pc/\x.blk.pc<mem.length:=λx a=>by
 have h:=mem_filter.1 a;have d:=aF.1 (show bp _=true from h.2);have t:=d.2 0 (by decide) (by have:=w x h.1;omega);exact⟨d.1,ah⟩
def Ib{e:Eng}{n:Nat}(h:EgS e n)(hn:n<700000000)(q:List Int)(left:Int)(o:a.bytes.length<1000000000):EgS (kY e q left a).1 (n+50):=by
 have r:=h.o;unfold kY;split
 .exact⟨⟨by decide,by decide,by decide,by decide⟩,Nat.zero_le _,⟨by decide,λx c=>by cases c⟩,⟨by decide,λx c=>by cases c⟩,by decide,by decide,(λx c=>by cases c),λx c=>by cases c⟩
 rename_i g;have ok:iA e:=aF.1 (by simpa using g);split
 .exact⟨h.m,by have:=h.o;dsimp only;omega,h.k,h.c,h.kl,h.cl,h.w,h.v⟩
 have f:∀y:Eng,y.aj=e.aj->ShK y.cache->ShC y.aQ->y.cache.length<=4->y.aQ.length<=3->(∀x∈y.cache,0<x.words.length)->EgS (jB y q) (n+50):=λy d p k l i j=>by
  have s:=ajT (m:=y.aj) (by rw [d];exact h.m) (by rw [d];omega) (bp (y.aj.count∈q));rw [d]at s;exact⟨by unfold jB;rw [d];exact s.1,by have:=s.2.1;unfold jB;rw [d];dsimp only;omega,QS p _,k,Nat.le_trans (length_filter_le _ _) l,i,λx c=>j x (mem_filter.1 c).1,abg j⟩
 have S:=abf h.k h.c ok o;have fm:=Ay e a;unfold goE;split
 .exact f e rfl h.k h.c h.kl h.cl h.w
 split
 .exact f _ fm S.k S.c (S.l.2.1 h.kl) (S.l.2.2 h.cl) (S.w h.w)
 split
 .exact f _ fm S.k S.c (S.l.2.1 h.kl) (S.l.2.2 h.cl) (S.w h.w)
 .have R:=T9 (b:=((((cB e a).1.cache).getD ((cB e a).2.1).toNat default)).blk) (m:={e.aj with waits:=e.aj.waits || bp (e.aj.count∈q)}) h.m (by dsimp only;omega);exact⟨R.1,by have:=R.2.1;dsimp only at this ⊢;omega,QS S.k _,S.c,Nat.le_trans (length_filter_le _ _) (S.l.2.1 h.kl),S.l.2.2 h.cl,λx c=>S.w h.w x (mem_filter.1 c).1,abg (S.w h.w)⟩
end Go.TX.F
namespace Go.TX.F
open Go Go.AE Go.TX List
def EnD(b:List Int)(p:Int)(y:O1):Prop:=
 ∃(e:Eng) (a:Int),EgS e 1000/\p<=a/\a<=p+30000000/\y=(e.aj.regs,e.aj.pc,e.aj.save,e.aj.aL,e.aj.waits,e.aj.halt,e.aj.ins,e.aj.outs,e.aj.count,b,a,e.aQ,e.aj.mem,e.cache,())
def ShK.nil:ShK []:=⟨by decide,λx a=>by cases a⟩
def ShC.nil:ShC []:=⟨by decide,λx a=>by cases a⟩
def avs{m:aC}(h:MSh m)(b:m.outs.length<=0):EgS (newE m) 0:=by
 unfold newE;split
 .exact⟨h,b,ShK.nil,ShC.nil,Nat.zero_le _,Nat.zero_le _,(λx a=>by cases a),λx a=>by cases a⟩
 .exact⟨⟨by decide,by decide,by decide,by decide⟩,Nat.le_refl _,ShK.nil,ShC.nil,by decide,by decide,(λx a=>by cases a),λx a=>by cases a⟩
abbrev aoe(c:aBX->Bool)(b:aBX->aBT):Prop:=∀(e:Eng) (q:List Int) (l:Int) (a:Ask),MSh e.aj->e.aj.outs.length<700000000->ShK e.cache->ShC e.aQ->q.length<1000000000->By a.bytes->a.bytes.length<1000000000->c (e,q,l,a,())=true/\b (e,q,l,a,())=e13 (kY e q l a)
abbrev avt(c:aC×lT->Bool)(a:aC×lT->Bool×wz):Prop:=∀m b p,MSh m->Bt b->0<=p->p<500000000->c (m,b,p,())=true/\AsD b p (a (m,b,p,()))
theorem avu{p2 f2 p3 f3 p4 f4 p5 f5 p6 f6 p7 f7 p8 f8}{p1:aCa->Bool}{W:aCa->oz}(U1:∀m,MSh m->p1 (m,())=true/\W (m,())=e12 (newE m))(U2:aoe p2 f2)(U3:azr p3 f3)(U4:azs p4 f4)(U5:auI p5 f5)(i:Y38 p6 f6)(U7:azt p7 f7)(U8:avt p8 f8)(b:List Int)(p:Int)(f:Bt b)(H:0<=p)(U:p<300000000):Zm.F (p1,W,p2,f2,p3,f3,p4,f4,p5,f5,p6,f6,p7,f7,p8,f8,()) (b,p,()) (λy=>EnD b p y):=by
 have R:=pkS f i;have P:=λn p H U=>(i n b p f H U).1
 obtain⟨P4,⟨D,V,O,s,t⟩⟩:=U4 b p f H ah;generalize hy:f4 (b,p,())=y at D V O s t;obtain⟨L,o,w,⟨⟩⟩:=y;dsimp only at D V O s t;subst D;obtain⟨P6,⟨u,F,a3,Y⟩⟩:=i 4 L o f ah ah;generalize hk:f6 (4,L,o,())=k at u F a3 Y;obtain⟨n,j,q1,⟨⟩⟩:=k;dsimp only at u F a3 Y;subst u;subst F;obtain⟨P7,⟨l,w2,K,Q,I⟩⟩:=U7 n j (o+1) f ah ah ah;generalize hw:f7 (n,j,o+1,())=v at l w2 K Q I;obtain⟨c,q2,ins,⟨⟩⟩:=v;dsimp only at l w2 K Q I;subst l;have ok:=adq s t I;obtain⟨P3,H3⟩:=U3 w ins ah ah;have G:(kQ w ins).outs=[]/\(kQ w ins).ins.length<=ins.length:=by
  unfold kQ;split<;>exact⟨rfl,by simp [TP]⟩
 have J:MSh (kQ w ins):=⟨by rw [ok.r4];decide,by have:=ok.m64;omega,ah,by rw [G.1];decide⟩;obtain⟨P1,H1⟩:=U1 _ J;have h:=avs J (by rw [G.1];exact Nat.le_refl _);obtain⟨P5,⟨C,s2,Z,S⟩⟩:=U5 c q2 f ah ah;generalize hs:f5 (c,q2,())=z at C s2 Z S;obtain⟨d,r,g,⟨⟩⟩:=z;dsimp only at C s2 Z S;subst C;have mM:=MKM;generalize kQ w ins=M at*;have mK:Co.mk .aj (M.regs,M.pc,M.mem,M.save,M.aL,M.waits,M.halt,M.ins,[],M.count,())=M:=by
  have:=G.1;cases M;dsimp only at this;subst this;rfl
 generalize newE M=N at*;dsimp only [Zm,gm,jG];simp (disch:=omega) only [RR,P4,hy,P6,hk,P7,hw,P3,H3,P5,hs,R,P,mK,P1,H1];obtain⟨t1,t2,t3,t4⟩:=(i 12 d r f ah ah).2;refine ay (λy=>∃(k q:Int) (e:Eng),0<=k/\k<=11/\p<=q/\q<=p+20000+2000100*(11-k)/\EgS e (50*(11-k).toNat)/\y=(k,d,q,0,0,false,false,0,0,e.aj.regs,e.aj.pc,e.aj.save,e.aj.aL,e.aj.waits,e.aj.halt,e.aj.ins,e.aj.outs,e.aj.count,g,e.aj.mem,e.cache,e.aQ,())) (λy=>y.1.toNat) ⟨(f6 (12,d,r,())).1,r+1,N,t3,ah,ah,ah,⟨h.m,by have:=h.o;omega,h.k,h.c,h.kl,h.cl,h.w,h.v⟩,rfl⟩ ?_;rintro y ⟨k,q,e,k0,k1,k2,k3,E,rfl⟩;dsimp only;have eo:=E.o;by_cases c:0<k
 .obtain⟨u1,u2,u3,u4⟩:=(i 30 d q f ah ah).2;obtain⟨P8,A⟩:=U8 e.aj d (q+1) E.m f ah ah;have Ap:=A.p;have Ab:=A.b;obtain⟨Al,An⟩:=A.l;generalize B:f8 (e.aj,d,q+1,())=a at*;have l:IntKind.i64.wrap (1+(f6 (30,d,q,())).1)=1+(f6 (30,d,q,())).1:=w64 ah ah;obtain⟨P2,H2⟩:=U2 e g (1+(f6 (30,d,q,())).1) ⟨a.1,a.2.2.2.1⟩ E.m ah E.k E.c ah Al (by dsimp only;omega);have T:=Ib E ah g (1+(f6 (30,d,q,())).1) (a:=⟨a.1,a.2.2.2.1⟩) (by dsimp only;omega);have mA:∀(x:Bool) (y:List Int),Co.mk .ask (x,y,())=(⟨x,y⟩:Ask):=λ_ _=>rfl
  have mG:=EGM;generalize kY e g (1+(f6 (30,d,q,())).1) ⟨a.1,a.2.2.2.1⟩=X at*;simp (disch:=omega) only [RR,c,R,P,mM,P8,B,mA,mG,l,P2,H2];exact⟨⟨k-1,a.2.2.1,X.1,ah,ah,ah,ah,⟨T.m,by have:=T.o;omega,T.k,T.c,T.kl,T.cl,T.w,T.v⟩,by rw [Ab]⟩,ah⟩
 .simp (disch:=omega) only [RR,c];exact⟨e,q,⟨E.m,ah,E.k,E.c,E.kl,E.cl,E.w,E.v⟩,k2,ah,rfl⟩
abbrev aBw(c:lT->Bool)(a:lT->O1):Prop:=∀b p,Bt b->0<=p->p<300000000->c (b,p,())=true/\EnD b p (a (b,p,()))
def ShK.add{l:List Cac}(h:ShK l)(n:l.length<999){x:Cac}(b:x.words.length<1000)(a:x.blk.ops.length<1000000)(d:x.blk.pc<=1000000):ShK (l++ [x]):=by
 refine⟨by rw [eG,length_singleton];omega,λc hc=> ?_⟩;rw [mem_append,mem_singleton]at hc;rcases hc with g | rfl
 .exact h.2 c g
 .exact⟨b,a,d⟩
variable{P:Cac->Bool}
def azN(e x:Cac):ah8.F () (e,x,()) (λy=>y=(decide (e.blk.pc=x.blk.pc),x,())):=by
 dsimp only [ah8,gm];simp (disch:=omega) only [RR,CAB]
abbrev azO(b:Cac×aCq->Bool)(a:Cac×aCq->Bool×aCq):Prop:=∀e x,b (e,x,())=true/\a (e,x,())=(decide (e.blk.pc=x.blk.pc),x,())
def avv{p1 f1}(f:azO p1 f1)(l:List Cac)(x:Cac)(h:l.length<1000000000):aat.F (p1,f1,()) (l,x,()) (λy=>y.2.1=x/\FC l x.blk.pc y.1):=by
 dsimp only [aat,gm];refine ay (λ(y:List Cac×Int×Int×aCq)=>y.1=l/\y.2.1=l.length/\0<=y.2.2.1/\y.2.2.1<=l.length/\y.2.2.2.1=x/\∀j:Int,0<=j->j<y.2.2.1->(((l).getD (j).toNat default)).blk.pc≠x.blk.pc) (λy=>(l.length-y.2.2.1).toNat) ⟨rfl,rfl,by simp,by simp,rfl,λj o a=>absurd a (by simp;omega)⟩ ?_;rintro⟨(l:List Cac),(n:Int),(i:Int),(x:Cac),⟨⟩⟩ hI;dsimp only at hI ⊢;obtain⟨rfl,rfl,a,m,rfl,d⟩:=hI;simp (disch:=omega) only [RR,CAB,f];refine⟨λg=>⟨a,g,λe=>Or.inr ⟨a,g,e,d⟩,λe=>⟨⟨ah,ah,λj b k=> ?_⟩,ah⟩⟩,λg=>Or.inl ⟨rfl,λj b k=>d j b ah⟩⟩;by_cases c:j<i
 .exact d j b c
 .rw [show j=i by omega];exact e
def filter_all{α:Type}{P:α->Bool}{d:α}:∀ {l:List α},(∀i:Nat,i<l.length->P (l.getD i d)=true)->l.filter P=l
 | [],_=>rfl
 | x::l,h=>by
  have b:=h 0 (by simp);have a:=filter_all (P:=P) (d:=d) (l:=l) λi c=>h (i+1) (by simp;omega)
  rw [filter_cons,eB (by simpa using b),a]
structure DK(P:Cac->Bool)(l L:List Cac)(i j:Int):Prop where
 i0:0<=i
 ij:i<=j
 jl:j<=l.length
 len:L.length=l.length
 a:L.take i.toNat=(l.take j.toNat).filter P
 b:∀k:Nat,j<=k->L.getD k default=l.getD k default
def DK.start{l:List Cac}{k:Int}(a:0<=k)(c:k<l.length)(b:P ((l).getD (k).toNat default)=false)(h:∀j:Int,0<=j->j<k->P ((l).getD (j).toNat default)=true):DK P l l k (k+1):=by
 refine⟨a,ah,ah,rfl,?_,λ_ _=>rfl⟩;rw [pG (d:=default) a c,dY (by rw [b];decide),append_nil,filter_all (d:=default) λi f=> ?_];rw [length_take]at f;have:=h i ah ah;have e:(l.take k.toNat).getD i default=l.getD i default:=by rw [getD_lt (by rw [length_take];omega),getD_lt ah,getElem_take]
 rw [e];simpa using this
def DK.keep{l L:List Cac}{i j:Int}(h:DK P l L i j)(f:j<l.length)(c:P ((L).getD (j).toNat default)=true):DK P l (L.set i.toNat ((L).getD (j).toNat default)) (i+1) (j+1):=by
 obtain⟨g,m,n,len,a,b⟩:=h;have e:((L).getD (j).toNat default)=((l).getD (j).toNat default):=b j.toNat ah;rw [e]at c ⊢;refine⟨ah,ah,ah,by rw [length_set];exact len,?_,λk hk=> ?_⟩
 .rw [pG (d:=default) ah f,eB c,<-a,show(i+1).toNat=i.toNat+1 by omega,take_succ_eq_append_getElem (by rw [length_set];omega),getElem_set_self,take_set_of_le (Nat.le_refl _)]
 .rw [<-b k ah,getD_eq_getElem?_getD,getD_eq_getElem?_getD,getElem?_set_ne ah,<-getD_eq_getElem?_getD]
def DK.skip{l L:List Cac}{i j:Int}(h:DK P l L i j)(f:j<l.length)(c:P ((L).getD (j).toNat default)=false):DK P l L i (j+1):=by
 obtain⟨g,m,n,len,a,b⟩:=h;have e:((L).getD (j).toNat default)=((l).getD (j).toNat default):=b j.toNat ah;rw [e]at c;refine⟨ah,ah,ah,len,?_,λk hk=>b k ah⟩;rw [pG (d:=default) ah f,dY (by rw [c];decide),append_nil,a]
def DK.fin{l L:List Cac}{i j:Int}(h:DK P l L i j)(a:¬j<l.length):L.take i.toNat=l.filter P:=by
 rw [h.a,take_of_length_le (by have:=h.jl;omega)]
def adD{L:List Cac}{z:Cac}{i n:Int}(b:0<=i)(a:i<=L.length)(hn:(L.length:Int)=n):
  i<=((drop (Int.toNat 0) (take i.toNat L)++replicate (n-i).toNat z++drop (i+(n-i)).toNat (take n.toNat L)).length:Int)/\
  drop (Int.toNat 0) (take (0+(i-0)).toNat (drop (Int.toNat 0) (take i.toNat L)++replicate (n-i).toNat z++drop (i+(n-i)).toNat (take n.toNat L)))=L.take i.toNat:=by
 have e:(take i.toNat L).length=i.toNat:=by rw [length_take];omega
 rw [show(Int.toNat 0)=0 by rfl,drop_zero,drop_zero,show(0+(i-0)).toNat=i.toNat by omega,append_assoc];refine⟨by rw [eG];omega,?_⟩;rw [take_append_of_le_length ah,take_of_length_le ah]
theorem avw{p1 f1}{o:F3->Bool}{b:F3->Int×aCq}(p:azO p1 f1)(u:∀l x,l.length<1000000000->o (l,x,())=true/\(b (l,x,())).2.1=x/\FC l x.blk.pc (b (l,x,())).1)(l:List Cac)(x:Cac)(h:l.length<1000000000):aaE.F (p1,f1,o,b,()) (l,x,()) (λy=>y=(x,l.filter (neP x.blk.pc),())):=by
 obtain⟨t,I⟩:=u l x h;dsimp only [aaE,gm];simp (disch:=omega) only [RR,t];rw [I.1];have F:=I.2;generalize (b (l,x,())).1=k at*;have a:∀e:Cac,neP x.blk.pc e= !decide (e.blk.pc=x.blk.pc):=λ_=>rfl
 refine⟨λg=> ?_,λg=> ?_⟩
 .rw [filter_all (d:=default) λi C=> ?_];rcases F with⟨_,f⟩ | ⟨f,_⟩
  .have:=f i ah ah;rw [a];simpa using this
  .omega
 .obtain⟨f1,f2',f3,f4⟩:0<=k/\k<l.length/\(((l).getD (k).toNat default)).blk.pc=x.blk.pc/\∀j:Int,0<=j->j<k->(((l).getD (j).toNat default)).blk.pc≠x.blk.pc:=by
   rcases F with⟨f,_⟩ | f
   .exact absurd f g
   .exact f
  have w:IntKind.i64.wrap (k+1)=k+1:=w64 ah ah;rw [w];refine ay (λ(y:Int×Int×F3)=>y.2.2.2.1=x/\DK (neP x.blk.pc) l y.2.2.1 y.1 y.2.1) (λy=>(l.length-y.2.1).toNat) ⟨rfl,DK.start f1 f2' (by rw [a,decide_eq_true f3];rfl) λj v q=>by rw [a,decide_eq_false (f4 j v q)];rfl⟩ ?_;rintro⟨(i:Int),(j:Int),(L:List Cac),(r:Cac),⟨⟩⟩ hI;dsimp only at hI ⊢;obtain⟨rfl,D⟩:=hI;have s:=D.i0;have A:=D.ij;have B:=D.jl;have len:=D.len;have m:(L.length:Int)=l.length:=by omega
  by_cases c:j<l.length
  .by_cases d:(((L).getD (j).toNat default)).blk.pc=r.blk.pc
   .simp (disch:=omega) only [RR,m,c,p,d];exact⟨ah,ah,D.skip c (by rw [a,decide_eq_true d];rfl),ah⟩
   .simp (disch:=omega) only [RR,m,c,p,d];exact⟨ah,ah,ah,ah,ah,ah,D.keep c (by rw [a,decide_eq_false d];rfl),ah⟩
  .simp (disch:=omega) only [RR,m,c];obtain⟨z1,z2⟩:=adD (L:=L) (n:=l.length) (z:=Co.mk .cac ([],0,0,[],0,0,0,0,())) s ah m;exact⟨ah,ah,ah,ah,ah,ah,ah,ah,z1,ah,ah,Int.le_trans (show 0+(i-0)<=i by omega) z1,Prod.ext rfl (Prod.ext (z2.trans (D.fin c)) rfl)⟩
theorem azP{p1 f1 p2 f2}(a:Y99 p1 f1)(b:azd p2 f2)(e:Cac)(d:e.words.length<1000)(f:e.blk.ops.length<1000000):aij.F (p1,f1,p2,f2,()) (e,()) (λy=>y=cE e):=by
 have mE:∀c:Blk,Co.mk .blk (c.pc,c.len,c.ops,c.fin,c.x,c.y,c.k,())=c:=λ_=>rfl
 dsimp only [aij,gm,jU];simp (disch:=omega) only [RR,CAB,mE,a e.blk ah,b e.words ah]
def avx{p1 f1}(d:aoa p1 f1)(l:List Cac)(h:ShK l):aaz.F (p1,f1,()) (l,()) (λy=>y=(l,())):=by
 have c:=h.1;have mC:=CAM;dsimp only [aaz,gm,jU];refine ay (λ(y:List Cac×Int×Int×vw)=>y.1=l/\y.2.1=l.length/\y.2.2.2.1=l.take y.2.2.1.toNat/\0<=y.2.2.1/\y.2.2.1<=l.length) (λy=>(l.length-y.2.2.1).toNat) ⟨rfl,rfl,by simp,by simp,by simp⟩ ?_;rintro⟨(l:List Cac),(m:Int),(i:Int),(o:List Cac),⟨⟩⟩ hI;dsimp only at hI ⊢;obtain⟨rfl,rfl,rfl,e,f⟩:=hI;have a:=h.at i.toNat;simp (disch:=omega) only [RR,d _ a.1 a.2.1,mC];refine⟨λb=>⟨ah,ah,?_,⟨bA e b rfl,ah,ah⟩,ah⟩,λb=>by rw [take_of_length_le ah]⟩;have:=length_take_le' i.toNat l;omega
def avy(l:List Cac)(n:Int)(a:l.length<1000000)(c:0<=n)(b:n<1000000):aaG.F () (l,n,()) (λy=>y=(l.drop (l.length-n.toNat),())):=by
 dsimp only [aaG,gm];simp (disch:=omega) only [RR];rw [show((l.length:Int)).toNat=l.length by omega,take_of_length_le (Nat.le_refl _)];split
 .rw [show((l.length:Int)-n).toNat=l.length-n.toNat by omega];exact⟨ah,ah,ah,rfl⟩
 .rw [show l.length-n.toNat=0 by omega];exact⟨ah,ah,ah,rfl⟩
abbrev avz(b:vw->Bool)(a:vw->vw):Prop:=∀l,ShK l->b (l,())=true/\a (l,())=(l,())
def azQ{p1 f1}{c:aCh->Bool}{a:aCh->vw}{b:F3->Bool}{g:F3->Cac×vw}(f:avz p1 f1)(d:∀l n,l.length<1000000->0<=n->n<1000000->c (l,n,())=true/\a (l,n,())=(l.drop (l.length-n.toNat),()))(m:∀l x,l.length<1000000000->b (l,x,())=true/\g (l,x,())=(x,l.filter (neP x.blk.pc),()))(l:List Cac)(e:Cac)(h:ShK l)(j:e.words.length<1000)(i:e.blk.ops.length<1000000)(o:e.blk.pc<=1000000):aiJ.F (p1,f1,c,a,b,g,()) (l,e,()) (λy=>y=(kR l e,())):=by
 have L:=h.1;have sh:=(adB h j i o).1;have p:=length_filter_le (neP e.blk.pc) l;have k:(l.filter (neP e.blk.pc)++ [e]).length=(l.filter (neP e.blk.pc)).length+1:=by rw [eG,length_singleton]
 have F:=(d (l.filter (neP e.blk.pc)++ [e]) 4 ah ah ah).2;rw [k]at F;have F:a (l.filter (neP e.blk.pc)++ [e],4,())=(kR l e,()):=F;dsimp only [aiJ,gm];simp (disch:=omega) only [RR,f l h,m l e,(d (l.filter (neP e.blk.pc)++ [e]) 4 ah ah ah).1,F,f _ sh,fA,fE];omega
theorem avA{p1 f1 p2 f2}(q:Y94 p1 f1)(p:Y32 p2 f2)(a b:List Cac)(m:ShK a):aaK.F (p1,f1,p2,f2,()) (a,b,()) (λy=>y=(bp (a=b),())):=by
 have mE:∀c:Blk,Co.mk .blk (c.pc,c.len,c.ops,c.fin,c.x,c.y,c.k,())=c:=λ_=>rfl
 have j:=m.1;dsimp only [aaK,gm,jU];simp (disch:=omega) only [RR,CAB,mE];refine⟨λh=> ?_,λh=> ?_⟩
 .rw [aV (λe=>h (by rw [e]))]
 have o:a.length=b.length:=by omega
 refine ay (λ(y:List Cac×aCh)=>y.1=a/\y.2.1=b/\0<=y.2.2.1/\y.2.2.1<=a.length/\All y.2.2.1 (λi=>a.getD i.toNat default=b.getD i.toNat default)) (λy=>(a.length-y.2.2.1).toNat) ⟨rfl,rfl,by simp,by simp,All.zero⟩ ?_;rintro⟨(l:List Cac),(n:List Cac),(i:Int),⟨⟩⟩ hI;dsimp only at hI ⊢;obtain⟨rfl,rfl,f,r,k⟩:=hI;have A:=m.at i.toNat;simp (disch:=omega) only [RR,CAB,mE,q (((l).getD (i).toNat default)).blk (((n).getD (i).toNat default)).blk ah,p (((l).getD (i).toNat default)).words (((n).getD (i).toNat default)).words ah,aF,gK];refine⟨λg=>⟨f,g,f,ah,Or.inr f,Or.inr g,Or.inr f,Or.inr ah,λd=> ?_,λd=>⟨⟨ah,ah,k.snoc (Cac.ext d.1 d.2)⟩,ah⟩⟩,λg=> ?_⟩
 .rw [aV];intro e;rw [e]at d;rcases d with d | d<;>exact d rfl
 .rw [aJ (lS o (k.le ah))]
end Go.TX.F
namespace Go.TX.F
open Go Go.AE Go.TX List
def adE(l:List Cac)(e:Cac):kR l e=(l.filter (neP e.blk.pc)).drop ((l.filter (neP e.blk.pc)).length+1-4)++ [e]:=by
 unfold kR;rw [drop_append_of_le_length ah]
def aeO(l:List Cac)(e:Cac):FC (kR l e) e.blk.pc (((kR l e).length:Int)-1):=by
 rw [adE];generalize c:(l.filter (neP e.blk.pc)).drop ((l.filter (neP e.blk.pc)).length+1-4)=F;have hn:∀x∈F,x.blk.pc≠e.blk.pc:=λx a=>by
  rw [<-c]at a;have:=(mem_filter.1 (mem_of_mem_drop a)).2;simpa [neP]using this
 have b:(F++ [e]).length=F.length+1:=by rw [eG,length_singleton]
 refine Or.inr ⟨ah,ah,?_,λj f d=> ?_⟩
 .rw [b,show(((F.length+1:Nat):Int)-1).toNat=F.length by omega,getD_lt ah,getElem_append_right ah];simp
 .rw [getD_lt ah,getElem_append_left ah];exact hn _ (getElem_mem _)
abbrev aBx(b:F3->Bool)(a:F3->vw):Prop:=∀l e,ShK l->e.words.length<1000->e.blk.ops.length<1000000->e.blk.pc<=1000000->b (l,e,())=true/\a (l,e,())=(kR l e,())
abbrev aBy(d:List Cac×vw->Bool)(c:List Cac×vw->lX):Prop:=∀a b,ShK a->d (a,b,())=true/\c (a,b,())=(bp (a=b),())
def avB(a b:List Int)(m:a.length<1000000000):Zy.F () (a,b,()) (λy=>y=(bp (a=b),())):=by
 dsimp only [Zy,gm];simp (disch:=omega) only [RR];refine⟨λh=> ?_,λh=> ?_⟩
 .rw [aV (λe=>h (by rw [e]))]
 have j:a.length=b.length:=by omega
 refine ay (λ(y:List Int×aBY)=>y.1=a/\y.2.1=b/\y.2.2.1=a.length/\0<=y.2.2.2.1/\y.2.2.2.1<=a.length/\All y.2.2.2.1 (λi=>a.getD i.toNat default=b.getD i.toNat default)) (λy=>(a.length-y.2.2.2.1).toNat) ⟨rfl,rfl,rfl,by simp,by simp,All.zero⟩ ?_;rintro⟨(l:List Int),(o:List Int),(n:Int),(i:Int),⟨⟩⟩ hI;dsimp only at hI ⊢;obtain⟨rfl,rfl,rfl,f,k,g⟩:=hI;simp (disch:=omega) only [RR];refine⟨λd=>⟨f,d,f,ah,λc=> ?_,λc=>⟨⟨ah,ah,g.snoc c⟩,ah⟩⟩,λd=> ?_⟩
 .rw [aV];intro e;rw [e]at c;exact c rfl
 .rw [aJ (lS j (g.le ah))]
def Oj{w mem:List Int}{a:Int}(j:0<=a)(i:0<w.length):There w mem a↔a+w.length<=mem.length/\(mem.take (a+w.length).toNat).drop a.toNat=w:=by
 have b:∀k:Nat,k<w.length->a+w.length<=mem.length->((mem.take (a+w.length).toNat).drop a.toNat).getD k default=((mem).getD (a+k).toNat default):=λk hk h=>by
  rw [getD_eq_getElem?_getD,getElem?_drop,getElem?_take_of_lt ah,<-getD_eq_getElem?_getD,show a.toNat+k=(a+k).toNat by omega]
 refine⟨λh=> ?_,λ⟨h,e⟩ k l g=>⟨ah,?_⟩⟩
 .have e:=(h ((w.length:Int)-1) ah ah).1;have c:a+w.length<=mem.length:=by omega
  refine⟨c,ext_getElem (by rw [length_drop,length_take];omega) λn f d=> ?_⟩;have:=(h n ah ah).2;rw [<-b n d c,getD_lt f,Int.toNat_natCast,getD_lt d]at this;exact this
 .have:=b k.toNat ah h;rw [e,show a+((k.toNat:Nat):Int)=a+k by omega]at this;exact this.symm
def azR{p1 f1 p2 f2}(d:Y1 p1 f1)(a:Y32 p2 f2)(e:Cac)(mem:List Int)(g:e.words.length<1000000000)(hm:mem.length<1000000000):ahr.F (p1,f1,p2,f2,()) (e,mem,()) (λy=>y=(dF mem e,())):=by
 dsimp only [ahr,gm];simp (disch:=omega) only [RR,CAB,d];refine⟨λz=> ?_,λz=> ?_⟩
 .refine Prod.ext ?_ rfl;show decide (0<=e.blk.pc)=dF mem e;rw [Bool.eq_iff_iff,decide_eq_true_eq,dF,aF];exact⟨λh=>⟨h,λk i f=>by omega⟩,λh=>h.1⟩
 .by_cases c:inB e.blk.pc 0 (mem.length-e.words.length)=true
  .obtain⟨c0,c1⟩:=bF.1 c;have w:IntKind.i64.wrap (e.blk.pc+e.words.length)=e.blk.pc+e.words.length:=w64 ah ah;have b:(drop e.blk.pc.toNat (take (e.blk.pc+e.words.length).toNat mem)).length<1000000000:=by rw [length_drop,length_take];omega
   rw [w,c,(a _ _ b).2];refine⟨Or.inr c0,Or.inr ah,Or.inr ah,Or.inr ((a _ _ b).1),?_⟩;rw [Bool.true_and];refine Prod.ext (gP ?_) rfl;rw [Oj c0 ah];exact⟨λh=>⟨c0,ah,h⟩,λh=>h.2.2⟩
  .have c':inB e.blk.pc 0 (mem.length-e.words.length)=false:=by simpa using c
   rw [c'];refine⟨Or.inl rfl,Or.inl rfl,Or.inl rfl,Or.inl rfl,?_⟩;rw [Bool.false_and];refine Prod.ext (aV λh=>c (bF.2 ⟨h.1,?_⟩)).symm rfl;have:=((Oj h.1 ah).1 h.2).1;omega
def FP(P:Cac->Bool)(l:List Cac)(k:Int):Prop:=(k= -1/\∀j:Int,0<=j->j<l.length->P ((l).getD (j).toNat default)=true)\/(0<=k/\k<l.length/\P ((l).getD (k).toNat default)=false/\∀j:Int,0<=j->j<k->P ((l).getD (j).toNat default)=true)
abbrev azS(b:Cac×bn->Bool)(a:Cac×bn->lX):Prop:=∀e mem,e.words.length<1000000000->mem.length<1000000000->b (e,mem,())=true/\a (e,mem,())=(dF mem e,())
def azT{p1 f1}(a:azS p1 f1)(e:Cac)(mem:List Int)(b:e.words.length<1000)(hm:mem.length<1000000000)(c:e.blk.pc<=1000000):ah6.F (p1,f1,()) (e,mem,()) (λy=>y=(!dF mem e,mem,())):=by
 dsimp only [ah6,gm];simp (disch:=omega) only [RR,a e mem ah hm]
abbrev azU(b:Cac×bn->Bool)(a:Cac×bn->Bool×bn):Prop:=∀e mem,e.words.length<1000->mem.length<1000000000->e.blk.pc<=1000000->b (e,mem,())=true/\a (e,mem,())=(!dF mem e,mem,())
def avC{p1 f1}(m:azU p1 f1)(l:List Cac)(mem:List Int)(h:ShK l)(hm:mem.length<1000000000):aau.F (p1,f1,()) (l,mem,()) (λy=>y.2.1=l/\y.2.2.1=mem/\FP (dF mem) l y.1):=by
 have r:=h.1;dsimp only [aau,gm];refine ay (λ(y:Int×Int×aBR)=>y.1=l.length/\0<=y.2.1/\y.2.1<=l.length/\y.2.2.1=l/\y.2.2.2.1=mem/\∀j:Int,0<=j->j<y.2.1->dF mem ((l).getD (j).toNat default)=true) (λy=>(l.length-y.2.1).toNat) ⟨rfl,by simp,by simp,rfl,rfl,λj q a=>absurd a (by simp;omega)⟩ ?_;rintro⟨(n:Int),(i:Int),(l:List Cac),(mem:List Int),⟨⟩⟩ hI;dsimp only at hI ⊢;obtain⟨rfl,a,p,rfl,rfl,b⟩:=hI;obtain⟨o,s,k⟩:=h.at i.toNat;simp (disch:=omega) only [RR,m _ mem o hm k];refine⟨λg=>⟨a,g,a,g,λe=>Or.inr ⟨a,g,e,b⟩,λe=>⟨⟨ah,ah,λj d f=> ?_⟩,ah⟩⟩,λg=>Or.inl ⟨rfl,λj d f=>b j d ah⟩⟩;by_cases c:j<i
 .exact b j d c
 .rw [show j=i by omega];exact e
def avD{p1 f1}{e:aBR->Bool}{a:aBR->Int×aBR}(u:azU p1 f1)(t:∀l mem,ShK l->mem.length<1000000000->e (l,mem,())=true/\(a (l,mem,())).2.1=l/\(a (l,mem,())).2.2.1=mem/\FP (dF mem) l (a (l,mem,())).1)(l:List Cac)(mem:List Int)(h:ShK l)(hm:mem.length<1000000000):aaF.F (p1,f1,e,a,()) (l,mem,()) (λy=>y=(mem,l.filter (dF mem),())):=by
 have x:=h.1;obtain⟨s,I⟩:=t l mem h hm;dsimp only [aaF,gm];simp (disch:=omega) only [RR,s];rw [I.1,I.2.1];have F:=I.2.2;generalize (a (l,mem,())).1=k at*;refine⟨λg=> ?_,λg=> ?_⟩
 .rw [filter_all (d:=default) λi B=> ?_];rcases F with⟨_,f⟩ | ⟨f,_⟩
  .simpa using f i ah ah
  .omega
 .obtain⟨k0,k1,k2,k3⟩:0<=k/\k<l.length/\dF mem ((l).getD (k).toNat default)=false/\∀j:Int,0<=j->j<k->dF mem ((l).getD (j).toNat default)=true:=by
   rcases F with⟨f,_⟩ | f
   .exact absurd f g
   .exact f
  have w:IntKind.i64.wrap (k+1)=k+1:=w64 ah ah;rw [w];refine ay (λ(y:Int×Int×aBR)=>y.2.2.2.1=mem/\DK (dF mem) l y.2.2.1 y.1 y.2.1) (λy=>(l.length-y.2.1).toNat) ⟨rfl,DK.start k0 k1 k2 k3⟩ ?_;rintro⟨(i:Int),(j:Int),(L:List Cac),(mem:List Int),⟨⟩⟩ hI;dsimp only at hI ⊢;obtain⟨rfl,D⟩:=hI;have r:=D.i0;have v:=D.ij;have A:=D.jl;have len:=D.len;have b:(L.length:Int)=l.length:=by omega
  by_cases c:j<l.length
  .have ej:((L).getD (j).toNat default)=((l).getD (j).toNat default):=D.b j.toNat ah;obtain⟨q,C,m⟩:=h.at j.toNat;rw [<-ej]at q m;obtain⟨o,p⟩:=u _ mem q hm m;by_cases d:dF mem ((L).getD (j).toNat default)=true
   .simp (disch:=omega) only [RR,b,c,o,p,d];exact⟨ah,ah,ah,ah,ah,ah,D.keep c d,ah⟩
   .have d:dF mem ((L).getD (j).toNat default)=false:=by simpa using d
    simp (disch:=omega) only [RR,b,c,o,p,d];exact⟨ah,ah,D.skip c d,ah⟩
  .simp (disch:=omega) only [RR,b,c];obtain⟨z1,z2⟩:=adD (L:=L) (n:=l.length) (z:=Co.mk .cac ([],0,0,[],0,0,0,0,())) r ah b;exact⟨ah,ah,ah,ah,ah,ah,ah,ah,z1,ah,ah,Int.le_trans (show 0+(i-0)<=i by omega) z1,Prod.ext rfl (Prod.ext (z2.trans (D.fin c)) rfl)⟩
def azV{p1 f1}{c:aBR->Bool}{a:aBR->List Int×vw}(b:avz p1 f1)(d:∀l mem,ShK l->mem.length<1000000000->c (l,mem,())=true/\a (l,mem,())=(mem,l.filter (dF mem),()))(l:List Cac)(mem:List Int)(h:ShK l)(hm:mem.length<1000000000):aiO.F (p1,f1,c,a,()) (l,mem,()) (λy=>y=(l.filter (dF mem),())):=by
 have sh:=QS h (dF mem);dsimp only [aiO,gm];simp (disch:=omega) only [RR,b l h,d l mem h hm,b _ sh]
structure EoD(b:List Int)(p:Int)(y:Eng×lT):Prop where
 m:MSh y.1.aj
 o:y.1.aj.outs.length<=2000
 k:ShK y.1.cache
 kl:y.1.cache.length<=10
 c:ShC y.1.aQ
 cl:y.1.aQ.length<=10
 b:y.2.1=b
 lo:p<=y.2.2.1
 hi:y.2.2.1<=p+40000000
def QT{α:Type}{l:List α}{x:α}(h:l.length<=4):(l++ [x]).length<=10:=by rw [eG,length_singleton];omega
def ShK.set{l:List Cac}(h:ShK l)(i:Nat){x:Cac}(b:x.words.length<1000)(a:x.blk.ops.length<1000000)(d:x.blk.pc<=1000000):ShK (l.set i x):=by
 refine⟨by rw [length_set];exact h.1,λc hc=> ?_⟩;rcases mem_or_eq_of_mem_set hc with g | rfl
 .exact h.2 c g
 .exact⟨b,a,d⟩
theorem avE{p1 f1 p2 f2 p3 f3 p4 f4 p5 f5 p6 f6 p7 f7 p8 f8}(U1:an5 p1 f1)(U2:aBo p2 f2)(U3:Y39 p3 f3)(v:Y38 p4 f4)(U5:Y40 p5 f5)(G:Y83 p6 f6)(s:Y84 p7 f7)(U8:aBw p8 f8)(n:Int)(b:List Int)(p:Int)(f:Bt b)(o:0<=p)(t:p<200000000):Zq.F (p1,f1,p2,f2,p3,f3,p4,f4,p5,f5,p6,f6,p7,f7,p8,f8,()) (n,b,p,()) (λy=>EoD b p y):=by
 have mE:∀c:Blk,Co.mk .blk (c.pc,c.len,c.ops,c.fin,c.x,c.y,c.k,())=c:=λ_=>rfl
 have Q:∀x y z u:Int,Co.mk .ins (x,y,z,u,())=⟨x,y,z,u⟩:=λ_ _ _ _=>rfl
 obtain⟨T,⟨e,q,E,e1,e2,H⟩⟩:=U8 b p f o ah;have R:=pkS f v;have P:=λn p o t=>(v n b p f o t).1
 obtain⟨OP,⟨O,F⟩⟩:=U3 n b q f ah ah;obtain⟨W,M⟩:=U2 1 b (q+1+1) f ah ah;have Mb:=M.b;obtain⟨P5,⟨W1,W2,W3,_⟩⟩:=U5 b (q+1+1) f ah ah;obtain⟨L,K⟩:=s b (q+1+1) f ah ah;have S:=K.b;have K1:=K.lo;have K2:=K.hi;obtain⟨m,j⟩:=s b (f7 (b,q+1+1,())).2.2.2.2.2.2.2.1 f ah ah;have l:=j.b;have i:=E.k.at (Int.toNat 0);obtain⟨P6,⟨B,I⟩⟩:=G (e.cache.getD (Int.toNat 0) default).blk b (q+1+1) i.2.1 f ah ah;have N:=B.b;obtain⟨U,J⟩:=U1 3 [⟨1,0,0,0⟩] (by decide);have lw:((lower 3 [⟨1,0,0,0⟩]).ops.length:Int)<=5000:=Kr 3 [⟨1,0,0,0⟩];have k:(lower 3 [⟨1,0,0,0⟩]).ops.length<1000000:=by omega
 have Z:=ajU 3 [⟨1,0,0,0⟩];have a:=E.kl;have h:e.aj.outs.length<=2000:=Nat.le_trans E.o (by decide);have d:=E.cl;have V:0<e.cache.length->0<=(e.cache.getD (Int.toNat 0) default).blk.pc/\(e.cache.getD (Int.toNat 0) default).blk.pc<e.aj.mem.length:=λg=>by rw [getD_lt (show Int.toNat 0<_ from g)];exact E.v _ (getElem_mem _)
 have fin:∀(M:aC) (K:List Cac) (C:List Cer) (r:Int),MSh M->M.outs.length<=2000->ShK K->K.length<=10->ShC C->C.length<=10->p<=r->r<=p+40000000->EoD b p (⟨M,K,C⟩,b,r,()):=λM K C r X a2 a3 a4 a5 a6 A w=>⟨X,a2,a3,a4,a5,a6,rfl,A,w⟩
 have Y:∀x:Cac,(([x]:List Cac).length:Int)=1:=λ_=>rfl
 have D:∀x:Cer,(([x]:List Cer).length:Int)=1:=λ_=>rfl
 dsimp only [Zq,gm,jU];simp (disch:=omega) only [RR,CAB,mE,Q,T,H,R,P,O,F,OP,W,Mb,P5,W1,L,S,m,l,P6,N,U,J,Y,D]
 repeat' (first | (refine And.intro ?_ ?_) | intro _)
 all_goals try omega
 .exact fin ⟨_,_,_,_,_,_,_,_,_,_⟩ _ _ _ ⟨Nat.lt_of_le_of_lt M.r (by decide),Nat.lt_of_le_of_lt M.m (by decide),Nat.lt_of_le_of_lt M.i (by decide),Nat.lt_of_le_of_lt M.o (by decide)⟩ (Nat.le_trans M.o (by decide)) E.k (Nat.le_trans a (by decide)) E.c (Nat.le_trans d (by decide)) (Int.le_trans ah M.lo) (Int.le_trans M.hi ah)
 .exact fin e.aj _ _ _ E.m h (E.k.add ah (show 1<1000 by decide) k Z) (QT a) E.c (Nat.le_trans d (by decide)) ah ah
 .exact fin e.aj _ _ _ E.m h (E.k.set _ i.1 (Nat.lt_of_le_of_lt B.len i.2.1) (show _<=(1000000:Int) by rw [I];exact i.2.2)) (Nat.le_trans (Nat.le_of_eq length_set) (Nat.le_trans a (by decide))) E.c (Nat.le_trans d (by decide)) (Int.le_trans ah B.lo) (Int.le_trans B.hi ah)
 .exact fin e.aj _ _ _ E.m h E.k (Nat.le_trans a (by decide)) E.c (Nat.le_trans d (by decide)) ah ah
 .exact fin e.aj _ _ _ E.m h E.k (Nat.le_trans a (by decide)) (E.c.add ah (Nat.lt_of_le_of_lt K.len (by decide)) (Nat.lt_of_le_of_lt j.len (by decide))) (QT (Nat.le_trans d (by decide))) (Int.le_trans ah j.lo) (Int.le_trans j.hi ah)
 .exact fin ⟨_,_,_,_,_,_,_,_,_,_⟩ _ _ _ ⟨E.m.1,by rw [length_set];exact E.m.2.1,E.m.2.2⟩ h E.k (Nat.le_trans a (by decide)) E.c (Nat.le_trans d (by decide)) ah ah
 .exact fin e.aj _ _ _ E.m h E.k (Nat.le_trans a (by decide)) E.c (Nat.le_trans d (by decide)) ah ah
 .exact fin e.aj _ _ _ E.m h (E.k.add ah i.1 i.2.1 i.2.2) (QT a) E.c (Nat.le_trans d (by decide)) ah ah
 .exact fin e.aj _ _ _ E.m h E.k (Nat.le_trans a (by decide)) E.c (Nat.le_trans d (by decide)) ah ah
 .exact fin e.aj _ _ _ E.m h E.k (Nat.le_trans a (by decide)) E.c (Nat.le_trans d (by decide)) ah ah
def aof{y:Eng}(h:iA y):y.cache.filter (dF y.aj.mem)=y.cache:=by
 refine filter_eq_self.2 λx b=> ?_
 obtain⟨i,a,rfl⟩:=getElem_of_mem b;have k:=h.2.1.2.1 i ah ah;rw [show((i:Int)).toNat=i from rfl,getD_lt a]at k;exact aJ ⟨k.1.2.1.pc.1,k.2⟩
abbrev azW(c:He->Bool)(a:He->Eng×lT):Prop:=∀n b p,Bt b->0<=p->p<200000000->c (n,b,p,())=true/\EoD b p (a (n,b,p,()))
variable{x:Cac}{l:List Cac}{cs:List Cer}{m:aC}
def ajV:∀w:List Int,mh w=tC w
 | []=>rfl
 | w::r=>by unfold mh tC;rw [ajV r]
def mq.e(h:mq x):ajQ x:=by
 unfold mq at h;rw [ajV]at h;exact⟨h.1,h.2.1,h.2.2⟩
def There.c{mem:List Int}(p:0<=x.blk.pc)(h:There x.words mem x.blk.pc):azF x mem:=⟨p,λt a=>h t ah ah⟩
structure KpE(l:List Cac)(cs:List Cer):Prop where
 n:l.length<=4
 r:∀x∈l,mq x
 u:l.Pairwise λa b=>a.blk.pc≠b.blk.pc
 p:uY cs
def adF{e:Eng}(h:iA e):KpE e.cache e.aQ:=⟨h.2.1.1,λx d=>by
 obtain⟨i,a,rfl⟩:=getElem_of_mem d;have k:=h.2.1.2.1 i ah ah;rw [show((i:Int)).toNat=i from rfl,getD_lt a]at k;exact k.1,pairwise_iff_getElem.2 λi j a b c=>by
 have k:=h.2.1.2.2 i j ah ah ah
 rwa [show((i:Int)).toNat=i from rfl,show((j:Int)).toNat=j from rfl,getD_lt a,getD_lt b]at k,h.2.2⟩
def Ub(h:KpE l cs)(hm:MOK m):iA ⟨m,l.filter (dF m.mem),cs⟩:=by
 refine⟨hm,⟨Nat.le_trans (length_filter_le _ _) h.n,λj c a=> ?_,λi j b d a=> ?_⟩,h.p⟩
 .rw [getD_lt (show j.toNat< (l.filter (dF m.mem)).length by dsimp only at a;omega)];have k:=mem_filter.1 (getElem_mem (show j.toNat< (l.filter (dF m.mem)).length by dsimp only at a;omega));exact⟨h.r _ k.1,(aF.1 (show bp _=true from k.2)).2⟩
 .dsimp only at a ⊢;rw [getD_lt (show i.toNat< (l.filter (dF m.mem)).length by omega),getD_lt (show j.toNat< (l.filter (dF m.mem)).length by omega)];exact pairwise_iff_getElem.1 (h.u.filter _) _ _ _ _ ah
def avF{b:Blk}(hc:uY cs)(e:dB b)(a:Ask):chk b (iU cs b a).1=true/\uY (iU cs b a).2:=by
 have s:chk b b=true:=by rw [ajv,aJ e]
 unfold iU;split
 .exact⟨s,hc⟩
 split
 .rename_i g;obtain⟨q,d,h,f⟩:=aF.1 g;have:=hc.2 q d;rw [h,f]at this;exact⟨this,hc⟩
 split
 .rename_i g;refine⟨g,by unfold Fj;rw [length_drop,eG,length_singleton];omega,λq c=> ?_⟩;have c:=mem_of_mem_drop c;rw [mem_append,mem_singleton]at c;rcases c with k | rfl
  .exact hc.2 q k
  .exact g
 .exact⟨s,hc⟩
def aog{cs c:List Cer}(h:KpE l cs)(g:mq x)(hc:uY c):KpE (kR l x) c:=by
 refine⟨?_,λy d=> ?_,?_,hc⟩
 .unfold kR;rw [length_drop,eG,length_singleton];omega
 .have d:=mem_of_mem_drop (show y∈drop _ _ from d);rw [mem_append,mem_singleton]at d;rcases d with k | rfl
  .exact h.r y (mem_filter.1 k).1
  .exact g
 .unfold kR;refine Pairwise.sublist (drop_sublist _ _) ?_;rw [pairwise_append];refine⟨h.u.filter _,pairwise_singleton _ _,λa f b e=> ?_⟩;rw [mem_singleton]at e;subst e;have:=(mem_filter.1 f).2;simpa [neP]using this
def Uc(mem:List Int):∀(n:Nat) (p:Int),0<=p->∀t:Nat,t< (dH mem n p).length->((mem).getD (p+t).toNat default)=fK ((dH mem n p).getD t default)
 | 0,_,_,t,h=>absurd h (by simp [dH])
 | n+1,p,p0,t,h=>by
  unfold dH at h ⊢;split at h
  .rename_i g;rw [eB g];obtain⟨d,⟨a,b⟩,c⟩:=aF.1 g;have z:fK (bU ((mem).getD (p).toNat default))=((mem).getD (p).toNat default):=TU a b;split at h
   .rename_i e;rw [eB e];have:t=0:=by simp at h;omega
    subst this;rw [show p+((0:Nat):Int)=p by omega];exact z.symm
   .rename_i e;rw [dY e];cases t with
    | zero=>rw [show p+((0:Nat):Int)=p by omega];exact z.symm
    | succ t=>
     have:=Uc mem n (p+1) ah t (by simpa using h);rw [show p+((t+1:Nat):Int)=p+1+t by omega,this];rfl
  .exact absurd h (by simp)
def ajW{e:Eng}(ok:iA e)(a:Ask):KpE (cB e a).1.cache (cB e a).1.aQ/\(0<=(cB e a).2.1->mq ((((cB e a).1.cache).getD ((cB e a).2.1).toNat default))/\((((cB e a).1.cache).getD ((cB e a).2.1).toNat default)).blk.pc=e.aj.pc/\There ((((cB e a).1.cache).getD ((cB e a).2.1).toNat default)).words e.aj.mem e.aj.pc):=by
 have K:=adF ok;have fc:=QO e.cache e.aj.pc;have B:=zo e.aj;unfold cB;split
 .refine⟨K,λg=> ?_⟩;rcases fc with f | ⟨q,t,n,_⟩
  .dsimp only at g;omega
  .have k:=ok.2.1.2.1 _ q t;dsimp only;rw [n]at k;exact⟨k.1,n,k.2⟩
 split
 .exact⟨K,λg=>absurd (show(0:Int)<= -1 from g) (by decide)⟩
 .rename_i g;obtain⟨h,c⟩:=B.2 ah;have ir:=ku c;have A:=avF K.p ir a;have Q:=Kw A.1;have r:=Oi c;have al:∀i∈findF e.aj,bg i:=λi s=>by
   obtain⟨j,m,rfl⟩:=getElem_of_mem s;have:=(c.ok j m).1
   rwa [getD_lt m]at this
  have p:mh ((findF e.aj).map fK)=findF e.aj:=by rw [ajV,Oh al]
  have l:(iU e.aQ (lower e.aj.pc (findF e.aj)) a).1.pc=e.aj.pc:=by rw [<-Q.2.2.1,r]
  have R:mq ⟨(findF e.aj).map fK,(iU e.aQ (lower e.aj.pc (findF e.aj)) a).1⟩:=by
   unfold mq;dsimp only;rw [p,l,length_map];exact⟨rfl,c,A.1⟩
  refine⟨aog K R A.2,λ_=> ?_⟩;dsimp only;rw [Fw];refine⟨R,l,λk v d=> ?_⟩;rw [length_map]at d;have o:=c.pc;have u:=h.m64;refine⟨ah,?_⟩;have b:=Uc e.aj.mem 8 e.aj.pc o.1 k.toNat;unfold findF at d ⊢;rw [aJ h,eB rfl]at d ⊢;have b:=b ah;rw [show((k.toNat:Nat):Int)=k by omega]at b;rw [b,getD_lt ah,getD_lt (by rw [length_map];omega),getElem_map]
def aeP{i:Ins}(g:m.halt=0):(exec m i).count=m.count+1/\(exec m i).halt<2\/2<=(exec m i).halt/\(exec m i).count=m.count:=by
 unfold exec;split
 .exact Or.inr ⟨show(2:Int)<=3 by decide,rfl⟩
 .refine Or.inl ⟨rfl,?_⟩;show(eff m i).halt<2;unfold eff
  repeat' split
  all_goals first | (dsimp only;omega) | omega
def Ky(g:m.halt=0)(b:Bool):(stepM m b).count=m.count+1/\(stepM m b).halt<2\/2<=(stepM m b).halt/\(stepM m b).count=m.count:=by
 obtain⟨_,_,e⟩:=Cm m b;have h:(smp m b).halt=0:=by unfold smp;split<;>exact g
 rw [lH,<-e];split
 .exact Or.inr ⟨show(2:Int)<=4 by decide,rfl⟩
 split
 .exact Or.inr ⟨show(2:Int)<=2 by decide,rfl⟩
 .exact aeP h
def adG(b:Blk):∀(a:List IOp) (s:MS),(s.m.halt=0\/s.m.halt=3)->(a.foldl (aK b) s).m.halt=0\/(a.foldl (aK b) s).m.halt=3
 | [],_,h=>h
 | o::r,s,h=>by
  refine adG b r _ ?_;have k:=(HZ (s:=s) o).2.1;unfold aK;split
  .exact h
  split
  .exact Or.inr rfl
  split
  .exact h.imp (λg=>k.trans g) λg=>k.trans g
  .exact h.imp (λg=>k.trans g) λg=>k.trans g
def ajX{b:Blk}(g:m.halt=0):(eZ b m).1.halt=0\/(eZ b m).1.halt=3:=by
 unfold eZ;split
 .split
  .exact Or.inl g
  .have:=adG b b.ops ⟨m,[],false⟩ (Or.inl g);unfold qE;split<;>exact this
 .exact Or.inl rfl
structure TuL(e:Eng)(q:List Int)(left:Int)(x:Eng)(k:Nat):Prop where
 ok:iA x
 k1:1<=k
 kl:(k:Int)<=left
 run:iO q k e.aj=x.aj
 cnt:(k:Int)=x.aj.count-e.aj.count+(if 2<=x.aj.halt then 1 else 0)
def Ud{e:Eng}{q:List Int}{left:Int}(a:Ask)(ok:iA e)(d:e.aj.halt=0)(g:e.aj.count<1000000)(R:1<=left):∃k:Nat,TuL e q left (goE e q left a).1 k:=by
 have hm:=ok.1;have f:∀y:Eng,y.aj=e.aj->KpE y.cache y.aQ->TuL e q left (jB y q) 1:=λy H C=>by
  have A:stS y.aj (bp (y.aj.count∈q))=stepM e.aj (bp (e.aj.count∈q)):=by
   rw [H];unfold stS;rw [aJ hm,eB rfl,dY ah]
  have u:=rF hm g (bp (e.aj.count∈q));have G:=Ky d (bp (e.aj.count∈q));unfold jB;rw [A];refine⟨Ub C u,Nat.le_refl _,ah,by unfold iO iO;rw [eB ⟨d,g⟩],?_⟩;dsimp only;rcases G with⟨j,v⟩ | ⟨j,v⟩
  .rw [dY ah];omega
  .rw [eB j];omega
 obtain⟨K,F⟩:=ajW ok a;have fm:=Ay e a;unfold goE;split
 .exact⟨1,f e rfl (adF ok)⟩
 rename_i w;split
 .exact⟨1,f _ fm K⟩
 rename_i n;split
 .exact⟨1,f _ fm K⟩
 rename_i r;obtain⟨i,F2,l⟩:=F ah;generalize ((((cB e a).1.cache).getD ((cB e a).2.1).toNat default))=x at*;have r:rG e.aj q left x.blk.len=true:=by simpa using r
 obtain⟨I,B,s⟩:=aF.1 r;have D:0<=x.blk.pc:=i.2.1.pc.1;rw [<-F2]at l;obtain⟨S,N,J,L,k,p,Q,k3,o⟩:=an9 (q:=q) i.e (l.c D) hm d F2.symm (λz=>w ⟨by
  have:=z.1;rw [Bool.or_eq_true,aF]at this;exact this,z.2⟩) (λc O P hc=>s (c-e.aj.count) ah ah (by rwa [show e.aj.count+(c-e.aj.count)=c by omega])) B
 have E:=ajX (b:=x.blk) (m:={e.aj with waits:=e.aj.waits || bp (e.aj.count∈q)}) d;have t:MOK (eZ x.blk {e.aj with waits:=e.aj.waits || bp (e.aj.count∈q)}).1:=by rw [<-o];exact QI q k hm
 generalize (eZ x.blk {e.aj with waits:=e.aj.waits || bp (e.aj.count∈q)}).1=M at*;refine⟨k,Ub K t,p,ah,o,?_⟩;dsimp only;rw [k3];rcases E with h | h
 .rw [dY ah,dY ah]
 .rw [eB h,eB ah]
end Go.TX.F
namespace Go.TX.F
open Go Go.AE Go.TX List
def pW:Ask:=⟨true,[]⟩
noncomputable def Cq (q:List Int) (d:Int):Nat->Eng->List Ask->Eng
 | 0,e,_=>e
 | f+1,e,l=>if e.aj.halt=0/\e.aj.count<1000000/\e.aj.count<d then Cq q d f (goE e q (d-e.aj.count) (l.headD pW)).1 (if(goE e q (d-e.aj.count) (l.headD pW)).2=true then l.tail else l)else e
noncomputable def wF (e:Eng) (q:List Int) (n:Int) (l:List Ask):Eng:=if bp (iA e/\n<=400)=true then Cq q (e.aj.count+n) (n.toNat+1) e l else aeN
def zq{q:List Int}{m:aC}(h:¬(m.halt=0/\m.count<1000000)):∀k:Nat,iO q k m=m
 | 0=>rfl
 | k+1=>by unfold iO;rw [dY h]
def Ol(q:List Int):∀(a b:Nat) (m:aC),iO q (a+b) m=iO q b (iO q a m)
 | 0,b,m=>by rw [Nat.zero_add];rfl
 | a+1,b,m=>by
  rw [show a+1+b=(a+b)+1 by omega,iO,iO];split
  .exact Ol q a b _
  .rename_i c;rw [zq c]
def AB(d:Int)(e:Eng):Nat:=(d-e.aj.count).toNat+(if e.aj.halt=0 then 1 else 0)
def Ue(q:List Int)(d:Int):∀(f:Nat) (e:Eng) (l:List Ask),AB d e<=f->iA e->iA (Cq q d f e l)/\(Cq q d f e l).aj=iO q (d-e.aj.count).toNat e.aj
 | 0,e,l,h,ok=>by
  unfold AB at h;have:e.aj.halt≠0:=λz=>by rw [eB z]at h;omega
  exact⟨ok,(zq (λz=>this z.1) _).symm⟩
 | f+1,e,l,h,ok=>by
  unfold Cq;split
  .rename_i c;obtain⟨a,b,j⟩:=c;obtain⟨k,T⟩:=Ud (l.headD pW) (q:=q) (left:=d-e.aj.count) ok a b ah;generalize (goE e q (d-e.aj.count) (l.headD pW)).1=x at*;have m:=T.kl;have i:=T.k1;have cn:=T.cnt;have I:=Ue q d f x (if(goE e q (d-e.aj.count) (l.headD pW)).2=true then l.tail else l) (by
    unfold AB at h ⊢;rw [eB a]at h;by_cases g:2<=x.aj.halt
    .rw [eB g]at cn;rw [dY ah];omega
    .rw [dY g]at cn;split<;>omega) T.ok
   refine⟨I.1,?_⟩;rw [I.2,show(d-e.aj.count).toNat=k+((d-e.aj.count).toNat-k) by omega,Ol,T.run];by_cases g:2<=x.aj.halt
   .rw [zq ah,zq ah]
   .rw [dY g]at cn;rw [show(d-e.aj.count).toNat-k=(d-x.aj.count).toNat by omega]
  .rename_i c;refine⟨ok,?_⟩;by_cases z:e.aj.count<d
   .exact(zq (λy=>c ⟨y.1,y.2,z⟩) _).symm
   .rw [show(d-e.aj.count).toNat=0 by omega];rfl
def ajY{e:Eng}(ok:iA e){n:Int}(hn:n<=400)(q:List Int)(l:List Ask):iA (wF e q n l)/\(wF e q n l).aj=lZ q n e.aj:=by
 unfold wF lZ;rw [aJ ⟨ok,hn⟩,aJ ⟨ok.1,hn⟩,eB rfl,eB rfl];have:=Ue q (e.aj.count+n) (n.toNat+1) e l (by unfold AB;split<;>omega) ok
 rwa [show e.aj.count+n-e.aj.count=n by omega]at this
def Ic{e:Eng}{n:Int}(h:¬(iA e/\n<=400))(q:List Int)(l:List Ask):wF e q n l=aeN:=by
 unfold wF;rw [aV h,dY (by decide)]
def adH(l:List Cac)(mem:List Int)(j:Int):Prop:=dF mem ((l).getD (j).toNat default)=true/\mq ((l).getD (j).toNat default)/\FC l (((l).getD (j).toNat default)).blk.pc j
def adI(l:List Cac)(mem:List Int):Fv l mem↔l.length<=4/\∀j:Int,0<=j->j<l.length->adH l mem j:=by
 refine⟨λ⟨k,g,o⟩=>⟨k,λj f d=> ?_⟩,λ⟨k,g⟩=>⟨k,λj f d=> ?_,λi j h n d e=> ?_⟩⟩
 .obtain⟨a,b⟩:=g j f d;exact⟨aJ ⟨a.2.1.pc.1,b⟩,a,Or.inr ⟨f,d,rfl,λi h m=>o i j h m d⟩⟩
 .obtain⟨a,b,_⟩:=g j f d;exact⟨b,(aF.1 (show bp _=true from a)).2⟩
 .obtain⟨_,_,c⟩:=g j ah d;rcases c with⟨c,_⟩ | ⟨_,_,_,c⟩
  .omega
  .exact c i h n e
theorem aBz{p1 f1}(m:aa8 p1 f1)(w:List Int)(h:w.length<1000000000):aqT.F (p1,f1,()) (w,()) (λy=>y=(mh w,())):=by
 have e:∀x y z u:Int,Co.mk .ins (x,y,z,u,())=⟨x,y,z,u⟩:=λ_ _ _ _=>rfl
 dsimp only [aqT,gm];simp only [RR];refine ay (λ(y:List Int×Int×mQ)=>y.1=w/\y.2.1=w.length/\0<=y.2.2.1/\y.2.2.1<=w.length/\y.2.2.2.1=(w.take y.2.2.1.toNat).map bU/\∀x∈w.take y.2.2.1.toNat,Wo x/\bg (bU x)) (λy=>(w.length-y.2.2.1).toNat) ⟨rfl,rfl,by simp,by simp,by simp,by simp⟩ ?_;rintro⟨(w:List Int),(n:Int),(i:Int),(o:List Ins),⟨⟩⟩ hI;dsimp only at hI ⊢;obtain⟨rfl,rfl,b,p,rfl,a⟩:=hI;simp (disch:=omega) only [RR,m];have tl:=length_take_le' i.toNat w;refine⟨λg=>⟨b,g,?_⟩,λg=> ?_⟩
 .have dr:w=w.take i.toNat++(w.getD i.toNat default::w.drop (i.toNat+1)):=by
   rw [getD_lt ah,<-drop_eq_getElem_cons ah,take_append_drop]
  unfold tkI;by_cases c:Wo (w.getD i.toNat default)/\bg (bU (w.getD i.toNat default))
  .rw [eB (aJ c)];simp (disch:=omega) only [RR,e];have j:=bA (d:=default) b g (l:=w) rfl;have k:((w.take i.toNat).map bU).length=i.toNat:=by rw [length_map,length_take];omega
   refine⟨by rw [k];simp only [fA,fE];omega,⟨ah,ah,by rw [<-j,map_append];rfl,λx f=> ?_⟩,ah⟩;rw [<-j,mem_append,mem_singleton]at f;exact f.elim (a x) (λq=>q▸c)
  .rw [dY (by rw [aV c];decide)];simp (disch:=omega) only [RR]
   conv=>rhs;rw [dr]
   rw [zn _ _ a,mh,dY (by rw [aV c];decide),append_nil]
   done
 .rw [take_of_length_le ah]at a ⊢;have:=zn w [] a;rw [append_nil]at this;rw [this];simp [mh]
theorem azX{p1 f1 p2 f2 p3 f3 p4 f4 p5 f5 p6 f6}(R:azo p1 f1)(N:azl p2 f2)(M:azH p3 f3)(Q:azS p4 f4)(G:au6 p5 f5)(H:Y96 p6 f6)(l:List Cac)(mem:List Int)(h:ShX l)(hm:mem.length<1000000000):aia.F (p1,f1,p2,f2,p3,f3,p4,f4,p5,f5,p6,f6,()) (l,mem,()) (λy=>y=(bp (Fv l mem),())):=by
 have mE:∀c:Blk,Co.mk .blk (c.pc,c.len,c.ops,c.fin,c.x,c.y,c.k,())=c:=λ_=>rfl
 have mC:=CAM;have L:=h.1;dsimp only [aia,gm,jU];refine ay (λ(y:List Cac×List Int×List Cac×sj)=>y.1=l/\y.2.1=mem/\y.2.2.1=l/\y.2.2.2.1=l.length/\0<=y.2.2.2.2.1/\y.2.2.2.2.1<=l.length/\∀j:Int,0<=j->j<y.2.2.2.2.1->adH l mem j) (λy=>(l.length-y.2.2.2.2.1).toNat) ⟨rfl,rfl,rfl,rfl,by simp,by simp,λj V F=>absurd F (by simp;omega)⟩ ?_;rintro⟨(X:List Cac),(b:List Int),(a:List Cac),(n:Int),(i:Int),⟨⟩⟩ hI;dsimp only at hI ⊢;obtain⟨rfl,rfl,rfl,rfl,v,U,u⟩:=hI;obtain⟨w,S⟩:=h.at i.toNat;have tl:=QM (((a).getD (i).toNat default)).words;obtain⟨E,C⟩:=M (((a).getD (i).toNat default)).words w;obtain⟨B,D⟩:=Q ((a).getD (i).toNat default) b w hm;obtain⟨J,P⟩:=N (((a).getD (i).toNat default)).blk.pc (mh (((a).getD (i).toNat default)).words) ah;obtain⟨I,K⟩:=R (((a).getD (i).toNat default)).blk.pc (mh (((a).getD (i).toNat default)).words) ah;have W:((lower (((a).getD (i).toNat default)).blk.pc (mh (((a).getD (i).toNat default)).words)).ops.length:Int)<=5000:=Kr _ _;obtain⟨O,x⟩:=H (lower (((a).getD (i).toNat default)).blk.pc (mh (((a).getD (i).toNat default)).words)) (((a).getD (i).toNat default)).blk ah S;obtain⟨T,s⟩:=G a (((a).getD (i).toNat default)).blk.pc L;generalize hk:(f5 (a,(((a).getD (i).toNat default)).blk.pc,())).1=k at s;by_cases c:i<a.length
 .simp (disch:=omega) only [RR,CAB,mE,c,I,K,J,P,E,C,B,D,T,hk,O,x];have f:adH a b i↔((dF b ((a).getD (i).toNat default)=true/\((mh (((a).getD (i).toNat default)).words).length:Int)=(((a).getD (i).toNat default)).words.length)/\bp (ni (((a).getD (i).toNat default)).blk.pc (mh (((a).getD (i).toNat default)).words))=true)/\chk (lower (((a).getD (i).toNat default)).blk.pc (mh (((a).getD (i).toNat default)).words)) (((a).getD (i).toNat default)).blk=true/\k=i:=
   ⟨λ⟨d,⟨q,m,r⟩,o5⟩=>⟨⟨⟨d,ah⟩,aJ m⟩,r,FC.one s o5⟩,λ⟨⟨⟨d,q⟩,m⟩,r,o5⟩=>⟨d,⟨ah,aF.1 m,r⟩,o5▸s⟩⟩
  have p:¬adH a b i->((false,()):lX)=(bp (Fv a b),()):=λn=>by rw [aV (λz=>n (((adI a b).1 z).2 i v c))]
  refine⟨v,λg=>⟨λe=>p (λo=> ?_),λe=>⟨⟨ah,ah,λj t A=> ?_⟩,ah⟩⟩,λg=>⟨g,p (λo=> ?_),λz=>z.1.elim⟩⟩
  .obtain⟨⟨⟨d,q⟩,m⟩,r,o5⟩:=f.1 o;rcases e with(((e | e) | e) | e) | e
   .rw [d]at e;cases e
   .exact e q
   .rw [m]at e;cases e
   .rw [r]at e;cases e
   .exact e o5
  .by_cases z:j<i
   .exact u j t z
   .rw [show j=i by omega];exact f.2 ⟨e.1.1,e.1.2,e.2⟩
  .obtain⟨⟨⟨d,q⟩,m⟩,_⟩:=f.1 o;rcases g with(e | e) | e
   .rw [d]at e;cases e
   .exact e q
   .rw [m]at e;cases e
 .simp (disch:=omega) only [RR,c];refine Prod.ext (Bool.eq_iff_iff.2 ?_) rfl;rw [decide_eq_true_eq,aF,adI];exact⟨λg=>⟨ah,λj t A=>u j t ah⟩,λg=>by have:=g.1;omega⟩
def azY{p1 f1 p2 f2 p3 f3}(m:azI p1 f1)(k:ayX p2 f2)(j:QG p3 f3)(e:Eng)(a:MSh e.aj)(i:ShX e.cache)(l:ShD e.aQ):aif.F (p1,f1,p2,f2,p3,f3,()) (e,()) (λy=>y=(bp (iA e),())):=by
 have b:=λz1 z2 z3 z4=>(m z1 z2 z3 z4).1
 have h:=λz1 z2 z3 z4=>(m z1 z2 z3 z4).2
 have f:=λz1 z2=>(k z1 z2).1
 have g:=λz1 z2=>(k z1 z2).2
 have d:=λz1 z2=>(j z1 z2).1
 have c:=λz1 z2=>(j z1 z2).2
 have mM:=MKM;have n:=b _ e.aj.mem i a.2.1;have o:=h _ e.aj.mem i a.2.1;dsimp only [aif,gm,jG]at*;simp (disch:=omega) only [RR,EGB,mM,d _ a,c _ a,n,o,f _ l,g _ l];unfold iA;rw [eH,eH,Bool.and_assoc]
variable{K:List Cac}{C:List Cer}
abbrev mK(K:List Cac)(C:List Cer)(m:aC):ak:=(m.pc,m.save,m.aL,m.waits,m.halt,m.ins,m.count,K,C,m.regs,m.mem,m.outs,())
def QU{m:aC}{i:Ins}{u:aC}(h:exec m i=u):mK K C u=mK K C (exec m i):=by rw [h]
def gF{m:aC}{i:Ins}(h:¬((i.op=9\/i.op=10)/\64<=adr m i)){u:aC}(e:eff m i=u){n:Int}(f:nxt m i=n):mK K C {u with pc:=n,count:=m.count+1}=mK K C (exec m i):=by
 refine QU ?_;unfold exec;rw [dY h,e,f]
def azZ(f c:Int)(lt g:Bool)(b:Int)(ins:List Int)(d:Int)(K:List Cac)(C:List Cer)(regs mem a:List Int)(h:ins.length<1000000000):aip.F () (f,c,lt,g,b,ins,d,K,C,regs,mem,a,()) (λy=>y=(ins.getD 0 default,f,c,lt,g,b,ins.drop 1,d,K,C,regs,mem,a,())):=by
 dsimp only [aip,gm];simp (disch:=omega) only [RR];refine⟨λe=> ?_,λe=> ?_⟩
 .have:ins=[]:=eq_nil_of_length_eq_zero ah;subst this;rfl
 .exact⟨ah,ah,ah,ah,ah,by rw [take_of_length_le ah];rfl⟩
abbrev az0(h:ak->Bool)(g:ak->Int×ak):Prop:=∀(d c:Int) (lt e:Bool) (b:Int) (ins:List Int) (f:Int) (K:List Cac) (C:List Cer) (regs mem a:List Int),ins.length<1000000000->h (d,c,lt,e,b,ins,f,K,C,regs,mem,a,())=true/\g (d,c,lt,e,b,ins,f,K,C,regs,mem,a,())=(ins.getD 0 default,d,c,lt,e,b,ins.drop 1,f,K,C,regs,mem,a,())
set_option maxHeartbeats 1000000 in
theorem az1{p1 f1 p2 f2 p3 f3 p4 f4}(M:az0 p1 f1)(I:Y24 p2 f2)(H:Y59 p3 f3)(v:Y10 p4 f4)(i:Ins)(m:aC)(K:List Cac)(C:List Cer)(h:MOK m)(L:bg i)(hn:m.ins.length<1000000000)(U:m.outs.length<900000000):air.F (p1,f1,p2,f2,p3,f3,p4,f4,()) (i,m.pc,m.save,m.aL,m.waits,m.halt,m.ins,m.count,K,C,m.regs,m.mem,m.outs,()) (λy=>y=mK K C (exec m i)):=by
 obtain⟨⟨Z,T⟩,⟨p,S⟩,⟨t,a1⟩,j,R,O,X,B,N,W,_⟩:=L;have P:i.k<=255:=by omega
 have l:=h.r4;have A:=h.m64;have c:=h.ct;have V:0<=m.pc/\m.pc<=65535:=h.pc;have f:=h.rw.at i.a;have w:=h.rw.at i.d;obtain⟨n,x⟩:=HV w f;have s:inB ((m.regs).getD (i.d).toNat default) 0 65535=true:=bF.2 w;have k:inB ((m.regs).getD (i.a).toNat default) 0 65535=true:=bF.2 f;have D:0<=((m.regs).getD (i.a).toNat default)/\((m.regs).getD (i.a).toNat default)<=65535:=f;obtain⟨F,G⟩:=M m.pc m.save m.aL m.waits m.halt m.ins m.count K C m.regs m.mem m.outs hn;have o:(((m.regs).getD (i.a).toNat default)+i.k)%65536=adr m i:=rfl;have J:0<=adr m i:=by unfold adr;omega
 have Y:∀r a b:Int,(inB a 0 65535&&inB b 0 65535&&decide (r=1/\a=b\/r=2/\a<b))=xP r a b:=λ_ _ _=>rfl
 dsimp only [air,gm];rcases(by omega:i.op=0\/i.op=1\/i.op=2\/(3<=i.op/\i.op<=7)\/i.op=8\/i.op=9\/i.op=10\/i.op=11\/i.op=12\/i.op=13\/i.op=14\/i.op=15)with e | e | e | e | e | e | e | e | e | e | e | e
 case inr.inr.inr.inl=>
  have E:∀z:Int,z<3\/7<z->¬i.op=z:=λz g q=>by omega
  have Q:=B e;simp (disch:=omega) only [RR,IR,E,v,o,I,l,p,t,j,fH,or_self,false_and,and_false];refine⟨ah,ah,ah,λ_=>⟨ah,ah,ah,?_⟩⟩;rw [show i.op-3+1=i.op-2 by omega];exact gF (K:=K) (C:=C) (u:={m with regs:=m.regs.set i.d.toNat (wdo (i.op-2) ((m.regs).getD (i.a).toNat default) ((m.regs).getD (i.k).toNat default))}) (n9 ah) (efd e) (nxp ah)
 all_goals simp (disch:=omega) only [RR,IR,e,Int.reduceEq,Int.reduceSub,Int.reduceAdd,v,o,H,F,G,l,A,p,t,j,fH,or_self,false_and,and_false,true_or,or_true,true_and,fA,fE]
 .refine⟨ah,ah,ah,λ_=>⟨λg=> ?_,λg=>⟨λd=> ?_,λd=> ?_⟩⟩⟩
  .exact gF (K:=K) (C:=C) (u:={m with halt:=1}) (n9 ah) (by rw [ef0 e,eB g]) (nxp ah)
  .exact gF (K:=K) (C:=C) (u:={m with aL:=true}) (n9 ah) (by rw [ef0 e,dY g,eB d]) (by unfold nxt;rw [eB ⟨e,d⟩])
  .exact gF (K:=K) (C:=C) (u:={m with aL:=decide (i.k=2)}) (n9 ah) (by rw [ef0 e,dY g,dY d]) (nxp ah)
 .exact⟨ah,ah,ah,λ_=>⟨ah,gF (K:=K) (C:=C) (u:={m with regs:=m.regs.set i.d.toNat i.k}) (n9 ah) (ef1 e) (nxp ah)⟩⟩
 .exact⟨ah,ah,ah,λ_=>⟨ah,gF (K:=K) (C:=C) (u:={m with regs:=m.regs.set i.d.toNat ((m.regs).getD (i.a).toNat default)}) (n9 ah) (ef2 e) (nxp ah)⟩⟩
 .rw [ajL f j (N e)];exact⟨ah,ah,ah,λ_=>⟨ah,gF (K:=K) (C:=C) (u:={m with regs:=m.regs.set i.d.toNat (((m.regs).getD (i.a).toNat default)*2^i.k.toNat%65536)}) (n9 ah) (ef8 e) (nxp ah)⟩⟩
 .refine⟨ah,ah,ah,λg=> ?_,λg=> ?_⟩
  .exact QU (K:=K) (C:=C) (by unfold exec;rw [eB ⟨Or.inl e,g⟩])
  .have g':¬64<=adr m i:=λq=>by simp [q]at g
   exact⟨ah,ah,ah,ah,ah,gF (K:=K) (C:=C) (u:={m with regs:=m.regs.set i.d.toNat ((m.mem).getD (adr m i).toNat default)}) (λq=>g' q.2) (ef9 e) (nxp ah)⟩
 .refine⟨ah,ah,ah,λg=> ?_,λg=> ?_⟩
  .exact QU (K:=K) (C:=C) (by unfold exec;rw [eB ⟨Or.inr e,g⟩])
  .have g':¬64<=adr m i:=λq=>by simp [q]at g
   exact⟨ah,ah,ah,ah,ah,gF (K:=K) (C:=C) (u:={m with mem:=m.mem.set (adr m i).toNat ((m.regs).getD (i.d).toNat default)}) (λq=>g' q.2) (an0 e) (nxp ah)⟩
 .have ef:eff m i=m:=efj ah;refine⟨ah,ah,ah,λ_=>⟨ah,λg=> ?_,λg=> ?_⟩⟩
  .exact gF (K:=K) (C:=C) (u:=m) (n9 ah) ef (by unfold nxt;rw [dY ah,eB ⟨Or.inl e,by rw [e];exact n.2 g.2⟩])
  .rw [s,k]at g;exact gF (K:=K) (C:=C) (u:=m) (n9 ah) ef (by unfold nxt;rw [dY ah,dY (λq=>of_decide_eq_false g (n.1 (by have:=q.2;rw [e]at this;exact this))),dY ah])
 .have ef:eff m i=m:=efj ah;refine⟨ah,ah,ah,λ_=>⟨ah,λg=> ?_,λg=> ?_⟩⟩
  .exact gF (K:=K) (C:=C) (u:=m) (n9 ah) ef (by unfold nxt;rw [dY ah,eB ⟨Or.inr e,by rw [e];exact x.2 g.2⟩])
  .rw [s,k]at g;exact gF (K:=K) (C:=C) (u:=m) (n9 ah) ef (by unfold nxt;rw [dY ah,dY (λq=>of_decide_eq_false g (x.1 (by have:=q.2;rw [e]at this;exact this))),dY ah])
 .exact⟨ah,ah,ah,λ_=>gF (K:=K) (C:=C) (u:=m) (n9 ah) (efj ah) (by unfold nxt;rw [dY ah,dY ah,eB e];rfl)⟩
 .exact⟨ah,ah,ah,λ_=>⟨ah,ah,gF (K:=K) (C:=C) (u:={m with outs:=m.outs++ [((m.regs).getD (i.d).toNat default)]}) (n9 ah) (auj e) (nxp ah)⟩⟩
 .exact⟨ah,ah,ah,λ_=>⟨ah,gF (K:=K) (C:=C) (u:={m with regs:=m.regs.set i.d.toNat (m.ins.getD 0 default),ins:=m.ins.drop 1}) (n9 ah) (an1 e) (nxp ah)⟩⟩
set_option maxHeartbeats 1000000 in
theorem az2{p1 f1}{u:Ins×ak->Bool}{A:Ins×ak->ak}(n:aa8 p1 f1)(z:∀(i:Ins) (m:aC) (K:List Cac) (C:List Cer),MOK m->bg i->m.ins.length<1000000000->m.outs.length<900000000->u (i,m.pc,m.save,m.aL,m.waits,m.halt,m.ins,m.count,K,C,m.regs,m.mem,m.outs,())=true/\A (i,m.pc,m.save,m.aL,m.waits,m.halt,m.ins,m.count,K,C,m.regs,m.mem,m.outs,())=mK K C (exec m i))(b:Bool)(m:aC)(K:List Cac)(C:List Cer)(h:MOK m)(hn:m.ins.length<1000000000)(w:m.outs.length<900000000):ait.F (p1,f1,u,A,()) (b,m.pc,m.save,m.aL,m.waits,m.halt,m.ins,m.count,K,C,m.regs,m.mem,m.outs,()) (λy=>y=mK K C (stepM m b)):=by
 have s:=QH h b;obtain⟨B,v,_⟩:=Cm m b;have a:=λi r=>(z i (smp m b) K C s r (by rw [B];exact hn) (by rw [v];exact w)).1
 have d:=λi r=>(z i (smp m b) K C s r (by rw [B];exact hn) (by rw [v];exact w)).2
 have G:=s.m64;have x:0<=(smp m b).pc/\(smp m b).pc<=65535:=s.pc;have D:=s.mw.at (smp m b).pc;have T:(bg (bU (((smp m b).mem).getD ((smp m b).pc).toNat default))->tkI (((smp m b).mem).getD ((smp m b).pc).toNat default)=((bU (((smp m b).mem).getD ((smp m b).pc).toNat default)).op,(bU (((smp m b).mem).getD ((smp m b).pc).toNat default)).d,(bU (((smp m b).mem).getD ((smp m b).pc).toNat default)).a,(bU (((smp m b).mem).getD ((smp m b).pc).toNat default)).k,true,()))/\(¬bg (bU (((smp m b).mem).getD ((smp m b).pc).toNat default))->tkI (((smp m b).mem).getD ((smp m b).pc).toNat default)=(0,0,0,0,false,())):=
  ⟨λk=>by unfold tkI;rw [aJ ⟨D,k⟩,eB rfl],λk=>by unfold tkI;rw [aV (λq=>k q.2),dY (by decide)]⟩
 have l:∀i:Ins,Co.mk .ins (i.op,i.d,i.a,i.k,())=i:=λ_=>rfl
 have fin:∀S:aC,S=smp m b->(64<=S.pc->(S.pc,S.save,S.aL,S.waits,(4:Int),S.ins,S.count,K,C,S.regs,S.mem,S.outs,())=mK K C (stepM m b))/\(¬64<=S.pc->(¬bg (bU ((S.mem).getD (S.pc).toNat default))->(S.pc,S.save,S.aL,S.waits,(2:Int),S.ins,S.count,K,C,S.regs,S.mem,S.outs,())=mK K C (stepM m b))/\(bg (bU ((S.mem).getD (S.pc).toNat default))->exec S (bU ((S.mem).getD (S.pc).toNat default))=stepM m b)):=by
  rintro S rfl;rw [lH];refine⟨λq=>by rw [eB q],λq=>⟨λk=>by rw [dY q,aV k,eB rfl],λk=>by rw [dY q,aJ k,dY (by decide)]⟩⟩
 have F:=fin _ rfl;have f:=h.m64;dsimp only [ait,gm];have j:((64:Int)<=48)=False:=eq_false (by decide);by_cases c:(m.waits || b)=true/\m.aL=true
 .have e:smp m b={m with waits:=false,aL:=false,save:=m.pc,pc:=48}:=by unfold smp;rw [eB c]
  rw [e]at T a d F;dsimp only at T a d F;have F2:=F.2 (by decide);by_cases k:bg (bU ((m.mem).getD ((48:Int)).toNat default))
  .have t:=T.1 k;have E:=F2.2 k;simp (disch:=omega) only [RR,c.1,c.2,j,Bool.and_self,n,t,l,a _ k,d _ k,E,f,fH];exact⟨ah,ah,ah,ah⟩
  .have t:=T.2 k;have E:=F2.1 k;simp (disch:=omega) only [RR,c.1,c.2,j,Bool.and_self,n,t,l,E,f,fH];exact⟨ah,ah,ah,ah⟩
 .have e:smp m b={m with waits:=m.waits || b}:=by unfold smp;rw [dY c]
  have o:((m.waits || b)&&m.aL)=false:=by
   cases g:((m.waits || b)&&m.aL)with
   | false=>rfl
   | true=>rw [Bool.and_eq_true]at g;exact absurd g c
  rw [e]at T a d F x;dsimp only at T a d F x;by_cases p:64<=m.pc
  .have E:=F.1 p;simp (disch:=omega) only [RR,o,p,E,f,fH]
  have F2:=F.2 p;by_cases k:bg (bU ((m.mem).getD (m.pc).toNat default))
  .have t:=T.1 k;have E:=F2.2 k;simp (disch:=omega) only [RR,o,p,n,t,l,a _ k,d _ k,E,f,fH];exact⟨ah,ah,ah,ah⟩
  .have t:=T.2 k;have E:=F2.1 k;simp (disch:=omega) only [RR,o,p,n,t,l,E,f,fH];exact⟨ah,ah,ah,ah⟩
def RTK(K:List Cac)(C:List Cer)(b:Blk)(a:aC)(y:I4):Prop:=
 ∃(i:Nat) (S:MS),i<=b.ops.length/\RJ b a i S/\y=(b.ops,(b.ops.length:Int),(i:Int),S.m.pc,S.m.save,S.m.aL,S.m.waits,S.m.halt,S.m.ins,S.m.count,K,C,S.m.regs,S.m.mem,b,S.vals++replicate (b.ops.length-i) 0,S.m.outs,())
def RTK.next{b:Blk}{a:aC}{i:Nat}{S:MS}{o:IOp}{y:I4}(h:RJ b a i S)(c:i<b.ops.length)(g:b.ops.getD i default=o)(d:o.kind=1->0<=o.k/\o.k<=65535)
  (j:¬((o.kind=4\/o.kind=5)/\64<=vx S o)) (f:¬(o.kind=5/\b.pc+o.at_+1<=vx S o/\vx S o<=b.pc+b.len-1))
  (e:y=(b.ops,(b.ops.length:Int),(i:Int)+1,(mM S o).pc,(mM S o).save,(mM S o).aL,(mM S o).waits,(mM S o).halt,(mM S o).ins,(mM S o).count,K,C,(mM S o).regs,(mM S o).mem,b,(S.vals++ [mV S o])++replicate (b.ops.length- (i+1)) 0,(mM S o).outs,())):
  RTK K C b a y/\(b.ops.length-y.2.2.1).toNat< (b.ops.length- (i:Int)).toNat:=by
 subst e;exact⟨⟨i+1,_,c,h.next c g d j f,rfl⟩,by dsimp only;omega⟩
set_option maxHeartbeats 2000000 in
theorem az3{p1 f1 p2 f2 p3 f3 p4 f4}(U1:az0 p1 f1)(U2:Y24 p2 f2)(U3:Y59 p3 f3)(U4:Y1 p4 f4)(b:Blk)(m:aC)(K:List Cac)(C:List Cer)(G:dB b)(hm:MOK m)(hs:MSh m)(ho:m.outs.length<900000000):aiM.F (p1,f1,p2,f2,p3,f3,p4,f4,()) (b,m.pc,m.save,m.aL,m.waits,m.halt,m.ins,m.count,K,C,m.regs,m.mem,m.outs,()) (λy=>y=mK K C (qE b (b.ops.foldl (aK b) ⟨m,[],false⟩))):=by
 have sz:=G.sz;dsimp only [aiM,gm];simp (disch:=omega) only [RR,RB];refine⟨ah,ah,ay (RTK K C b m) (λy=>(b.ops.length-y.2.2.1).toNat) ⟨0,⟨m,[],false⟩,Nat.zero_le _,⟨rfl,rfl,rfl,(by intro n hn;cases hn),hm,hs.2.2.1,Nat.le_add_right _ _⟩,rfl⟩ ?_⟩;rintro y ⟨i,S,hi,R,rfl⟩;dsimp only;have ok:=R.ok;have pw:0<=S.m.pc/\S.m.pc<=65535:=ok.pc;have cw:=ok.ct;have bl:=G.ln;have a2:=G.pc;have P:=G.en;by_cases M:i<b.ops.length
 case neg=>
  have ei:i=b.ops.length:=by omega
  have eS:b.ops.foldl (aK b) ⟨m,[],false⟩=S:=by rw [R.e,ei];unfold SM;rw [take_of_length_le (Nat.le_refl _)]
  have vl:(S.vals++replicate (b.ops.length-i) 0)=S.vals:=by rw [ei,Nat.sub_self];simp
  have L:=R.ln;rw [eS];unfold qE;rw [R.lf,dY (by decide)];rw [vl];have hf:=P.f;have E:=P.x1;have y1:=P.y1;unfold Vl at E y1;have hh:¬((i:Int)<b.ops.length):=by omega
  rcases(by omega:b.fin=1\/b.fin=2\/b.fin=3\/b.fin=4)with f | f | f | f
  all_goals simp (disch:=omega) only [RR,RB,f,Int.reduceEq,Int.reduceSub,Int.reduceAdd,U3,false_and,hh]
  .have v:=E ah;exact⟨v.1,ah,v.1,ah⟩
  .have v:=E ah;have w:=y1 ah;refine⟨v.1,ah,v.1,ah,w.1,ah,w.1,ah,λh=> ?_,λh=> ?_⟩
   .rw [eB (by rw [QE,h.1.1,h.1.2,h.2];simp)]
   .rw [dY (by rw [QE,h];decide)]
  .have v:=E ah;have w:=y1 ah;refine⟨v.1,ah,v.1,ah,w.1,ah,w.1,ah,λh=> ?_,λh=> ?_⟩
   .rw [eB (by rw [QF,h.1.1,h.1.2];simpa using h.2)]
   .rw [dY (by rw [QF,h];decide)]
 have d:=G.op i ah ah;have eT:((i:Int)).toNat=i:=rfl;generalize t:((b.ops).getD ((i:Int)).toNat default)=o at*;rw [eT]at t;have kd:=d.kd;have E:=d.x1;have y1:=d.y1;unfold Vl at E y1;have k1:=d.k1;have N:=d.k2;have k3:=d.k3;have Z:=d.a1;have a0:=d.a0;have L:=R.ln;have D:=atV (n:=b.ops.length) L hi;have z:=λ{y} c1 c2 e=>RTK.next (K:=K) (C:=C) (y:=y) R M t k1 c1 c2 e
 have F:∀v:Int,(S.vals++replicate (b.ops.length-i) 0).set i v=(S.vals++ [v])++replicate (b.ops.length- (i+1)) 0:=λv=>atU L M v
 have O:(S.vals++replicate (b.ops.length-i) 0)=(S.vals++ [0])++replicate (b.ops.length- (i+1)) 0:=anX M;have va:∀x:Int,0<=x->x<i->((S.vals++replicate (b.ops.length-i) 0).getD (x).toNat default)=((S.vals).getD (x).toNat default):=λx a c=>azh L a c
 have xb:0< (i:Int)->0<=o.x/\o.x<b.ops.length:=λ_=>by
  by_cases h:hX o
  .have:=E h;omega
  .have:=d.x0 h;omega
 have yb:0< (i:Int)->0<=o.y/\o.y<b.ops.length:=λ_=>by
  by_cases h:hY o
  .have:=y1 h;omega
  .have:=d.y0 h;omega
 have lv:∀Q:aC,aK b S o=⟨Q,S.vals,true⟩->b.ops.foldl (aK b) ⟨m,[],false⟩=⟨Q,S.vals,true⟩:=λQ h=>adh (i:=i+1) (by rw [QD M,<-R.e,t];exact h)
 have I:=ok.m64;have T:=ok.r4;have lo:=R.lo;have W:=R.li;have A:(0:Int)<=i:=by omega
 have B:(i:Int)<b.ops.length:=by omega
 generalize hV:S.vals++replicate (b.ops.length-i) 0=V at*;by_cases u:0< (i:Int)
 case neg=>
  have nX:¬hX o:=λh=>by have:=E h;omega
  rcases(by omega:o.kind=1\/o.kind=2\/o.kind=6)with k | k | k
  .simp (disch:=omega) only [RR,RB,t,eT,u,k,Int.reduceEq,false_and,decide_false,decide_true,Bool.or_false,Bool.false_or,Bool.false_and,Bool.true_and,Bool.true_or,Bool.or_true,or_self,D,A,B];exact z (λh=>by omega) (λh=>by omega) (by rw [F];simp [mM,mV,k])
  .have g:=N (Or.inl k);simp (disch:=omega) only [RR,RB,t,eT,u,k,Int.reduceEq,false_and,decide_false,decide_true,Bool.or_false,Bool.false_or,Bool.false_and,Bool.true_and,Bool.true_or,Bool.or_true,or_self,D,A,B,T];exact⟨g.1,ah,g.1,ah,z (λh=>by omega) (λh=>by omega) (by rw [F];simp [mM,mV,k])⟩
  .simp (disch:=omega) only [RR,RB,t,eT,u,k,Int.reduceEq,false_and,decide_false,decide_true,Bool.or_false,Bool.false_or,Bool.false_and,Bool.true_and,Bool.true_or,Bool.or_true,or_self,D,A,B,U1 _ _ _ _ _ _ _ _ _ _ _ _ W];exact z (λh=>by omega) (λh=>by omega) (by rw [F];simp [mM,mV,k])
 obtain⟨p,j⟩:=xb u;obtain⟨q,r⟩:=yb u;have H:hX o->((V).getD (o.x).toNat default)=vx S o:=λh=>by
  have:=E h;unfold vx;rw [eB h];exact va o.x this.1 this.2.1
 have ey:hY o->((V).getD (o.y).toNat default)=vy S o:=λh=>by
  have:=y1 h;unfold vy;rw [eB h];exact va o.y this.1 this.2.1
 have U:=ajA R.wv o;have wy:=ao6 R.wv o;generalize s:((V).getD (o.x).toNat default)=X at*;generalize l:((V).getD (o.y).toNat default)=Y at*;rcases(by omega:o.kind=1\/o.kind=2\/o.kind=3\/o.kind=4\/o.kind=5\/o.kind=6\/o.kind=7\/o.kind=8)with k | k | k | k | k | k | k | k
 .simp (disch:=omega) only [RR,RB,t,eT,u,k,Int.reduceEq,false_and,decide_false,decide_true,Bool.or_false,Bool.false_or,Bool.false_and,Bool.true_and,Bool.true_or,Bool.or_true,or_self,D,A,B,p,j,q,r,s,l];exact z (λh=>by omega) (λh=>by omega) (by rw [F];simp [mM,mV,k])
 .have g:=N (Or.inl k);simp (disch:=omega) only [RR,RB,t,eT,u,k,Int.reduceEq,false_and,decide_false,decide_true,Bool.or_false,Bool.false_or,Bool.false_and,Bool.true_and,Bool.true_or,Bool.or_true,or_self,D,A,B,p,j,q,r,s,l,T];exact⟨g.1,ah,g.1,ah,z (λh=>by omega) (λh=>by omega) (by rw [F];simp [mM,mV,k])⟩
 .have e1:=H (by unfold hX;omega);have J:=ey (Or.inl k);simp (disch:=omega) only [RR,RB,t,eT,u,k,Int.reduceEq,false_and,decide_false,decide_true,Bool.or_false,Bool.false_or,Bool.false_and,Bool.true_and,Bool.true_or,Bool.or_true,or_self,D,A,B,p,j,q,r,s,l,U2];exact z (λh=>by omega) (λh=>by omega) (by rw [F];simp [mM,mV,k,e1,J])
 .have e1:=H (by unfold hX;omega);have g:=Z (by unfold evO;omega);unfold Wo at U;simp (disch:=omega) only [RR,RB,t,eT,u,k,Int.reduceEq,false_and,decide_false,decide_true,Bool.or_false,Bool.false_or,Bool.false_and,Bool.true_and,Bool.true_or,Bool.or_true,or_self,D,A,B,p,j,q,r,s,l,I];refine⟨λh=> ?_,λh=> ?_⟩
  .rw [lv (leave S.m o.at_ 3) (by unfold aK;rw [dY (by rw [R.lf];decide),eB ⟨Or.inl k,ah⟩])];simp [qE,leave,mK]
  .exact⟨ah,ah,ah,ah,z (λh=>by omega) (λh=>by omega) (by rw [F];simp [mM,mV,k,e1])⟩
 .have e1:=H (by unfold hX;omega);have J:=ey (Or.inr k);have g:=Z (by unfold evO;omega);unfold Wo at U;simp (disch:=omega) only [RR,RB,t,eT,u,k,Int.reduceEq,false_and,decide_false,decide_true,Bool.or_false,Bool.false_or,Bool.false_and,Bool.true_and,Bool.true_or,Bool.or_true,or_self,D,A,B,p,j,q,r,s,l,I,U4,bF,jJ];refine⟨λh=> ?_,λh=>⟨ah,ah,ah,ah,λh2=> ?_,λh2=> ?_⟩⟩
  .rw [lv (leave S.m o.at_ 3) (by unfold aK;rw [dY (by rw [R.lf];decide),eB ⟨Or.inr k,ah⟩])];simp [qE,leave,mK]
  .rw [lv (leave (mM S o) (o.at_+1) (mM S o).halt) (by unfold aK;rw [dY (by rw [R.lf];decide),dY ah,eB ⟨k,ah⟩])];simp [qE,leave,mM,mK,k,e1,J]
  .exact z (λh=>by omega) (λh=>by omega) (by rw [O];simp [mM,mV,k,e1,J])
 .simp (disch:=omega) only [RR,RB,t,eT,u,k,Int.reduceEq,false_and,decide_false,decide_true,Bool.or_false,Bool.false_or,Bool.false_and,Bool.true_and,Bool.true_or,Bool.or_true,or_self,D,A,B,p,j,q,r,s,l,U1 _ _ _ _ _ _ _ _ _ _ _ _ W];exact z (λh=>by omega) (λh=>by omega) (by rw [F];simp [mM,mV,k])
 .have e1:=H (by unfold hX;omega);simp (disch:=omega) only [RR,RB,t,eT,u,k,Int.reduceEq,false_and,decide_false,decide_true,Bool.or_false,Bool.false_or,Bool.false_and,Bool.true_and,Bool.true_or,Bool.or_true,or_self,D,A,B,p,j,q,r,s,l,fA,fE];exact⟨ah,z (λh=>by omega) (λh=>by omega) (by rw [O];simp [mM,mV,k,e1])⟩
 .have e1:=H (by unfold hX;omega);have g:=N (Or.inr k);simp (disch:=omega) only [RR,RB,t,eT,u,k,Int.reduceEq,false_and,decide_false,decide_true,Bool.or_false,Bool.false_or,Bool.false_and,Bool.true_and,Bool.true_or,Bool.or_true,or_self,D,A,B,p,j,q,r,s,l,T];exact⟨g.1,ah,g.1,ah,z (λh=>by omega) (λh=>by omega) (by rw [O];simp [mM,mV,k,e1])⟩
end Go.TX.F
namespace Go.TX.F
open Go Go.AE Go.TX List
structure EgZ(e:Eng):Prop where
 m:MSh e.aj
 o:e.aj.outs.length<600000000
 k:ShK e.cache
 c:ShC e.aQ
def AsK(l:List Ask):Prop:=l.length<1000000000/\∀a∈l,By a.bytes/\a.bytes.length<1000000000
def EgS.z{e:Eng}{n:Nat}(h:EgS e n)(hn:n<600000000):EgZ e:=⟨h.m,Nat.lt_of_le_of_lt h.o hn,h.k,h.c⟩
def ajZ{e:Eng}(ok:iA e)(z:EgZ e){n:Nat}(h:e.aj.outs.length<=n):EgS e n:=by
 have K:=adF ok;have w:∀x∈e.cache,0<x.words.length:=λx a=>by
  have r:=K.r x a;have l:=r.2.1.ln;rw [<-r.1];omega
 exact⟨z.m,h,z.k,z.c,K.n,ok.2.2.1,w,by rw [<-aof ok];exact abg w⟩
def abh{m:aC}(h:MOK m)(c:m.halt=0)(a:m.count<1000000)(b:Bool):stS m b=stepM m b:=by
 unfold stS;rw [aJ h,eB rfl,dY ah]
abbrev mC(K:List Cac)(C:List Cer)(m:aC):Bp:=(m.pc,m.save,m.aL,m.waits,m.halt,m.ins,m.count,C,m.regs,m.mem,m.outs,K,())
def GoD(x:Eng×Bool)(y:Bool×ak):Prop:=
 ∃(m:aC) (K:List Cac) (C:List Cer) (b:Bool),y=(b,mK K C m)/\x=(⟨m,K.filter (dF m.mem),C⟩,b)/\ShK K/\m.mem.length<1000000000
def az4{p1 f1 p2 f2 p3 f3}(n:aa5 p1 f1)(l:avz p2 f2)(k:ay2 p3 f3)(e:Eng)(h:EgZ e):ail.F (p1,f1,p2,f2,p3,f3,()) (e,()) (λy=>y=mK e.cache e.aQ e.aj):=by
 have a:=λz1 z2=>(n z1 z2).1
 have g:=λz1 z2=>(n z1 z2).2
 have d:=λz1 z2=>(l z1 z2).1
 have f:=λz1 z2=>(l z1 z2).2
 have c:=λz1 z2=>(k z1 z2).1
 have b:=λz1 z2=>(k z1 z2).2
 have mM:=MKM;obtain⟨j,_,i,m⟩:=h;dsimp only [ail,gm,jG]at*;simp (disch:=omega) only [RR,EGB,mM,a _ j,g _ j,d _ i,f _ i,c _ m,b _ m]
theorem az5{p1 f1 p2 f2}(d:aza p1 f1)(j:aBa p2 f2)(a:Ask)(b:Blk)(h:b.ops.length<1000000)(e:By a.bytes)(f:a.bytes.length<1000000000):aiG.F (p1,f1,p2,f2,()) (a,b,()) (λy=>y=((mdF b a).1,(mdF b a).2,())):=by
 have mE:∀c:Blk,Co.mk .blk (c.pc,c.len,c.ops,c.fin,c.x,c.y,c.k,())=c:=λ_=>rfl
 have k:∀a:Ask,LW .ask 0 a=a.own/\jN .ask 1 .u8 a=a.bytes:=λ_=>⟨rfl,rfl⟩
 have i:=(d a.bytes e f).2;dsimp only [aiG,gm,jU];simp (disch:=omega) only [RR,k,mE,(d _ e f).1,j _ h];unfold mdF;refine⟨λg=>by rw [g];rfl,λg=> ?_⟩;rw [g,dY (by decide),i];unfold rdF;split<;>rfl
def az6{p1 f1}(a:Y1 p1 f1)(n:Int)(b:Blk)(m:aC)(K:List Cac)(C:List Cer)(hm:0<=m.count/\m.count<=1000000)(c:0<=b.len/\b.len<=1000):ahB.F (p1,f1,()) (n,b,m.pc,m.save,m.aL,m.waits,m.halt,m.ins,m.count,K,C,m.regs,m.mem,m.outs,()) (λy=>y=(inB n (m.count+1) (m.count+b.len-1),b,mK K C m)):=by
 dsimp only [ahB,gm];simp (disch:=omega) only [RR,RB,a]
def avG{j:Int×aCw->Bool}{f:Int×aCw->Bool×aCw}(p:∀(n:Int) (b:Blk) (m:aC) (K:List Cac) (C:List Cer),(0<=m.count/\m.count<=1000000)->(0<=b.len/\b.len<=1000)->j (n,b,m.pc,m.save,m.aL,m.waits,m.halt,m.ins,m.count,K,C,m.regs,m.mem,m.outs,())=true/\f (n,b,m.pc,m.save,m.aL,m.waits,m.halt,m.ins,m.count,K,C,m.regs,m.mem,m.outs,())=(inB n (m.count+1) (m.count+b.len-1),b,mK K C m))(q:List Int)(b:Blk)(m:aC)(K:List Cac)(C:List Cer)(u:q.length<1000000000)(hm:0<=m.count/\m.count<=1000000)(k:0<=b.len/\b.len<=1000):ZE.F (j,f,()) (q,b,m.pc,m.save,m.aL,m.waits,m.halt,m.ins,m.count,K,C,m.regs,m.mem,m.outs,()) (λy=>y.2=(b,mK K C m)/\(0<=y.1↔∃n∈q,m.count+1<=n/\n<=m.count+b.len-1)):=by
 dsimp only [ZE,gm];refine ay (λ(y:List Int×Int×Int×aCw)=>y.1=q/\y.2.1=q.length/\0<=y.2.2.1/\y.2.2.1<=q.length/\y.2.2.2=(b,mK K C m)/\∀n∈q.take y.2.2.1.toNat,¬(m.count+1<=n/\n<=m.count+b.len-1)) (λy=>(q.length-y.2.2.1).toNat) ⟨rfl,rfl,by simp,by simp,rfl,by simp⟩ ?_;rintro⟨(s:List Int),(l:Int),(i:Int),z⟩ hI;dsimp only at hI ⊢;obtain⟨rfl,rfl,a,t,rfl,c⟩:=hI;simp (disch:=omega) only [RR,p _ b m K C hm k,bF,jJ];refine⟨λg=>⟨a,g,λe=>⟨λ_=>⟨_,mem_of_getElem? (i:=i.toNat) (by rw [getElem?_eq_getElem ah,getD_lt ah]),e⟩,λ_=>a⟩,λe=>⟨⟨ah,ah,λn hn=> ?_⟩,ah⟩⟩,λg=> ?_⟩
 .have ts:=bA (d:=default) a g (l:=s) rfl;rw [<-ts,mem_append,mem_singleton]at hn;rcases hn with hn | rfl
  .exact c n hn
  .omega
 .rw [take_of_length_le ah]at c;exact⟨λh=>absurd h (by decide),λ⟨n,r,o⟩=>absurd o (c n r)⟩
def avH{c:List Int×aCw->Bool}{a:List Int×aCw->Int×aCw}(e:∀(q:List Int) (b:Blk) (m:aC) (K:List Cac) (C:List Cer),q.length<1000000000->(0<=m.count/\m.count<=1000000)->(0<=b.len/\b.len<=1000)->c (q,b,m.pc,m.save,m.aL,m.waits,m.halt,m.ins,m.count,K,C,m.regs,m.mem,m.outs,())=true/\((a (q,b,m.pc,m.save,m.aL,m.waits,m.halt,m.ins,m.count,K,C,m.regs,m.mem,m.outs,())).2=(b,mK K C m)/\(0<=(a (q,b,m.pc,m.save,m.aL,m.waits,m.halt,m.ins,m.count,K,C,m.regs,m.mem,m.outs,())).1↔∃n∈q,m.count+1<=n/\n<=m.count+b.len-1)))(q:List Int)(b:Blk)(m:aC)(K:List Cac)(C:List Cer)(d:q.length<1000000000)(hm:0<=m.count/\m.count<=1000000)(h:0<=b.len/\b.len<=1000):ZG.F (c,a,()) (q,b,m.pc,m.save,m.aL,m.waits,m.halt,m.ins,m.count,K,C,m.regs,m.mem,m.outs,()) (λy=>y=(bp (∃n∈q,m.count+1<=n/\n<=m.count+b.len-1),b,mK K C m)):=by
 obtain⟨P,⟨f,g⟩⟩:=e q b m K C d hm h;dsimp only [ZG,gm];simp (disch:=omega) only [RR,P];rw [f,nO,gP g]
variable{q:List Int}
theorem az7{p1 f1 p2 f2 p3 f3 p4 f4 p5 f5 p6 f6}{S:Ask×mF->Bool}{U:Ask×mF->Blk×lX}(U1:azo p1 f1)(Z:auG p2 f2)(X:aBx p3 f3)(U4:ayW p4 f4)(V:ay4 p5 f5)(W:Y96 p6 f6)(R:∀a b,b.ops.length<1000000->By a.bytes->a.bytes.length<1000000000->S (a,b,())=true/\U (a,b,())=((mdF b a).1,(mdF b a).2,()))(l:List Ins)(a:Ask)(m:aC)(K:List Cac)(C:List Cer)(Y:ni m.pc l)(hC:uY C)(hK:ShK K)(hc:ShC C)(ha:By a.bytes)(hn:a.bytes.length<1000000000):aiL.F (p1,f1,p2,f2,p3,f3,p4,f4,p5,f5,p6,f6,S,U,()) (l,a,m.pc,m.save,m.aL,m.waits,m.halt,m.ins,m.count,K,C,m.regs,m.mem,m.outs,()) (λy=>y=mC (kR K ⟨l.map fK,(iU C (lower m.pc l) a).1⟩) (iU C (lower m.pc l) a).2 m):=by
 have s:=λz1 z2 z3=>(U1 z1 z2 z3).1
 have O:=λz1 z2 z3=>(U1 z1 z2 z3).2
 have H:=λz1 z2=>(Z z1 z2).1
 have N:=λz1 z2=>(Z z1 z2).2
 have F:=λz1 z2 z3 z4 d J=>(X z1 z2 z3 z4 d J).1
 have u:=λz1 z2 z3 z4 d J=>(X z1 z2 z3 z4 d J).2
 have M:=λz1 z2 z3 z4=>(U4 z1 z2 z3 z4).1
 have I:=λz1 z2 z3 z4=>(U4 z1 z2 z3 z4).2
 have x:=λz1 z2 z3 z4 d=>(V z1 z2 z3 z4 d).1
 have G:=λz1 z2 z3 z4 d=>(V z1 z2 z3 z4 d).2
 have v:=λz1 z2 z3 z4=>(W z1 z2 z3 z4).1
 have t:=λz1 z2 z3 z4=>(W z1 z2 z3 z4).2
 have L:=λz1 z2 z3 z4 d=>(R z1 z2 z3 z4 d).1
 have B:=λz1 z2 z3 z4 d=>(R z1 z2 z3 z4 d).2
 have mE:∀c:Blk,Co.mk .blk (c.pc,c.len,c.ops,c.fin,c.x,c.y,c.k,())=c:=λ_=>rfl
 have i:∀b c:Blk,Co.mk .cer (b.pc,b.len,b.ops,b.fin,b.x,b.y,b.k,c.pc,c.len,c.ops,c.fin,c.x,c.y,c.k,())=⟨b,c⟩:=λ_ _=>rfl
 have r:∀(w:List Int) (b:Blk),Co.mk .cac (w,b.pc,b.len,b.ops,b.fin,b.x,b.y,b.k,())=⟨w,b⟩:=λ_ _=>rfl
 have ln:=Y.ln;have ir:=ku Y;have sz:=ir.sz;have A:=QN (a:=a) hc (show(lower m.pc l).ops.length<1000000 by omega) hn;have Q:=adA (a:=a) (b:=lower m.pc l) hC;have pc:(iU C (lower m.pc l) a).1.pc<=1000000:=by
  have z:=ir.pc;have zl:=ir.ln;rcases Q with q | q
  .rw [q];omega
  .rw [<-(Kw q).2.2.1];omega
 have j:=s m.pc l ah;have n:=O m.pc l ah;have k:=H l ah;have p:=N l ah;generalize lower m.pc l=b at*;have T:=abe (a:=a) (b:=b) ah hn;have o:=L a b ah ha hn;have h:=B a b ah ha hn;have f:=F K ⟨l.map fK,(iU C b a).1⟩ hK (by rw [length_map];omega) A.1 pc;have e:=u K ⟨l.map fK,(iU C b a).1⟩ hK (by rw [length_map];omega) A.1 pc;have D:=M C b (mdF b a).1 hc;have E:=I C b (mdF b a).1 hc;have P6:=v b (mdF b a).1 ah ah;have P:=t b (mdF b a).1 ah ah;have P5:=x C ⟨b,(mdF b a).1⟩ hc (show b.ops.length<1000000 by omega) T;have H5:=G C ⟨b,(mdF b a).1⟩ hc (show b.ops.length<1000000 by omega) T;dsimp only [aiL,gm,jU,map_cons,map_nil]at*;unfold iU at f e ⊢;by_cases hm:(mdF b a).2=false
 .rw [eB hm]at f e ⊢;simp (disch:=omega) only [RR,RB,Bool.false_and,Bool.true_and,Bool.and_true,Bool.or_true,Bool.true_or,Bool.or_false,Bool.false_or,Bool.not_true,Bool.not_false,and_self,mE,i,r,j,n,o,h,hm,k,p,f,e]
 rw [dY hm]at f e ⊢;rw [Bool.not_eq_false]at hm;by_cases g:bp (Gx C b (mdF b a).1)=true
 .rw [eB g]at f e ⊢;simp (disch:=omega) only [RR,RB,Bool.false_and,Bool.true_and,Bool.and_true,Bool.or_true,Bool.true_or,Bool.or_false,Bool.false_or,Bool.not_true,Bool.not_false,and_self,mE,i,r,j,n,o,h,hm,D,E,g,k,p,f,e]
 rw [dY g]at f e ⊢;rw [Bool.not_eq_true]at g;by_cases hk:chk b (mdF b a).1=true
 .rw [eB hk]at f e ⊢;simp (disch:=omega) only [RR,RB,Bool.false_and,Bool.true_and,Bool.and_true,Bool.or_true,Bool.true_or,Bool.or_false,Bool.false_or,Bool.not_true,Bool.not_false,and_self,mE,i,r,j,n,o,h,hm,D,E,g,P6,P,hk,P5,H5,k,p,f,e]
 .rw [dY hk]at f e ⊢;rw [Bool.not_eq_true]at hk;simp (disch:=omega) only [RR,RB,Bool.false_and,Bool.true_and,Bool.and_true,Bool.or_true,Bool.true_or,Bool.or_false,Bool.false_or,Bool.not_true,Bool.not_false,and_self,mE,i,r,j,n,o,h,hm,D,E,g,P6,P,hk,k,p,f,e]
theorem aBA{p1 f1 p2 f2 p3 f3}(t:ajE p1 f1)(s:aa8 p2 f2)(r:QG p3 f3)(m:aC)(h:MSh m):aq0.F (p1,f1,p2,f2,p3,f3,()) (m,()) (λy=>y=(findF m,())):=by
 have f:=λz1=>(t z1).1
 have b:=λz1=>(t z1).2
 have l:=λz1=>(s z1).1
 have p:=λz1=>(s z1).2
 have k:=λz1 z2=>(r z1 z2).1
 have j:=λz1 z2=>(r z1 z2).2
 replace b:∀i:Int,f1 (i,())=(bp (11<=i/\i<=13),()):=λi=>by rw [b i,Prod.ext_iff];exact⟨by rw [Bool.eq_iff_iff,bF,aF],rfl⟩
 have D:∀x y z u:Int,Co.mk .ins (x,y,z,u,())=⟨x,y,z,u⟩:=λ_ _ _ _=>rfl
 dsimp only [aq0,gm,jG];simp (disch:=omega) only [RR,MRB,k _ h,j _ h];refine⟨λg=>by unfold findF;rw [g];rfl,λg=> ?_⟩;have ok:=aF.1 g;have B:0<=m.pc/\m.pc<=65535:=ok.pc;have w:=ok.m64;have v:findF m=dH m.mem 8 m.pc:=by unfold findF;rw [g,eB rfl]
 rw [v];generalize C:dH m.mem 8 m.pc=G;refine ay (λ(y:Int×aC×aCg)=>0<=y.1/\y.1<=70000/\y.2.1=m/\y.2.2.1.length<=8/\y.2.2.1++dH m.mem (8-y.2.2.1.length) y.1=G) (λy=>(8- (y.2.2.1.length:Int)).toNat) ⟨B.1,by dsimp only;omega,rfl,by simp,by simpa using C⟩ ?_;rintro⟨(i:Int),(m:aC),(o:List Ins),⟨⟩⟩ hI;dsimp only at hI ⊢;obtain⟨H,E,rfl,F,a⟩:=hI;simp (disch:=omega) only [RR,f,b,l,p,MRB,w,fA,fE,eG,D];refine⟨λc=> ?_,λc=> ?_⟩
 .obtain⟨n,hn⟩:∃n,8-o.length=n+1:=⟨8-o.length-1,ah⟩;rw [hn]at a;unfold dH at a;by_cases z:Wo ((m.mem).getD (i).toNat default)/\bg (bU ((m.mem).getD (i).toNat default))
  .rw [ao9 z];generalize hd:bU ((m.mem).getD (i).toNat default)=d at*;have A:(⟨d.op,d.d,d.a,d.k⟩:Ins)=d:=rfl;dsimp only;rw [A];refine⟨ah,ah,λe=> ?_,λe=>⟨ah,λq=> ?_,λq=>⟨⟨ah,ah,ah,?_⟩,ah⟩⟩⟩
   .rw [dY (by rw [aV (λy=>y.2.2 (by simpa using e))];decide)]at a;rw [<-a,append_nil]
   .rw [eB (aJ ⟨ah,z,by simpa using e⟩),eB q]at a;rw [<-a]
   .rw [eB (aJ ⟨ah,z,by simpa using e⟩),dY (by rw [q];decide)]at a;rw [show 8- (o.length+1)=n by omega,<-a,append_assoc];rfl
  .have tf:(tkI ((m.mem).getD (i).toNat default)).2.2.2.2.1=false:=by unfold tkI;rw [dY (by rw [aV z];decide)]
   rw [dY (by rw [aV (λy=>z y.2.1)];decide),append_nil]at a;rw [tf];refine⟨ah,ah,λ_=>by rw [<-a],λe=>by simp at e⟩
 .rw [<-a];by_cases z:o.length<8
  .obtain⟨n,hn⟩:∃n,8-o.length=n+1:=⟨8-o.length-1,ah⟩;rw [hn];unfold dH;have c:=Bool.and_eq_false_iff.1 c;rw [decide_eq_false_iff_not,decide_eq_false_iff_not]at c;rw [dY (by rw [aV (λy=>by have:=y.1;omega)];decide),append_nil]
  .rw [show 8-o.length=0 by omega];unfold dH;rw [append_nil]
def aoh{m:aC}{l s:Int}(h:rG m q l s=false):s<=l->m.count<=1000000-s->∃n∈q,m.count+1<=n/\n<=m.count+s-1:=λb a=>by
 refine Classical.byContradiction λg=>gK.1 h ⟨b,a,λk c d hk=>g ⟨_,hk,ah,ah⟩⟩
def QV{m:aC}{l s:Int}(h:rG m q l s=true):s<=l/\m.count<=1000000-s/\¬∃n∈q,m.count+1<=n/\n<=m.count+s-1:=by
 obtain⟨b,a,c⟩:=aF.1 h;exact⟨b,a,λ⟨n,d,e,f⟩=>c (n-m.count) ah ah (by rwa [show m.count+(n-m.count)=n by omega])⟩
end Go.TX.F
namespace Go.TX.F
open Go Go.AE Go.TX List
variable{e:Eng}{q:List Int}{b:Blk}
def apa{l:Int}{a:Ask}(ok:iA e)(c:e.aj.halt=0)(b:e.aj.count<1000000)(h:(e.aj.waits=true\/e.aj.count∈q)/\e.aj.aL=true\/cB e a=(e, -1,false)):
  goE e q l a=(⟨stepM e.aj (bp (e.aj.count∈q)),e.cache.filter (dF (stepM e.aj (bp (e.aj.count∈q))).mem),e.aQ⟩,false):=by
 have p:jB e q=⟨stepM e.aj (bp (e.aj.count∈q)),e.cache.filter (dF (stepM e.aj (bp (e.aj.count∈q))).mem),e.aQ⟩:=by unfold jB;rw [abh ok.1 c b]
 unfold goE;split
 .rw [p]
 .rename_i w;rw [h.resolve_left w,eB (show((-1:Int))<0 by decide),p]
def avI{l:Int}{a:Ask}{K:List Cac}{C:List Cer}{k:Int}{b:Bool}(ok:iA e)(d:e.aj.halt=0)(g:e.aj.count<1000000)(w:¬((e.aj.waits=true\/e.aj.count∈q)/\e.aj.aL=true))(f:cB e a=(⟨e.aj,K,C⟩,k,b))(i:0<=k){B:Blk}(h:(((K).getD (k).toNat default)).blk=B)(ir:dB B)(j:B.pc=e.aj.pc){M:aC}(c:M={e.aj with waits:=e.aj.waits || bp (e.aj.count∈q)}):
  (rG e.aj q l B.len=false->goE e q l a=(⟨stepM e.aj (bp (e.aj.count∈q)),K.filter (dF (stepM e.aj (bp (e.aj.count∈q))).mem),C⟩,b))/\
  (rG e.aj q l B.len=true->goE e q l a=(⟨qE B (B.ops.foldl (aK B) ⟨M,[],false⟩),K.filter (dF (qE B (B.ops.foldl (aK B) ⟨M,[],false⟩)).mem),C⟩,b)):=by
 unfold goE;rw [dY w,f,dY (show¬k<0 by omega)];dsimp only;rw [h];refine⟨λr=> ?_,λr=> ?_⟩
 .rw [eB r];unfold jB;dsimp only;rw [abh ok.1 d g]
 .rw [dY (by rw [r];decide),<-c,Kv ir (by rw [c];exact {ok.1 with}) (by rw [c];have:=(QV r).2.1;dsimp only;omega)]
structure aoi(b:Blk)(c:Int)(s:MS):Prop where
 ok:MOK s.m
 wv:Wos s.vals
 d:(s.left=false/\s.m.count=c/\s.m.halt=0/\s.m.pc=b.pc)\/(s.left=true/\((s.m.halt=0/\c<s.m.count/\s.m.count<=c+b.len)\/(s.m.halt=3/\c<=s.m.count/\s.m.count<c+b.len)))
def aoj{c:Int}{s:MS}{o:IOp}(f:dB b)(hc:0<=c/\c+b.len<=1000000)(i:evO o->0<=o.at_/\o.at_<b.len)(j:o.kind=1->0<=o.k/\o.k<=65535)(h:aoi b c s):aoi b c (aK b s o):=by
 obtain⟨ok,e,d⟩:=h;have k:=f.pc;have p:=f.ln;unfold aK;split
 .exact⟨ok,e,d⟩
 rename_i l;obtain⟨t,m,n,v⟩:=d.resolve_right λz=>l z.1
 split
 .rename_i g;have a:=i (by unfold evO;omega);exact⟨{ok with ha:=⟨show(0:Int)<=3 by decide,show(3:Int)<=4 by decide⟩,pc:=⟨show 0<=s.m.pc+o.at_ by omega,show s.m.pc+o.at_<=65535 by omega⟩,ct:=⟨show 0<=s.m.count+o.at_ by omega,show s.m.count+o.at_<=1000000 by omega⟩},e,Or.inr ⟨rfl,Or.inr ⟨rfl,show c<=s.m.count+o.at_ by omega,show s.m.count+o.at_<c+b.len by omega⟩⟩⟩
 obtain⟨r,q,u⟩:=HZ (s:=s) o;have M:=ajC e ok o;split
 .rename_i g;have a:=i (by unfold evO;omega);exact⟨{M with ha:=M.ha,pc:=⟨show 0<=(mM s o).pc+(o.at_+1) by omega,show(mM s o).pc+(o.at_+1)<=65535 by omega⟩,ct:=⟨show 0<=(mM s o).count+(o.at_+1) by omega,show(mM s o).count+(o.at_+1)<=1000000 by omega⟩},e,Or.inr ⟨rfl,Or.inl ⟨show(mM s o).halt=0 by omega,show c< (mM s o).count+(o.at_+1) by omega,show(mM s o).count+(o.at_+1)<=c+b.len by omega⟩⟩⟩
 .exact⟨M,e.snoc (ajB e ok j),Or.inl ⟨rfl,show(mM s o).count=c by omega,show(mM s o).halt=0 by omega,show(mM s o).pc=b.pc by omega⟩⟩
def adJ{c:Int}(a:dB b)(hc:0<=c/\c+b.len<=1000000):∀(l:List IOp) (s:MS),(∀o∈l,(evO o->0<=o.at_/\o.at_<b.len)/\(o.kind=1->0<=o.k/\o.k<=65535))->aoi b c s->aoi b c (l.foldl (aK b) s)
 | [],_,_,h=>h
 | o::l,s,ho,h=>adJ a hc l _ (λx d=>ho x (mem_cons_of_mem _ d)) (aoj a hc (ho o (mem_cons_self ..)).1 (ho o (mem_cons_self ..)).2 h)
def avJ{m:aC}(a:dB b)(hm:MOK m)(l:m.halt=0)(q:m.pc=b.pc)(hc:m.count+b.len<=1000000){x:aC}(v:qE b (b.ops.foldl (aK b) ⟨m,[],false⟩)=x):MOK x/\1<=x.count-m.count+(if 2<=x.halt then 1 else 0)/\x.count-m.count+(if 2<=x.halt then 1 else 0)<=b.len:=by
 have t:=hm.ct;have z:=a.ln;have w:=a.pc;have f:=a.en;obtain⟨ok,y,d⟩:=adJ a ⟨t.1,hc⟩ b.ops ⟨m,[],false⟩ (λo p=>by
  obtain⟨i,u,rfl⟩:=getElem_of_mem p;have h:=a.op i ah ah;rw [show((i:Int)).toNat=i from rfl,getD_lt u]at h;exact⟨h.a1,h.k1⟩) ⟨hm,(by intro n hn;cases hn),Or.inl ⟨rfl,rfl,l,q⟩⟩
 generalize b.ops.foldl (aK b) ⟨m,[],false⟩=s at*;subst v;unfold qE;rcases d with⟨c,g,j,A⟩ | ⟨c,d⟩
 .rw [c,dY (by decide)];refine⟨{ok with pc:= ?_,ct:=⟨show 0<=s.m.count+b.len by omega,show s.m.count+b.len<=1000000 by omega⟩},?_⟩
  .show Wo (if b.fin=1 then b.k else if b.fin=2 then((s.vals).getD (b.x).toNat default)else if xP (b.fin-2) ((s.vals).getD (b.x).toNat default) ((s.vals).getD (b.y).toNat default)=true then b.k else b.pc+b.len);split
   .exact f.k1 ah
   split
   .exact y.at _
   split
   .exact f.k1 ah
   .exact⟨ah,ah⟩
  .dsimp only;rw [g,j,dY (by decide)];omega
 .rw [c,eB rfl];refine⟨ok,?_⟩;rcases d with⟨e,k,r⟩ | ⟨e,k,r⟩<;>rw [e]
  .rw [dY (by decide)];omega
  .rw [eB (by decide)];omega
def aj0{left:Int}(a:Ask)(ok:iA e)(c:e.aj.halt=0)(f:e.aj.count<1000000)(u:1<=left):iA (goE e q left a).1/\1<=(goE e q left a).1.aj.count-e.aj.count+(if 2<=(goE e q left a).1.aj.halt then 1 else 0)/\(goE e q left a).1.aj.count-e.aj.count+(if 2<=(goE e q left a).1.aj.halt then 1 else 0)<=left:=by
 have hm:=ok.1;have d:∀y:Eng,y.aj=e.aj->KpE y.cache y.aQ->iA (jB y q)/\1<=(jB y q).aj.count-e.aj.count+(if 2<=(jB y q).aj.halt then 1 else 0)/\(jB y q).aj.count-e.aj.count+(if 2<=(jB y q).aj.halt then 1 else 0)<=left:=λy p k=>by
  have h:=rF hm f (bp (e.aj.count∈q));have l:=Ky c (bp (e.aj.count∈q));unfold jB;rw [p,abh hm c f];refine⟨Ub k h,?_⟩;dsimp only;rcases l with⟨g,i⟩ | ⟨g,i⟩
  .rw [dY ah];omega
  .rw [eB g];omega
 obtain⟨K,F⟩:=ajW ok a;have fm:=Ay e a;unfold goE;split
 .exact d e rfl (adF ok)
 split
 .exact d _ fm K
 rename_i n;split
 .exact d _ fm K
 rename_i r;obtain⟨j,F2,_⟩:=F ah;generalize ((((cB e a).1.cache).getD ((cB e a).2.1).toNat default))=x at*;have r:rG e.aj q left x.blk.len=true:=by simpa using r
 obtain⟨s,t,_⟩:=QV r;have ir:=(Kw j.2.2).2.1;have o:=Kv (b:=x.blk) (m:={e.aj with waits:=e.aj.waits || bp (e.aj.count∈q)}) ir {hm with} (by dsimp only;omega);have E:=avJ (b:=x.blk) (m:={e.aj with waits:=e.aj.waits || bp (e.aj.count∈q)}) ir {hm with} c F2.symm (by dsimp only;omega) rfl;rw [o];dsimp only at E ⊢;exact⟨Ub K E.1,E.2.1,ah⟩
set_option maxHeartbeats 2000000 in
theorem az8{p1 f1 p2 f2 p7 f7}{Z:List Ins×Ask×ak->Bool}{f3:List Ins×Ask×ak->Bp}{G:aCw->Bool}{F:aCw->ak}{p5:Bool×ak->Bool}{f5:Bool×ak->ak}{U:List Int×aCw->Bool}{H:List Int×aCw->Bool×aCw}(U1:avk p1 f1)(v:au6 p2 f2)(U3:∀(l:List Ins) (a:Ask) (m:aC) (K:List Cac) (C:List Cer),ni m.pc l->uY C->ShK K->ShC C->By a.bytes->a.bytes.length<1000000000->Z (l,a,m.pc,m.save,m.aL,m.waits,m.halt,m.ins,m.count,K,C,m.regs,m.mem,m.outs,())=true/\f3 (l,a,m.pc,m.save,m.aL,m.waits,m.halt,m.ins,m.count,K,C,m.regs,m.mem,m.outs,())=mC (kR K ⟨l.map fK,(iU C (lower m.pc l) a).1⟩) (iU C (lower m.pc l) a).2 m)(U4:∀(b:Blk) (m:aC) (K:List Cac) (C:List Cer),dB b->MOK m->MSh m->m.outs.length<900000000->G (b,m.pc,m.save,m.aL,m.waits,m.halt,m.ins,m.count,K,C,m.regs,m.mem,m.outs,())=true/\F (b,m.pc,m.save,m.aL,m.waits,m.halt,m.ins,m.count,K,C,m.regs,m.mem,m.outs,())=mK K C (qE b (b.ops.foldl (aK b) ⟨m,[],false⟩)))(U5:∀(b:Bool) (m:aC) (K:List Cac) (C:List Cer),MOK m->m.ins.length<1000000000->m.outs.length<900000000->p5 (b,m.pc,m.save,m.aL,m.waits,m.halt,m.ins,m.count,K,C,m.regs,m.mem,m.outs,())=true/\f5 (b,m.pc,m.save,m.aL,m.waits,m.halt,m.ins,m.count,K,C,m.regs,m.mem,m.outs,())=mK K C (stepM m b))(U6:∀(q:List Int) (b:Blk) (m:aC) (K:List Cac) (C:List Cer),q.length<1000000000->(0<=m.count/\m.count<=1000000)->(0<=b.len/\b.len<=1000)->U (q,b,m.pc,m.save,m.aL,m.waits,m.halt,m.ins,m.count,K,C,m.regs,m.mem,m.outs,())=true/\(H (q,b,m.pc,m.save,m.aL,m.waits,m.halt,m.ins,m.count,K,C,m.regs,m.mem,m.outs,())=(bp (∃n∈q,m.count+1<=n/\n<=m.count+b.len-1),b,mK K C m)))(U7:aeK p7 f7)(q:List Int)(l:Int)(a:Ask)(e:Eng)(ok:iA e)(X:e.aj.halt=0)(u:e.aj.count<1000000)(z:EgZ e)(W:q.length<1000000000)(ha:By a.bytes)(hn:a.bytes.length<1000000000):aiN.F (p1,f1,p2,f2,Z,f3,G,F,p5,f5,U,H,p7,f7,()) (q,l,a,e.aj.pc,e.aj.save,e.aj.aL,e.aj.waits,e.aj.halt,e.aj.ins,e.aj.count,e.cache,e.aQ,e.aj.regs,e.aj.mem,e.aj.outs,()) (λy=>GoD (goE e q l a) y):=by
 have mM:=MKM;have mE:∀c:Blk,Co.mk .blk (c.pc,c.len,c.ops,c.fin,c.x,c.y,c.k,())=c:=λ_=>rfl
 have o:=z.o;have cw:=ok.1.ct;have kl:=z.k.1;obtain⟨P7,H7⟩:=U7 q e.aj.count W;have O:=λK C=>(U5 (bp (e.aj.count∈q)) e.aj K C ok.1 z.m.2.2.1 ah).1
 have A:=λK C=>(U5 (bp (e.aj.count∈q)) e.aj K C ok.1 z.m.2.2.1 ah).2
 have so:=rF ok.1 u (bp (e.aj.count∈q));have I:(stepM e.aj (bp (e.aj.count∈q))).mem.length<1000000000:=by have:=so.m64;omega
 have d:∀ {m:aC} {K:List Cac} {C:List Cer} {b:Bool},goE e q l a=(⟨m,K.filter (dF m.mem),C⟩,b)->ShK K->m.mem.length<1000000000->GoD (goE e q l a) (b,mK K C m):=λh1 h2 h3=>⟨_,_,_,_,rfl,h1,h2,h3⟩
 have P2:=(v e.cache e.aj.pc ah).1;have F2:=FC.one ((v e.cache e.aj.pc ah).2) (QO _ _);obtain⟨P1,H1⟩:=U1 e.aj z.m;have S:=abf (a:=a) z.k z.c ok hn;have B1:=zo e.aj
 have f:∀(K:List Cac) (C:List Cer) (k:Int) (b:Bool),cB e a=(⟨e.aj,K,C⟩,k,b)->0<=k->¬((e.aj.waits=true\/e.aj.count∈q)/\e.aj.aL=true)->ShK K/\k<K.length/\
   (U (q,(((K).getD (k).toNat default)).blk,e.aj.pc,e.aj.save,e.aj.aL,e.aj.waits,e.aj.halt,e.aj.ins,e.aj.count,K,C,e.aj.regs,e.aj.mem,e.aj.outs,())=true)/\
   (H (q,(((K).getD (k).toNat default)).blk,e.aj.pc,e.aj.save,e.aj.aL,e.aj.waits,e.aj.halt,e.aj.ins,e.aj.count,K,C,e.aj.regs,e.aj.mem,e.aj.outs,())=(bp (∃n∈q,e.aj.count+1<=n/\n<=e.aj.count+(((K).getD (k).toNat default)).blk.len-1),(((K).getD (k).toNat default)).blk,mK K C e.aj))/\(0<=(((K).getD (k).toNat default)).blk.len/\(((K).getD (k).toNat default)).blk.len<=1000)/\
   (((l< (((K).getD (k).toNat default)).blk.len\/1000000- (((K).getD (k).toNat default)).blk.len<e.aj.count)\/bp (∃n∈q,e.aj.count+1<=n/\n<=e.aj.count+(((K).getD (k).toNat default)).blk.len-1)=true->GoD (goE e q l a) (b,mK K C (stepM e.aj (bp (e.aj.count∈q)))))/\
   (((¬l< (((K).getD (k).toNat default)).blk.len/\¬1000000- (((K).getD (k).toNat default)).blk.len<e.aj.count)/\bp (∃n∈q,e.aj.count+1<=n/\n<=e.aj.count+(((K).getD (k).toNat default)).blk.len-1)=false)->
    G ((((K).getD (k).toNat default)).blk,e.aj.pc,e.aj.save,e.aj.aL,e.aj.waits || bp (e.aj.count∈q),e.aj.halt,e.aj.ins,e.aj.count,K,C,e.aj.regs,e.aj.mem,e.aj.outs,())=true/\
    GoD (goE e q l a) (b,F ((((K).getD (k).toNat default)).blk,e.aj.pc,e.aj.save,e.aj.aL,e.aj.waits || bp (e.aj.count∈q),e.aj.halt,e.aj.ins,e.aj.count,K,C,e.aj.regs,e.aj.mem,e.aj.outs,())))):=by
  intro K C k b i k0 w;rw [i]at S;have t:=S.k;have Sr:=S.r;obtain⟨ir,j⟩:=S.b k0;dsimp only at t Sr ir j;generalize hB:(((K).getD (k).toNat default)).blk=B at*;have ln:=ir.ln;obtain⟨M,p⟩:∃M:aC,M={e.aj with waits:=e.aj.waits || bp (e.aj.count∈q)}:=⟨_,rfl⟩;obtain⟨G1,G2⟩:=avI (l:=l) ok X u w i k0 hB ir j p;have mo:MOK M:=by rw [p];exact {ok.1 with}
  have ms:MSh M:=by rw [p];exact z.m
  have s:M.outs.length<900000000:=by rw [p];dsimp only;omega
  obtain⟨P4,H4⟩:=U4 B M K C ir mo ms s;have R:=adg ir ms s;refine⟨t,Sr,(U6 q B e.aj K C W cw ah).1,(U6 q B e.aj K C W cw ah).2,ah,λg=> ?_,λg=> ?_⟩
  .refine d (G1 ?_) t I;cases r:rG e.aj q l B.len
   .rfl
   .obtain⟨r1,r2,r3⟩:=QV r;rcases g with(g | g) | g
    .omega
    .omega
    .exact absurd (aF.1 g) r3
  .have r:rG e.aj q l B.len=true:=by
    cases r:rG e.aj q l B.len
    .exact absurd (aoh r ah ah) (gK.1 g.2)
    .rfl
   have E:=d (G2 r) t R.2.1;rw [<-H4]at E;rw [p]at P4 E;exact⟨P4,E⟩
 dsimp only [aiN,gm,jU,jG];simp (disch:=omega) only [RR,P7,H7,O,A,P2,mM,P1,H1,F2];refine⟨λw=> ?_,λw=> ?_⟩
 .exact d (apa ok X u (Or.inl ⟨w.1.elim (λh=>Or.inr (aF.1 h)) Or.inl,w.2⟩)) z.k I
 have w:¬((e.aj.waits=true\/e.aj.count∈q)/\e.aj.aL=true):=λg=>by
  have:((bp (e.aj.count∈q) || e.aj.waits)&&e.aj.aL)=true:=by rw [Bool.and_eq_true,Bool.or_eq_true,aF];exact⟨g.1.symm,g.2⟩
  rw [this]at w;cases w
 refine⟨λk=>⟨λn0=> ?_,λn0=> ?_⟩,λk=> ?_⟩
 .exact d (apa ok X u (Or.inr (by unfold cB;rw [dY ah,eB ah]))) z.k I
 .have bk:=(B1.2 ah).2;have i:cB e a=(⟨e.aj,kR e.cache ⟨(findF e.aj).map fK,(iU e.aQ (lower e.aj.pc (findF e.aj)) a).1⟩,(iU e.aQ (lower e.aj.pc (findF e.aj)) a).2⟩,((kR e.cache ⟨(findF e.aj).map fK,(iU e.aQ (lower e.aj.pc (findF e.aj)) a).1⟩).length:Int)-1,true):=by
   unfold cB;rw [dY ah,dY ah]
  obtain⟨P3,H3⟩:=U3 (findF e.aj) a e.aj e.cache e.aQ bk ok.2.2 z.k z.c ha hn;have V:=aeO e.cache ⟨(findF e.aj).map fK,(iU e.aQ (lower e.aj.pc (findF e.aj)) a).1⟩;have pl:=Fw e.cache ⟨(findF e.aj).map fK,(iU e.aQ (lower e.aj.pc (findF e.aj)) a).1⟩;have kp:0< (kR e.cache ⟨(findF e.aj).map fK,(iU e.aQ (lower e.aj.pc (findF e.aj)) a).1⟩).length:=by rw [adE,eG];exact Nat.succ_pos _
  have N:=S;rw [i]at N;generalize kR e.cache ⟨(findF e.aj).map fK,(iU e.aQ (lower e.aj.pc (findF e.aj)) a).1⟩=K at*;generalize (iU e.aQ (lower e.aj.pc (findF e.aj)) a).2=C at*;have P:0<=(K.length:Int)-1:=by omega
  have j:=(N.b P).2;dsimp only at j;rw [pl]at j;dsimp only at V j;rw [j]at V;have kn:=N.k.1;dsimp only at kn;have J:=(v K e.aj.pc ah).1;have D:=FC.one ((v K e.aj.pc ah).2) V;obtain⟨t0,L,Q,T,t4,Y,x⟩:=f K C _ true i P w;simp (disch:=omega) only [RR,P3,H3,J,D,CAB,RB,mE,Q,T,O,A];exact⟨P,L,Y,x⟩
 .have i:cB e a=(⟨e.aj,e.cache,e.aQ⟩,fcI e.cache e.aj.pc,false):=by unfold cB;rw [eB ah]
  obtain⟨t0,L,Q,T,t4,Y,x⟩:=f e.cache e.aQ _ false i ah w;simp (disch:=omega) only [RR,CAB,RB,mE,Q,T,O,A];exact⟨ah,L,Y,x⟩
end Go.TX.F
namespace Go.TX.F
open Go Go.AE Go.TX List
variable{e:Eng}{q:List Int}{l:List Ask}{r:List Ask}{n:Int}{x:Eng}{f:Nat}
def az9{p1 f1}{c:aCe->Bool}{d:aCe->Bool×ak}(t:au2 p1 f1)(r:∀(q:List Int) (l:Int) (a:Ask) (e:Eng),iA e->e.aj.halt=0->e.aj.count<1000000->EgZ e->q.length<1000000000->By a.bytes->a.bytes.length<1000000000->c (q,l,a,e.aj.pc,e.aj.save,e.aj.aL,e.aj.waits,e.aj.halt,e.aj.ins,e.aj.count,e.cache,e.aQ,e.aj.regs,e.aj.mem,e.aj.outs,())=true/\GoD (goE e q l a) (d (q,l,a,e.aj.pc,e.aj.save,e.aj.aL,e.aj.waits,e.aj.halt,e.aj.ins,e.aj.count,e.cache,e.aQ,e.aj.regs,e.aj.mem,e.aj.outs,())))(q:List Int)(l:Int)(a:Ask)(e:Eng)(ok:iA e)(g:e.aj.halt=0)(j:e.aj.count<1000000)(z:EgZ e)(f:q.length<1000000000)(u:By a.bytes)(hn:a.bytes.length<1000000000):aiP.F (p1,f1,c,d,()) (q,l,a,e.aj.pc,e.aj.save,e.aj.aL,e.aj.waits,e.aj.halt,e.aj.ins,e.aj.count,e.cache,e.aQ,e.aj.regs,e.aj.mem,e.aj.outs,()) (λy=>y=((goE e q l a).2,mC (goE e q l a).1.cache (goE e q l a).1.aQ (goE e q l a).1.aj)):=by
 obtain⟨i,⟨m,K,C,b,p,s,k,n⟩⟩:=r q l a e ok g j z f u hn;obtain⟨h,o⟩:=t K m.mem k n;dsimp only [aiP,gm];simp (disch:=omega) only [RR,i,p,h,o];rw [s]
def Kz{l:Int}{a:Ask}(ok:iA e)(c:e.aj.halt=0)(b:e.aj.count<1000000)(h:1<=l):kY e q l a=goE e q l a:=by
 unfold kY;rw [aJ ok,dY (by decide),dY ah]
def aj1{l:Int}{a:Ask}{N:Nat}(S:EgS e N)(f:N<700000000)(ok:iA e)(d:e.aj.halt=0)(b:e.aj.count<1000000)(h:1<=l)(c:a.bytes.length<1000000000):EgS (goE e q l a).1 (N+50):=by
 rw [<-Kz ok d b h];exact Ib S f q l c
abbrev aAa(b:aCj->Bool)(a:aCj->ak):Prop:=∀e,EgZ e->b (e,())=true/\a (e,())=mK e.cache e.aQ e.aj
abbrev aAb(c:aCe->Bool)(b:aCe->Bool×Bp):Prop:=∀(q:List Int) (l:Int) (a:Ask) (e:Eng),iA e->e.aj.halt=0->e.aj.count<1000000->EgZ e->q.length<1000000000->By a.bytes->a.bytes.length<1000000000->c (q,l,a,e.aj.pc,e.aj.save,e.aj.aL,e.aj.waits,e.aj.halt,e.aj.ins,e.aj.count,e.cache,e.aQ,e.aj.regs,e.aj.mem,e.aj.outs,())=true/\b (q,l,a,e.aj.pc,e.aj.save,e.aj.aL,e.aj.waits,e.aj.halt,e.aj.ins,e.aj.count,e.cache,e.aQ,e.aj.regs,e.aj.mem,e.aj.outs,())=((goE e q l a).2,mC (goE e q l a).1.cache (goE e q l a).1.aQ (goE e q l a).1.aj)
def aAc{p1 f1 p2 f2 p3 f3 p4 f4}(f:aAa p1 f1)(t:aAb p2 f2)(s:Ua p3 f3)(v:auN p4 f4)(e:Eng)(q:List Int)(l:Int)(a:Ask)(z:EgZ e)(x:e.aj.outs.length<500000000)(m:q.length<1000000000)(w:By a.bytes)(hn:a.bytes.length<1000000000):aiS.F (p1,f1,p2,f2,p3,f3,p4,f4,()) (e,q,l,a,()) (λy=>y=((kY e q l a).1,(kY e q l a).2,())):=by
 have mM:=MKM;have i:=EGM;obtain⟨k,j⟩:=s e z.m z.k.x z.c.d;obtain⟨n,r⟩:=f e z;dsimp only [aiS,gm,jG];simp (disch:=omega) only [RR,k,j,n,r,mM,i,v];unfold kY;refine⟨λg=>by rw [eB g];rfl,λg=>⟨λh=> ?_,λh=> ?_⟩⟩
 .have cw:=(aF.1 g).1.ct;rw [dY (by rw [g];decide),eB];rcases h with h | h
  .rw [Bool.and_eq_false_iff,decide_eq_false_iff_not,decide_eq_false_iff_not]at h;omega
  .omega
 .have ok:=aF.1 g;have b:e.aj.halt=0/\e.aj.count<1000000:=by simpa using h.1
  rw [dY (by rw [g];decide),dY ah];obtain⟨p,u⟩:=t q l a e ok b.1 b.2 z m w hn;have S:=aj1 (q:=q) (l:=l) (ajZ ok z (Nat.le_refl _)) (by have:=z.o;omega) ok b.1 b.2 ah hn;have o:=z.o;have Z:=S.z ah;generalize goE e q l a=X at*;obtain⟨c,d⟩:=f X.1 Z;simp (disch:=omega) only [RR,p,u,i,c,d]
structure RnI(e:Eng)(q:List Int)(n:Int)(l:List Ask)(x:Eng)(f:Nat)(r:List Ask):Prop where
 ok:iA x
 s:EgS x (e.aj.outs.length+50*(n.toNat+1-f))
 o:AB (e.aj.count+n) x<=f
 fl:f<=n.toNat+1
 run:Cq q (e.aj.count+n) f x r=Cq q (e.aj.count+n) (n.toNat+1) e l
 a:AsK r
def AsK.hd(h:AsK r):By (r.headD pW).bytes/\(r.headD pW).bytes.length<1000000000:=by
 cases r with
 | nil=>exact⟨λx a=>(by cases a),by decide⟩
 | cons x r=>exact h.2 x (mem_cons_self ..)
def AsK.tl(h:AsK r):AsK r.tail:=⟨by have:=h.1;rw [length_tail];omega,λa b=>h.2 a (mem_of_mem_tail b)⟩
def RnI.start(ok:iA e)(z:EgZ e)(a:AsK l):RnI e q n l e (n.toNat+1) l:=
 ⟨ok,by rw [Nat.sub_self];exact ajZ ok z (Nat.le_refl _),by unfold AB;split<;>omega,Nat.le_refl _,rfl,a⟩
def RnI.z(R:RnI e q n l x f r)(a:e.aj.outs.length<500000000)(hn:n<=400):EgZ x:=R.s.z ah
def RnI.stop(R:RnI e q n l x f r)(c:¬(x.aj.halt=0/\x.aj.count<1000000/\x.aj.count<e.aj.count+n)):Cq q (e.aj.count+n) (n.toNat+1) e l=x:=by
 rw [<-R.run];cases f with
 | zero=>rfl
 | succ f=>unfold Cq;rw [dY c]
def RnI.step(R:RnI e q n l x f r)(j:e.aj.outs.length<500000000)(hn:n<=400)(c:x.aj.halt=0/\x.aj.count<1000000/\x.aj.count<e.aj.count+n):
  RnI e q n l (goE x q (e.aj.count+n-x.aj.count) (r.headD pW)).1 (f-1) (if(goE x q (e.aj.count+n-x.aj.count) (r.headD pW)).2=true then r.tail else r)/\AB (e.aj.count+n) (goE x q (e.aj.count+n-x.aj.count) (r.headD pW)).1<AB (e.aj.count+n) x:=by
 obtain⟨a,b,i⟩:=c;have o:=R.o;have k:=R.fl;have d:AB (e.aj.count+n) x=(e.aj.count+n-x.aj.count).toNat+1:=by unfold AB;rw [eB a]
 have S:=aj1 (q:=q) (l:=e.aj.count+n-x.aj.count) R.s ah R.ok a b ah R.a.hd.2;obtain⟨T,h,m⟩:=aj0 (r.headD pW) (q:=q) (left:=e.aj.count+n-x.aj.count) R.ok a b ah;have run:=R.run;obtain⟨g,rfl⟩:∃g,f=g+1:=⟨f-1,ah⟩;unfold Cq at run;rw [eB ⟨a,b,i⟩]at run;have lt:AB (e.aj.count+n) (goE x q (e.aj.count+n-x.aj.count) (r.headD pW)).1<AB (e.aj.count+n) x:=by
  rw [d];unfold AB;split
  .rename_i h0;rw [h0,dY (by decide)]at h;omega
  .split at h<;>omega
 refine⟨⟨T,?_,by rw [Nat.add_sub_cancel];omega,ah,by rw [Nat.add_sub_cancel];exact run,by split;exact R.a.tl;exact R.a⟩,lt⟩;rw [show e.aj.outs.length+50*(n.toNat+1- (g+1))+50=e.aj.outs.length+50*(n.toNat+1- (g+1-1)) by omega]at S;exact S
theorem aAd{p1 f1 p2 f2 p3 f3 p4 f4}(N:aAa p1 f1)(K:aAb p2 f2)(J:Ua p3 f3)(M:auN p4 f4)(e:Eng)(q:List Int)(n:Int)(l:List Ask)(z:EgZ e)(H:e.aj.outs.length<500000000)(G:q.length<1000000000)(hn: -1000<=n/\n<=1000000)(Y:AsK l):aiQ.F (p1,f1,p2,f2,p3,f3,p4,f4,()) (e,q,n,l,()) (λy=>y=(wF e q n l,())):=by
 have i:=λz1 z2=>(N z1 z2).1
 have j:=λz1 z2=>(N z1 z2).2
 have u:=λz1 z2 z3 z4 m B k E v b d=>(K z1 z2 z3 z4 m B k E v b d).1
 have F:=λz1 z2 z3 z4 m B k E v b d=>(K z1 z2 z3 z4 m B k E v b d).2
 have t:=λz1 z2 z3 z4=>(J z1 z2 z3 z4).1
 have o:=λz1 z2 z3 z4=>(J z1 z2 z3 z4).2
 have C:=λz1=>(M z1).1
 have w:=λz1=>(M z1).2
 have mM:=MKM;have O:=EGM;have U:=t e z.m z.k.x z.c.d;have S:=o e z.m z.k.x z.c.d;have W:=i e z;have X:=j e z;dsimp only [aiQ,gm,jG];simp (disch:=omega) only [RR,U,S,W,X,mM,O];refine⟨λg=> ?_,λg=> ?_⟩
 .rw [Ic (λh=>g.elim (λg=>by rw [aJ h.1]at g;cases g) ah)];rfl
 have ok:=aF.1 g.1;have cw:=ok.1.ct;have p:n<=400:=by omega
 have P:wF e q n l=Cq q (e.aj.count+n) (n.toNat+1) e l:=by unfold wF;rw [aJ ⟨ok,p⟩,eB rfl]
 rw [P];refine ay (λ(y:List Int×Int×List Ask×Int×Int×Int×Bool×Bool×Int×Int×ak)=>∃(x:Eng) (f:Nat) (r:List Ask),RnI e q n l x f r/\y=(q,n,r,e.aj.count,0,0,false,false,0,0,mK x.cache x.aQ x.aj)) (λy=>AB (e.aj.count+n) ⟨⟨[],0,[],0,false,false,y.2.2.2.2.2.2.2.2.2.2.2.2.2.2.1,[],[],y.2.2.2.2.2.2.2.2.2.2.2.2.2.2.2.2.1⟩,[],[]⟩) ⟨e,_,l,.start ok z Y,rfl⟩ ?_;rintro y ⟨x,f,r,R,rfl⟩;dsimp only;have xc:=R.ok.1.ct;have Z:=R.z H p;have mA:Co.mk .ask (true,[],())=pW:=rfl;have rl:=R.a.1;have D:=i x Z;have s:=j x Z;have Q:IntKind.i64.wrap (x.aj.count-e.aj.count)=x.aj.count-e.aj.count:=w64 ah ah;have w2:IntKind.i64.wrap (n- (x.aj.count-e.aj.count))=e.aj.count+n-x.aj.count:=by rw [w64 ah ah];omega
 simp (disch:=omega) only [RR,mM,C,w,Q,w2,mA];refine⟨λg=> ?_,λg=> ?_⟩
 .have c:x.aj.halt=0/\x.aj.count<1000000/\x.aj.count<e.aj.count+n:=⟨g.1.1,g.1.2,ah⟩;obtain⟨T,lt⟩:=R.step H p c;have A:=R.a.hd;have I:=u q (e.aj.count+n-x.aj.count) (r.headD pW) x R.ok c.1 c.2.1 Z G A.1 A.2;have L:=F q (e.aj.count+n-x.aj.count) (r.headD pW) x R.ok c.1 c.2.1 Z G A.1 A.2;cases r with
  | nil=>
   rw [headD_nil]at*;have z0:((0:Int)< ((0:Nat):Int))=False:=eq_false (by decide);rw [show(if(goE x q (e.aj.count+n-x.aj.count) pW).2=true then([]:List Ask).tail else [])=[] by split<;>rfl]at T;simp (disch:=omega) only [RR,I,L,fE,z0,and_false];exact λ_=>⟨⟨_,_,_,T,rfl⟩,lt⟩
  | cons a r=>
   rw [headD_cons]at*;have z0:((0:Int)< ((r.length+1:Nat):Int))=True:=eq_true ah;have z1:((1:Int)<=((r.length+1:Nat):Int))=True:=eq_true ah;have V:(a::r).getD (Int.toNat 0) default=a:=rfl;have g1:drop (Int.toNat 1) (take (((r.length+1:Nat):Int)).toNat (a::r))=r:=by simp
   simp (disch:=omega) only [RR,I,L,fA,z0,z1,V,g1,Int.le_refl];refine⟨λh=>⟨by decide,⟨_,f-1,_,?_,rfl⟩,lt⟩,λh=>⟨⟨_,f-1,_,?_,rfl⟩,lt⟩⟩
   .rw [eB h]at T;exact T
   .rw [dY (λz=>by rw [z]at h;simp at h)]at T;exact T
 .rw [R.stop (λc=>by
   have:((decide (x.aj.halt=0)&&decide (x.aj.count<1000000))&&decide (x.aj.count-e.aj.count<n))=true:=by simp only [Bool.and_eq_true,decide_eq_true_eq];omega
   rw [this]at g;cases g)]
  simp (disch:=omega) only [RR,D,s,O]
end Go.TX.F
