/- For every input the law returns true, and the input reads as it did. No condition. -/
import Derived.Test.YtpijningoklkpaaGreatZe
import Derived.ChangeSlices
import Derived.ChangeSame
import Derived.JoinedOf
import Derived.JoinedAt
import Derived.Handed
import Derived.Below
import Derived.Carry
import Derived.OpenShut
import Derived.ChangeKeysEq
import Derived.Test.YtpijningoklkpaaGreatY
import Derived.Test.YtpijningoklkpaaGreatRows
set_option linter.all false
set_option linter.unusedSectionVars false
set_option linter.unusedVariables false
set_option linter.unusedSimpArgs false
namespace Go.TX.F
open Go Go.AE Go.TX
def fcO (f:List IOp) (o:IOp):IOp:=if o.kind=3∧(((f).getD (o.x).toNat default)).kind=1∧(((f).getD (o.y).toNat default)).kind=1 then⟨1,0,0,wdo o.k (((f).getD (o.x).toNat default)).k (((f).getD (o.y).toNat default)).k,0⟩else o
def fc (ops:List IOp):Nat→List IOp
 | 0=> []
 | i+1=>fc ops i++ [fcO (fc ops i) (ops.getD i default)]
def fcB (b:Blk) (f:List IOp):Blk:=
 if b.fin=2∧(((f).getD (b.x).toNat default)).kind=1 then⟨b.pc,b.len,f,1,0,b.y,(((f).getD (b.x).toNat default)).k⟩
 else if 3≤b.fin∧(((f).getD (b.x).toNat default)).kind=1∧(((f).getD (b.y).toNat default)).kind=1 then⟨b.pc,b.len,f,1,0,0,if b.fin=3∧(((f).getD (b.x).toNat default)).k=(((f).getD (b.y).toNat default)).k∨b.fin=4∧(((f).getD (b.x).toNat default)).k< (((f).getD (b.y).toNat default)).k then b.k else b.pc+b.len⟩
 else⟨b.pc,b.len,f,b.fin,b.x,b.y,b.k⟩
noncomputable def jE (b:Blk):Blk:=if bp (gH b)=true then fcB b (fc b.ops b.ops.length)else ahZ
theorem Ow (ops:List IOp):∀i,(fc ops i).length=i
 | 0=>rfl
 | i+1=>by show(fc ops i++ [_]).length=_;rw [List.length_append,Ow ops i];rfl
structure FI (ops:List IOp) (i:Nat) (s:SS):Prop where
 c:∀j:Int,0≤j→j<i→((((fc ops i)).getD (j).toNat default)).kind=1→(0≤((((fc ops i)).getD (j).toNat default)).k∧((((fc ops i)).getD (j).toNat default)).k≤65535)∧((s.vals).getD (j).toNat default)=dG ((((fc ops i)).getD (j).toNat default)).k
 m:∀j:Int,0≤j→j<i→mkV ((ops).getD (j).toNat default)→mkV (((fc ops i)).getD (j).toNat default)
def kpS (ops:List IOp) (kp:List Bool):Nat→List Int×List IOp
 | 0=>([],[])
 | i+1=>((kpS ops kp i).1++ [((kpS ops kp i).2.length:Int)],if kp.getD i default=true then(kpS ops kp i).2++ [ops.getD i default]else(kpS ops kp i).2)
def EJ (b:Blk) (kp:List Bool):Blk:=afn (kpS b.ops kp b.ops.length).1 b (kpS b.ops kp b.ops.length).2
def rY:List IOp→Int→Bool
 | [],_=>false
 | o::l,r=>if o.kind=4∨o.kind=5∨o.kind=2∧o.k=r then false else if o.kind=8∧o.k=r then true else rY l r
theorem Cc (ops:List IOp) (kp:List Bool):∀i,(kpS ops kp i).1.length=i∧(kpS ops kp i).2.length≤i
 | 0=>⟨rfl,Nat.le_refl _⟩
 | i+1=>by
  obtain⟨h1,h2⟩:=Cc ops kp i
  unfold kpS
  refine⟨by rw [List.length_append,h1];rfl,?_⟩
  dsimp only
  split
  ·rw [List.length_append];simp only [List.length_cons,List.length_nil];omega
  ·omega
theorem ah0 (ops:List IOp) (kp:List Bool) {i n:Nat} (h:i≤n):(kpS ops kp i).2<+:(kpS ops kp n).2∧(kpS ops kp i).1<+:(kpS ops kp n).1:=by
 induction n with
 | zero=>rw [show i=0 by omega];exact⟨List.prefix_refl _,List.prefix_refl _⟩
 | succ n ih=>
  by_cases c:i=n+1
  ·subst c;exact⟨List.prefix_refl _,List.prefix_refl _⟩
  ·obtain⟨h1,h2⟩:=ih (by omega)
   refine⟨h1.trans ?_,h2.trans (List.prefix_append _ _)⟩
   show _<+:if kp.getD n default=true then _ else _
   split
   ·exact List.prefix_append _ _
   ·exact List.prefix_refl _
structure KP (b:Blk) (kp:List Bool):Prop where
 x:∀i:Int,0≤i→i<b.ops.length→((kp).getD (i).toNat default)=true→hX ((b.ops).getD (i).toNat default)→((kp).getD ((((b.ops).getD (i).toNat default)).x).toNat default)=true
 y:∀i:Int,0≤i→i<b.ops.length→((kp).getD (i).toNat default)=true→hY ((b.ops).getD (i).toNat default)→((kp).getD ((((b.ops).getD (i).toNat default)).y).toNat default)=true
 ex:b.fin≠1→((kp).getD (b.x).toNat default)=true
 ey:3≤b.fin→((kp).getD (b.y).toNat default)=true
 no:∀i:Int,0≤i→i<b.ops.length→((kp).getD (i).toNat default)=false→(((b.ops).getD (i).toNat default)).kind≤3∨(((b.ops).getD (i).toNat default)).kind=8∧rY (b.ops.drop (i.toNat+1)) (((b.ops).getD (i).toNat default)).k=true
structure KI (b:Blk) (kp:List Bool) (i:Nat) (s s':SS):Prop where
 t:s'.t=s.t
 ld:s'.ld=s.ld
 inn:s'.inn=s.inn
 evs:s'.evs=s.evs
 vl:s'.vals.length=(kpS b.ops kp i).2.length
 v:∀j:Nat,j<i→kp.getD j default=true→s'.vals.getD (kpS b.ops kp j).2.length default=s.vals.getD j default
 r4:s'.regs.length=4∧s.regs.length=4
 rg:∀r:Int,0≤r→r≤3→rY (b.ops.drop i) r=false→((s'.regs).getD (r).toNat default)=((s.regs).getD (r).toNat default)
def tO (ops:List IOp):List Bool:=(List.range ops.length).map fun i=> !(decide ((ops.getD i default).kind=8)&&rY (ops.drop (i+1)) (ops.getD i default).k)
noncomputable def yF (b:Blk):Blk:=if bp (gH b)=true then EJ b (tO b.ops)else ahZ
theorem abq {ops:List IOp} {i:Nat} (h:i<ops.length):(tO ops).getD i default= !(decide ((ops.getD i default).kind=8)&&rY (ops.drop (i+1)) (ops.getD i default).k):=by
 unfold tO
 rw [getD_lt (by rw [List.length_map,List.length_range];exact h),List.getElem_map,List.getElem_range]
def us0 (b:Blk):List Bool:=(fun m:List Bool=>if 3≤b.fin then m.set b.y.toNat true else m) (if b.fin=1 then List.replicate b.ops.length false else(List.replicate b.ops.length false).set b.x.toNat true)
def usO (o:IOp) (i:Nat) (m:List Bool):List Bool:=
 if(m.getD i default || decide (4≤o.kind))=true then(fun m:List Bool=>if hY o then m.set o.y.toNat true else m) ((fun m:List Bool=>if hX o then m.set o.x.toNat true else m) (m.set i true))else m
def us (b:Blk):Nat→List Bool
 | 0=>us0 b
 | k+1=>usO (b.ops.getD (b.ops.length-1-k) default) (b.ops.length-1-k) (us b k)
noncomputable def Fu (b:Blk):List Bool:=if bp (gH b)=true then us b b.ops.length else []
noncomputable def pF (b:Blk):Blk:=if bp (gH b)=true then EJ b (us b b.ops.length)else ahZ
theorem ah1 (o:IOp) (i:Nat) (m:List Bool):(usO o i m).length=m.length:=by
 unfold usO;dsimp only;repeat' split
 all_goals simp only [List.length_set]
theorem ah2 (b:Blk):(us0 b).length=b.ops.length:=by
 unfold us0;dsimp only;repeat' split
 all_goals simp only [List.length_set,List.length_replicate]
theorem DL (b:Blk):∀k,(us b k).length=b.ops.length
 | 0=>ah2 b
 | k+1=>by unfold us;rw [ah1,DL b k]
theorem yG {m:List Bool} {i:Nat} {j:Int} (h:j.toNat<m.length):(m.set j.toNat true).getD i default=(m.getD i default || decide (i=j.toNat)):=by
 by_cases c:i=j.toNat
 ·subst c;rw [getD_lt (by rw [List.length_set];exact h),List.getElem_set_self,decide_eq_true rfl,Bool.or_true]
 ·rw [decide_eq_false c,Bool.or_false]
  simp only [List.getD,List.getElem?_set_ne (Ne.symm c)]
theorem aac {o:IOp} {i t:Nat} {m:List Bool} (hi:i<m.length) (hx:hX o→o.x.toNat<m.length) (hy:hY o→o.y.toNat<m.length):(usO o i m).getD t default=true↔m.getD t default=true∨(m.getD i default=true∨4≤o.kind)∧(t=i∨hX o∧t=o.x.toNat∨hY o∧t=o.y.toNat):=by
 unfold usO
 dsimp only
 by_cases c:(m.getD i default || decide (4≤o.kind))=true
 ·rw [if_pos c]
  rw [Bool.or_eq_true,decide_eq_true_eq]at c
  have e1:∀t:Nat,(m.set i true).getD t default=true↔m.getD t default=true∨t=i:=fun t=>by
   have:=yG (m:=m) (i:=t) (j:=(i:Int)) hi
   rw [show((i:Int)).toNat=i from rfl]at this
   rw [this,Bool.or_eq_true,decide_eq_true_eq]
  have e2:∀t:Nat,((if hX o then(m.set i true).set o.x.toNat true else m.set i true).getD t default=true)↔(m.getD t default=true∨t=i)∨hX o∧t=o.x.toNat:=fun t=>by
   by_cases d:hX o
   ·rw [if_pos d,yG (by rw [List.length_set];exact hx d),Bool.or_eq_true,decide_eq_true_eq,e1];exact⟨fun h=>h.elim Or.inl (fun h=>Or.inr ⟨d,h⟩),fun h=>h.elim Or.inl (fun h=>Or.inr h.2)⟩
   ·rw [if_neg d,e1];exact⟨Or.inl,fun h=>h.elim id (fun h=>absurd h.1 d)⟩
  have l2:(if hX o then(m.set i true).set o.x.toNat true else m.set i true).length=m.length:=by split<;>simp only [List.length_set]
  by_cases d:hY o
  ·rw [if_pos d,yG (by rw [l2];exact hy d),Bool.or_eq_true,decide_eq_true_eq,e2];have c':=eq_true c;have d':=eq_true d;generalize hY o=Y at d' ⊢;generalize hX o=Z;rw [c',d'];grind
  ·rw [if_neg d,e2];have c':=eq_true c;have d':=eq_false d;generalize hY o=Y at d' ⊢;generalize hX o=Z;rw [c',d'];grind
 ·rw [if_neg c]
  rw [Bool.or_eq_true,decide_eq_true_eq]at c
  simp only [c,false_and,or_false]
theorem XM {m:List Bool} {t:Nat} {j:Int} (h:j.toNat<m.length):(m.set j.toNat true).getD t default=true↔m.getD t default=true∨t=j.toNat:=by rw [yG h,Bool.or_eq_true,decide_eq_true_eq]
structure UI (b:Blk) (p:Nat) (m:List Bool):Prop where
 k:∀i:Nat,p≤i→i<b.ops.length→4≤(b.ops.getD i default).kind→m.getD i default=true
 x:∀i:Nat,p≤i→i<b.ops.length→m.getD i default=true→hX (b.ops.getD i default)→((m).getD ((b.ops.getD i default).x).toNat default)=true
 y:∀i:Nat,p≤i→i<b.ops.length→m.getD i default=true→hY (b.ops.getD i default)→((m).getD ((b.ops.getD i default).y).toNat default)=true
 ex:b.fin≠1→((m).getD (b.x).toNat default)=true
 ey:3≤b.fin→((m).getD (b.y).toNat default)=true
 wh:∀t:Nat,t<b.ops.length→m.getD t default=true→4≤(b.ops.getD t default).kind∨b.fin≠1∧t=b.x.toNat∨3≤b.fin∧t=b.y.toNat∨∃j:Nat,p≤j∧j<b.ops.length∧t<j∧m.getD j default=true∧(hX (b.ops.getD j default)∧t=(b.ops.getD j default).x.toNat∨hY (b.ops.getD j default)∧t=(b.ops.getD j default).y.toNat)
theorem aad {b:Blk} (hb:gH b) (t:Nat):(us0 b).getD t default=true↔b.fin≠1∧t=b.x.toNat∨3≤b.fin∧t=b.y.toNat:=by
 have en:=hb.en
 have fx:=en.x1
 have fy:=en.y1
 unfold us0
 dsimp only
 have r:∀t,(List.replicate b.ops.length false).getD t default=false:=fun t=>by
  by_cases c:t<b.ops.length
  ·rw [getD_lt (by rw [List.length_replicate];exact c),List.getElem_replicate]
  ·rw [List.getD_eq_getElem?_getD,List.getElem?_eq_none (by rw [List.length_replicate];omega)];rfl
 have e1:∀t:Nat,((if b.fin=1 then List.replicate b.ops.length false else(List.replicate b.ops.length false).set b.x.toNat true).getD t default=true)↔b.fin≠1∧t=b.x.toNat:=fun t=>by
  by_cases d:b.fin=1
  ·rw [if_pos d,r];simp [d]
  ·have:=fx d
   have g0:=this.1
   have g1:=this.2.1
   rw [if_neg d,yG (by rw [List.length_replicate];omega),r];simp [d]
 have l1:(if b.fin=1 then List.replicate b.ops.length false else(List.replicate b.ops.length false).set b.x.toNat true).length=b.ops.length:=by split<;>simp only [List.length_set,List.length_replicate]
 by_cases d:3≤b.fin
 ·have:=fy d
  have g0:=this.1
  have g1:=this.2.1
  rw [if_pos d,yG (by rw [l1];omega),Bool.or_eq_true,decide_eq_true_eq,e1];simp only [d,true_and]
 ·rw [if_neg d,e1];simp only [d,false_and,or_false]
theorem aiQ {b:Blk} (hb:gH b):∀k,k≤b.ops.length→UI b (b.ops.length-k) (us b k)
 | 0,_=>by
  have e:=aad hb
  exact⟨fun i h1 h2=>absurd h2 (by omega),fun i h1 h2=>absurd h2 (by omega),fun i h1 h2=>absurd h2 (by omega),fun c=>(e _).2 (Or.inl ⟨c,rfl⟩),fun c=>(e _).2 (Or.inr ⟨c,rfl⟩),fun t _ h=>((e t).1 h).elim (fun h=>Or.inr (Or.inl h)) (fun h=>Or.inr (Or.inr (Or.inl h)))⟩
 | k+1,hk=>by
  have ih:=aiQ hb k (by omega)
  have ul:=DL b k
  have ho:=hb.op ((b.ops.length-1-k:Nat):Int) (by omega) (by omega)
  rw [show(((b.ops.length-1-k:Nat):Int)).toNat=b.ops.length-1-k from rfl]at ho
  generalize hp:b.ops.length-1-k=p at ho
  have e0:b.ops.length-k=p+1:=by omega
  rw [e0]at ih
  rw [show b.ops.length- (k+1)=p by omega]
  have pl:p<b.ops.length:=by omega
  show UI b p (usO (b.ops.getD (b.ops.length-1-k) default) (b.ops.length-1-k) (us b k))
  rw [hp]
  have X:hX (b.ops.getD p default)→(b.ops.getD p default).x.toNat<p:=fun c=>by have:=ho.x1 c;have g0:=this.1;have g1:=this.2.1;omega
  have Y:hY (b.ops.getD p default)→(b.ops.getD p default).y.toNat<p:=fun c=>by have:=ho.y1 c;have g0:=this.1;have g1:=this.2.1;omega
  generalize us b k=m at ih ul
  have e:∀t:Nat,_↔_:=fun t=>aac (o:=b.ops.getD p default) (i:=p) (t:=t) (m:=m) (by omega) (fun c=>by have:=X c;omega) (fun c=>by have:=Y c;omega)
  have hi:∀t:Nat,p<t→((usO (b.ops.getD p default) p m).getD t default=true↔m.getD t default=true):=fun t h=>by
   rw [e]
   constructor
   ·rintro(h1 | ⟨_,h1 | ⟨h1,h2⟩ | ⟨h1,h2⟩⟩)
    ·exact h1
    ·omega
    ·have:=X h1;omega
    ·have:=Y h1;omega
   ·exact Or.inl
  have mono:∀t:Nat,m.getD t default=true→(usO (b.ops.getD p default) p m).getD t default=true:=fun t h=>(e t).2 (Or.inl h)
  have pp:(usO (b.ops.getD p default) p m).getD p default=true↔m.getD p default=true∨4≤(b.ops.getD p default).kind:=by
   rw [e]
   constructor
   ·rintro(h1 | ⟨h1,_⟩)
    ·exact Or.inl h1
    ·exact h1
   ·intro h;exact Or.inr ⟨h,Or.inl rfl⟩
  refine⟨fun i h1 h2 h3=> ?_,fun i h1 h2 h3 h4=> ?_,fun i h1 h2 h3 h4=> ?_,fun c=>mono _ (ih.ex c),fun c=>mono _ (ih.ey c),fun t h1 h2=> ?_⟩
  ·by_cases c:i=p
   ·subst c;exact pp.2 (Or.inr h3)
   ·exact mono _ (ih.k i (by omega) h2 h3)
  ·by_cases c:i=p
   ·subst c;exact(e _).2 (Or.inr ⟨pp.1 h3,Or.inr (Or.inl ⟨h4,rfl⟩)⟩)
   ·exact mono _ (ih.x i (by omega) h2 ((hi i (by omega)).1 h3) h4)
  ·by_cases c:i=p
   ·subst c;exact(e _).2 (Or.inr ⟨pp.1 h3,Or.inr (Or.inr ⟨h4,rfl⟩)⟩)
   ·exact mono _ (ih.y i (by omega) h2 ((hi i (by omega)).1 h3) h4)
  ·have old:m.getD t default=true→_:=fun h=>ih.wh t h1 h
   have go:m.getD t default=true→4≤(b.ops.getD t default).kind∨b.fin≠1∧t=b.x.toNat∨3≤b.fin∧t=b.y.toNat∨∃j:Nat,p≤j∧j<b.ops.length∧t<j∧(usO (b.ops.getD p default) p m).getD j default=true∧(hX (b.ops.getD j default)∧t=(b.ops.getD j default).x.toNat∨hY (b.ops.getD j default)∧t=(b.ops.getD j default).y.toNat):=fun h=>by
    rcases old h with h | h | h | ⟨j,j1,j2,j3,j4,j5⟩
    ·exact Or.inl h
    ·exact Or.inr (Or.inl h)
    ·exact Or.inr (Or.inr (Or.inl h))
    ·exact Or.inr (Or.inr (Or.inr ⟨j,by omega,j2,j3,mono _ j4,j5⟩))
   rcases(e t).1 h2 with h | ⟨h,g⟩
   ·exact go h
   ·rcases g with g | ⟨g1,g2⟩ | ⟨g1,g2⟩
    ·subst g
     rcases h with h | h
     ·exact go h
     ·exact Or.inl h
    ·exact Or.inr (Or.inr (Or.inr ⟨p,Nat.le_refl _,pl,by have:=X g1;omega,pp.2 h,Or.inl ⟨g1,g2⟩⟩))
    ·exact Or.inr (Or.inr (Or.inr ⟨p,Nat.le_refl _,pl,by have:=Y g1;omega,pp.2 h,Or.inr ⟨g1,g2⟩⟩))
theorem awU {b:Blk} (hb:gH b):UI b 0 (us b b.ops.length):=by
 have:=aiQ hb b.ops.length (Nat.le_refl _)
 rw [Nat.sub_self]at this;exact this
theorem afo (b:Blk) (kp:List Bool):(EJ b kp).ops.length=(kpS b.ops kp b.ops.length).2.length:=List.length_map _
theorem XO (o:IOp) (l:List IOp) (r:Int):rY (o::l) r=if o.kind=4∨o.kind=5∨o.kind=2∧o.k=r then false else if o.kind=8∧o.k=r then true else rY l r:=rfl
theorem Tp (b:Blk) (kp:List Bool):(EJ b kp).ops.length≤b.ops.length:=by rw [afo];exact(Cc b.ops kp b.ops.length).2
theorem Lg (b:Blk):(yF b).ops.length≤b.ops.length:=by
 unfold yF;split
 ·exact Tp _ _
 ·exact Nat.zero_le _
theorem AZ (b:Blk):(pF b).ops.length≤b.ops.length:=by
 unfold pF;split
 ·exact Tp _ _
 ·exact Nat.zero_le _
theorem ah3 (b:Blk) (f:List IOp):(fcB b f).ops=f:=by
 unfold fcB
 split; · rfl
 split<;>rfl
theorem EK (b:Blk):(jE b).ops.length≤b.ops.length:=by
 unfold jE;split
 ·rw [ah3,Ow];exact Nat.le_refl _
 ·exact Nat.zero_le _
theorem tQ (b:Blk):(jH b).ops.length≤b.ops.length:=by
 unfold jH;split
 ·exact Nat.le_of_eq (List.length_map _)
 ·exact Nat.zero_le _
noncomputable def Lh (b:Blk):Blk:=pF (yF (pF (jE (jH b))))
theorem DN (b:Blk):(Lh b).ops.length≤b.ops.length:=Nat.le_trans (AZ _) (Nat.le_trans (Lg _) (Nat.le_trans (AZ _) (Nat.le_trans (EK _) (tQ _))))
theorem Ox {b:Blk} (hb:gH b):jE b=fcB b (fc b.ops b.ops.length):=by unfold jE;rw [if_pos (dz hb)]
end Go.TX.F
namespace Go.TX.F
open Go Go.AE Go.TX
theorem RB:(∀o:IOp,gW .iop 0 o=o.kind)∧(∀o:IOp,gW .iop 1 o=o.x)∧(∀o:IOp,gW .iop 2 o=o.y)∧(∀o:IOp,gW .iop 3 o=o.k)∧(∀o:IOp,gW .iop 4 o=o.at_)∧
  (∀b:Blk,gW .blk 0 b=b.pc)∧(∀b:Blk,gW .blk 1 b=b.len)∧(∀b:Blk,nS .blk 2 .iop b=b.ops)∧(∀b:Blk,gW .blk 3 b=b.fin)∧(∀b:Blk,gW .blk 4 b=b.x)∧(∀b:Blk,gW .blk 5 b=b.y)∧(∀b:Blk,gW .blk 6 b=b.k)∧
  (∀x,Co.mk .iop x=⟨x.1,x.2.1,x.2.2.1,x.2.2.2.1,x.2.2.2.2.1⟩)∧(∀x,Co.mk .blk x=⟨x.1,x.2.1,x.2.2.1,x.2.2.2.1,x.2.2.2.2.1,x.2.2.2.2.2.1,x.2.2.2.2.2.2.1⟩)∧
  (∀i:Ins,gW .ins 0 i=i.op)∧(∀i:Ins,gW .ins 1 i=i.d)∧(∀i:Ins,gW .ins 2 i=i.a)∧(∀i:Ins,gW .ins 3 i=i.k)∧(∀x,Co.mk .ins x=⟨x.1,x.2.1,x.2.2.1,x.2.2.2.1⟩)∧
  (∀e:Ev,gW .ev 0 e=e.kind)∧(∀e:Ev,gW .ev 1 e=e.at_)∧(∀e:Ev,nS .ev 2 .mono e=e.x)∧(∀e:Ev,nS .ev 3 .mono e=e.y)∧(∀e:Ev,nS .ev 4 .poly e=e.regs)∧(∀x,Co.mk .ev x=⟨x.1,x.2.1,x.2.2.1,x.2.2.2.1,x.2.2.2.2.1⟩)∧
  (∀s:Sym,nS .sym 0 .ev s=s.events)∧(∀s:Sym,nS .sym 1 .poly s=s.regs)∧(∀s:Sym,gW .sym 2 s=s.fin)∧(∀s:Sym,nS .sym 3 .mono s=s.x)∧(∀s:Sym,nS .sym 4 .mono s=s.y)∧(∀s:Sym,gW .sym 5 s=s.k)∧
  (∀x,Co.mk .sym x=⟨x.1,x.2.1,x.2.2.1,x.2.2.2.1,x.2.2.2.2.1,x.2.2.2.2.2.1⟩)∧(∀x,Co.mk .bool x=x.1)∧(∀x:Bool,atb .bool 0 x=x):=
 ⟨fun _=>rfl,fun _=>rfl,fun _=>rfl,fun _=>rfl,fun _=>rfl,fun _=>rfl,fun _=>rfl,fun _=>rfl,fun _=>rfl,fun _=>rfl,fun _=>rfl,fun _=>rfl,fun _=>rfl,fun _=>rfl,fun _=>rfl,fun _=>rfl,fun _=>rfl,fun _=>rfl,fun _=>rfl,fun _=>rfl,fun _=>rfl,fun _=>rfl,fun _=>rfl,fun _=>rfl,fun _=>rfl,fun _=>rfl,fun _=>rfl,fun _=>rfl,fun _=>rfl,fun _=>rfl,fun _=>rfl,fun _=>rfl,fun _=>rfl,fun _=>rfl⟩
@[reducible] def hK (o : IOp) : Prop := o.kind = 1 ∨ o.kind = 2 ∨ o.kind = 3 ∨ o.kind = 8
theorem awV {p1:Int×Int×Int×Unit→Bool} {f1:Int×Int×Int×Unit→Bool×Unit} (hp1:∀a b c,p1 (a,b,c,())=true) (hf1:∀a b c,f1 (a,b,c,())=(inB a b c,())) (o:IOp):
  acO (std 0).al p1 f1 (o,()) (fun y=>y=(decide (hX o),decide (hY o),decide (hK o),decide (evO o),())):=by
 dsimp only [acO,Tup.q,Tup.o]
 simp (disch:=omega) only [RR,RB,hp1,hf1]
 refine Prod.ext ?_ (Prod.ext ?_ (Prod.ext ?_ (Prod.ext ?_ rfl)))<;>rw [Bool.eq_iff_iff]<;>simp [hX,hY,hK,evO,inB,or_assoc,and_assoc]
theorem awW {p1:Int×Int×Int×Unit→Bool} {f1:Int×Int×Int×Unit→Bool×Unit} (hp1:∀a b c,p1 (a,b,c,())=true) (hf1:∀a b c,f1 (a,b,c,())=(inB a b c,())) (o:IOp):
  acS (std 0).al p1 f1 (o,()) (fun y=>y=(decide (mkV o),())):=by
 dsimp only [acS,Tup.q,Tup.o]
 simp (disch:=omega) only [RR,RB,hp1,hf1]
 refine Prod.ext ?_ rfl
 rw [Bool.eq_iff_iff];simp [mkV,inB]
theorem awX {p1:Int×Int×Int×Unit→Bool} {f1:Int×Int×Int×Unit→Bool×Unit} (hp1:∀a b c,p1 (a,b,c,())=true) (hf1:∀a b c,f1 (a,b,c,())=(inB a b c,())) (o:IOp):
  adR (std 0).al p1 f1 (o,()) (fun y=>y=(decide (evO o),())):=by
 dsimp only [adR,Tup.q,Tup.o]
 simp (disch:=omega) only [RR,RB,hp1,hf1]
 refine Prod.ext ?_ rfl
 rw [Bool.eq_iff_iff];simp [evO,inB]
theorem awY {p2:IOp×Unit→Bool} {f2:IOp×Unit→Bool×Unit} (hp2:∀o,p2 (o,())=true) (hf2:∀o,f2 (o,())=(decide (mkV o),()))
  {p1:Int×Int×Int×Unit→Bool} {f1:Int×Int×Int×Unit→Bool×Unit} (hp1:∀a b c,p1 (a,b,c,())=true) (hf1:∀a b c,f1 (a,b,c,())=(inB a b c,())) (b:Blk) (x n:Int) (h0:0≤n) (h1:n≤b.ops.length) (h2:b.ops.length<1000000000):
  acT (std 0).al p2 f2 p1 f1 (b,x,n,()) (fun y=>y=(bp (Vl b.ops x n),())):=by
 dsimp only [acT,Tup.q,Tup.o]
 simp (disch:=omega) only [RR,RB,hp1,hf1,hp2,hf2,dA,l7]
 refine⟨by omega,by omega,?_⟩
 refine Prod.ext ?_ rfl
 dsimp only
 rw [Bool.eq_iff_iff,aT,Bool.and_eq_true,dA,decide_eq_true_eq]
 unfold Vl
 constructor
 ·rintro⟨⟨a1,a2⟩,a3⟩;exact⟨a1,by omega,a3⟩
 ·rintro⟨a1,a2,a3⟩;exact⟨⟨a1,by omega⟩,a3⟩
theorem Tq {ops:List IOp} {len i:Int} {o:IOp}:Ld ops len i o↔(1≤o.kind∧o.kind≤8)∧(hX o∧Vl ops o.x i∨¬hX o∧o.x=0)∧(hY o∧Vl ops o.y i∨¬hY o∧o.y=0)∧
  (hK o∧(o.kind=1∧(0≤o.k∧o.k≤65535)∨(o.kind=2∨o.kind=8)∧(0≤o.k∧o.k≤3)∨o.kind=3∧(1≤o.k∧o.k≤5))∨¬hK o∧o.k=0)∧(evO o∧(0≤o.at_∧o.at_<len)∨¬evO o∧o.at_=0):=by
 constructor
 ·rintro⟨kd,x1,x0,y1,y0,k1,k2,k3,k0,a1,a0⟩
  refine⟨kd,?_,?_,?_,?_⟩
  ·by_cases h:hX o
   ·exact Or.inl ⟨h,x1 h⟩
   ·exact Or.inr ⟨h,x0 h⟩
  ·by_cases h:hY o
   ·exact Or.inl ⟨h,y1 h⟩
   ·exact Or.inr ⟨h,y0 h⟩
  ·unfold hK;omega
  ·by_cases h:evO o
   ·exact Or.inl ⟨h,a1 h⟩
   ·exact Or.inr ⟨h,a0 h⟩
 ·rintro⟨kd,x,y,k,a⟩
  refine⟨kd,fun h=> ?_,fun h=> ?_,fun h=> ?_,fun h=> ?_,fun h=> ?_,fun h=> ?_,fun h=> ?_,fun h h'=> ?_,fun h=> ?_,fun h=> ?_⟩
  ·rcases x with x | x
   ·exact x.2
   ·exact absurd h x.1
  ·rcases x with x | x
   ·exact absurd x.1 h
   ·exact x.2
  ·rcases y with y | y
   ·exact y.2
   ·exact absurd h y.1
  ·rcases y with y | y
   ·exact absurd y.1 h
   ·exact y.2
  ·unfold hK at k;omega
  ·unfold hK at k;omega
  ·unfold hK at k;omega
  ·unfold hK at k;omega
  ·rcases a with a | a
   ·exact a.2
   ·exact absurd h a.1
  ·rcases a with a | a
   ·exact absurd a.1 h
   ·exact a.2
theorem awZ {p3:Blk×Int×Int×Unit→Bool} {f3:Blk×Int×Int×Unit→Bool×Unit} (hp3:∀b x n,0≤n→n≤b.ops.length→b.ops.length<1000000000→p3 (b,x,n,())=true) (hf3:∀b x n,0≤n→n≤b.ops.length→b.ops.length<1000000000→f3 (b,x,n,())=(bp (Vl b.ops x n),()))
  {p2:IOp×Unit→Bool} {f2:IOp×Unit→Bool×Bool×Bool×Bool×Unit} (hp2:∀o,p2 (o,())=true) (hf2:∀o,f2 (o,())=(decide (hX o),decide (hY o),decide (hK o),decide (evO o),()))
  {p4:Int×Unit→Bool} {f4:Int×Unit→Bool×Unit} (hp4:∀a,p4 (a,())=true) (hf4:∀a,f4 (a,())=(inB a 0 65535,()))
  {p1:Int×Int×Int×Unit→Bool} {f1:Int×Int×Int×Unit→Bool×Unit} (hp1:∀a b c,p1 (a,b,c,())=true) (hf1:∀a b c,f1 (a,b,c,())=(inB a b c,()))
  {p5:Int×Unit→Bool} {f5:Int×Unit→Bool×Unit} (hp5:∀a,p5 (a,())=true) (hf5:∀a,f5 (a,())=(inB a 1 5,()))
  {p6:Int×Unit→Bool} {f6:Int×Unit→Bool×Unit} (hp6:∀a,p6 (a,())=true) (hf6:∀a,f6 (a,())=(inB a 0 3,()))
  (b:Blk) (i:Int) (h0:0≤i) (h1:i<b.ops.length) (h2:b.ops.length<1000000000) (h3:1≤b.len∧b.len≤8):
  acU (std 0).al p3 f3 p2 f2 p4 f4 p1 f1 p5 f5 p6 f6 (b,i,()) (fun y=>y=(bp (Ld b.ops b.len i ((b.ops).getD (i).toNat default)),())):=by
 have XP:=fun x=>hp3 b x i h0 (by omega) h2
 have XQ:=fun x=>hf3 b x i h0 (by omega) h2
 dsimp only [acU,Tup.q,Tup.o]
 simp (disch:=omega) only [RR,RB,hp1,hf1,hp2,hf2,XP,XQ,hp4,hf4,hp5,hf5,hp6,hf6,l7]
 refine⟨by omega,by omega,fun h=> ?_,fun h=> ?_⟩
 ·rw [dD (fun g=>h g.kd)]
 ·have h:=dA.1 h
  refine Prod.ext ?_ rfl
  dsimp only
  rw [Bool.eq_iff_iff,aT,Tq]
  generalize ((b.ops).getD (i).toNat default)=o at h ⊢
  simp only [Bool.and_eq_true,Bool.or_eq_true,Bool.not_eq_true',decide_eq_true_eq,decide_eq_false_iff_not,aT,dA,h,true_and,and_true]
  have e:∀ {a:Int},(0≤a∧a≤b.len-1)↔(0≤a∧a<b.len):=fun {a}=>by omega
  have k:(bif decide (o.kind=1)then inB o.k 0 65535 else bif decide (o.kind=2)then inB o.k 0 3 else bif decide (o.kind=3)then inB o.k 1 5 else(decide (o.kind=8)&&inB o.k 0 3))=true↔(o.kind=1∧(0≤o.k∧o.k≤65535)∨(o.kind=2∨o.kind=8)∧(0≤o.k∧o.k≤3)∨o.kind=3∧(1≤o.k∧o.k≤5)):=by
   rcases(by omega:o.kind=1∨o.kind=2∨o.kind=3∨o.kind=8∨(o.kind≠1∧o.kind≠2∧o.kind≠3∧o.kind≠8))with c | c | c | c | ⟨c1,c2,c3,c4⟩
   ·simp [c,inB]
   ·simp [c,inB]
   ·simp [c,inB]
   ·simp [c,inB]
   ·simp [c1,c2,c3,c4]
  rw [k]
  simp only [e,and_assoc]
theorem aiR (b:Blk):acZ (std 0).al (b,()) (fun y=>y=(decide (b.fin≠1),decide (3≤b.fin),decide (b.fin≠2),())):=by
 dsimp only [acZ,Tup.q,Tup.o]
 simp (disch:=omega) only [RR,RB]
 refine Prod.ext ?_ (Prod.ext rfl (Prod.ext ?_ rfl))<;>simp
theorem MW {b:Blk}:BS b↔(1≤b.fin∧b.fin≤4)∧(b.fin≠1∧Vl b.ops b.x b.ops.length∨¬b.fin≠1∧b.x=0)∧(3≤b.fin∧Vl b.ops b.y b.ops.length∨¬3≤b.fin∧b.y=0)∧(b.fin≠2∧(0≤b.k∧b.k≤65535)∨¬b.fin≠2∧b.k=0):=by
 constructor
 ·rintro⟨f,x1,x0,y1,y0,k1,k0⟩
  refine⟨f,?_,?_,by omega⟩
  ·by_cases h:b.fin=1
   ·exact Or.inr ⟨fun g=>g h,x0 h⟩
   ·exact Or.inl ⟨h,x1 h⟩
  ·by_cases h:3≤b.fin
   ·exact Or.inl ⟨h,y1 h⟩
   ·exact Or.inr ⟨h,y0 (by omega)⟩
 ·rintro⟨f,x,y,k⟩
  refine⟨f,fun h=> ?_,fun h=> ?_,fun h=> ?_,fun h=> ?_,fun h=>by omega,fun h=>by omega⟩
  ·rcases x with x | x
   ·exact x.2
   ·exact absurd h x.1
  ·rcases x with x | x
   ·exact absurd h x.1
   ·exact x.2
  ·rcases y with y | y
   ·exact y.2
   ·exact absurd h y.1
  ·rcases y with y | y
   ·exact absurd y.1 (by omega)
   ·exact y.2
theorem aw0 {p2:Blk×Unit→Bool} {f2:Blk×Unit→Bool×Bool×Bool×Unit} (hp2:∀b,p2 (b,())=true) (hf2:∀b,f2 (b,())=(decide (b.fin≠1),decide (3≤b.fin),decide (b.fin≠2),()))
  {p3:Blk×Int×Int×Unit→Bool} {f3:Blk×Int×Int×Unit→Bool×Unit} (hp3:∀b x n,0≤n→n≤b.ops.length→b.ops.length<1000000000→p3 (b,x,n,())=true) (hf3:∀b x n,0≤n→n≤b.ops.length→b.ops.length<1000000000→f3 (b,x,n,())=(bp (Vl b.ops x n),()))
  {p4:Int×Unit→Bool} {f4:Int×Unit→Bool×Unit} (hp4:∀a,p4 (a,())=true) (hf4:∀a,f4 (a,())=(inB a 0 65535,()))
  {p1:Int×Int×Int×Unit→Bool} {f1:Int×Int×Int×Unit→Bool×Unit} (hp1:∀a b c,p1 (a,b,c,())=true) (hf1:∀a b c,f1 (a,b,c,())=(inB a b c,())) (b:Blk) (h2:b.ops.length<1000000000):
  ac0 (std 0).al p2 f2 p3 f3 p4 f4 p1 f1 (b,()) (fun y=>y=(bp (BS b),())):=by
 have XP:=fun x=>hp3 b x b.ops.length (by omega) (Int.le_refl _) h2
 have XQ:=fun x=>hf3 b x b.ops.length (by omega) (Int.le_refl _) h2
 dsimp only [ac0,Tup.q,Tup.o]
 simp (disch:=omega) only [RR,RB,hp1,hf1,hp2,hf2,XP,XQ,hp4,hf4]
 refine Prod.ext ?_ rfl
 dsimp only
 rw [Bool.eq_iff_iff,aT,MW]
 simp only [Bool.and_eq_true,Bool.or_eq_true,Bool.not_eq_true',decide_eq_true_eq,decide_eq_false_iff_not,aT,dA,and_assoc]
theorem aw1 {p2:Blk×Unit→Bool} {f2:Blk×Unit→Bool×Unit} (hp2:∀b,b.ops.length<1000000000→p2 (b,())=true) (hf2:∀b,b.ops.length<1000000000→f2 (b,())=(bp (BS b),()))
  {p3:Blk×Int×Unit→Bool} {f3:Blk×Int×Unit→Bool×Unit} (hp3:∀(b:Blk) (i:Int),0≤i→i<b.ops.length→b.ops.length<1000000000→1≤b.len∧b.len≤8→p3 (b,i,())=true) (hf3:∀(b:Blk) (i:Int),0≤i→i<b.ops.length→b.ops.length<1000000000→1≤b.len∧b.len≤8→f3 (b,i,())=(bp (Ld b.ops b.len i ((b.ops).getD (i).toNat default)),()))
  {p1:Int×Int×Int×Unit→Bool} {f1:Int×Int×Int×Unit→Bool×Unit} (hp1:∀a b c,p1 (a,b,c,())=true) (hf1:∀a b c,f1 (a,b,c,())=(inB a b c,())) (b:Blk) (h2:b.ops.length<1000000000):
  ac3 (std 0).al p2 f2 p3 f3 p1 f1 (b,()) (fun y=>y=(bp (gH b),())):=by
 dsimp only [ac3,Tup.q,Tup.o]
 simp (disch:=omega) only [RR,RB,hp1,hf1]
 by_cases hl:1≤b.len∧b.len≤8
 ·have hl':=dA.2 hl
  simp (disch:=omega) only [RR,hl',dA,l7]
  refine⟨fun h=> ?_,fun h=> ?_⟩
  ·rw [dD (fun g=> ?_)]
   have g1:=g.pc
   have g2:=g.sz
   omega
  ·refine ak (fun(y:Int×Int×Blk×Unit)=>y.1=b.ops.length∧y.2.2.1=b∧0≤y.2.1∧y.2.1≤b.ops.length∧All y.2.1 (fun i=>Ld b.ops b.len i ((b.ops).getD (i).toNat default))) (fun y=>(b.ops.length-y.2.1).toNat) ⟨rfl,rfl,by simp,by simp,All.zero⟩ ?_
   rintro⟨(n:Int),(i:Int),(b':Blk),⟨⟩⟩ hI
   dsimp only at hI ⊢
   obtain⟨rfl,rfl,h3,h4,h5⟩:=hI
   simp (disch:=omega) only [RR,hp2 b' h2,hf2 b' h2]
   refine⟨fun h6=>⟨hp3 b' i h3 h6 h2 hl,?_⟩,fun h6=> ?_⟩
   ·rw [hf3 b' i h3 h6 h2 hl]
    dsimp only
    refine⟨fun h7=> ?_,fun h7=>⟨⟨by omega,by omega,h5.snoc (aT.1 h7)⟩,by omega⟩⟩
    rw [dD (fun g=>jv.1 h7 (g.op i h3 h6))]
   ·by_cases he:BS b'
    ·rw [dz he,dz (show gH b' from⟨hl,by omega,by omega,fun j j1 j2=>h5 j j1 (by omega),he⟩)]
    ·rw [dD he,dD (fun g=>he g.en)]
 ·have hl':=l7.2 hl
  simp (disch:=omega) only [RR,hl']
  rw [dD (fun g=>hl g.ln)]
  exact⟨rfl,fun h=>h.1.1.elim⟩
end Go.TX.F
namespace Go.TX.F
open Go Go.AE Go.TX
theorem apg {p1:Int×Int×Int×Unit→Bool} {f1:Int×Int×Int×Unit→Bool×Unit} (hp1:∀a b c,p1 (a,b,c,())=true) (hf1:∀a b c,f1 (a,b,c,())=(inB a b c,())) (k:Int):
  UL (std 0).al p1 f1 (k,()) (fun y=>y=(decide ((1≤k∧k≤4)∨k=6),())):=by
 dsimp only [UL,Tup.q,Tup.o]
 simp (disch:=omega) only [RR,hp1,hf1]
 refine Prod.ext ?_ rfl
 rw [Bool.eq_iff_iff];simp [inB]
theorem aph {p1:Int×Unit→Bool} {f1:Int×Unit→Bool×Unit} (hp1:∀k,p1 (k,())=true) (hf1:∀k,f1 (k,())=(decide ((1≤k∧k≤4)∨k=6),())) (ops:List IOp) (x n:Int) (h1:n≤ops.length):
  UM (std 0).al p1 f1 (ops,x,n,()) (fun y=>y=(bp (Vl ops x n),())):=by
 dsimp only [UM,Tup.q,Tup.o]
 simp (disch:=omega) only [RR,RB,hp1,hf1]
 refine⟨by simp only [Bool.and_eq_false_iff,decide_eq_false_iff_not];omega,by simp only [Bool.and_eq_false_iff,decide_eq_false_iff_not];omega,?_⟩
 refine Prod.ext ?_ rfl
 dsimp only
 rw [Bool.eq_iff_iff,aT,Bool.and_eq_true,Bool.and_eq_true,decide_eq_true_eq,decide_eq_true_eq,decide_eq_true_eq,and_assoc]
 rfl
theorem apj {p4:Int×Unit→Bool} {f4:Int×Unit→Bool×Unit} (hp4:∀a,p4 (a,())=true) (hf4:∀a,f4 (a,())=(inB a 0 65535,()))
  {p1:Int×Int×Int×Unit→Bool} {f1:Int×Int×Int×Unit→Bool×Unit} (hp1:∀a b c,p1 (a,b,c,())=true) (hf1:∀a b c,f1 (a,b,c,())=(inB a b c,()))
  {p3:List IOp×Int×Int×Unit→Bool} {f3:List IOp×Int×Int×Unit→Bool×Unit} (hp3:∀(ops:List IOp) (x n:Int),n≤ops.length→p3 (ops,x,n,())=true) (hf3:∀(ops:List IOp) (x n:Int),n≤ops.length→f3 (ops,x,n,())=(bp (Vl ops x n),()))
  (ops:List IOp) (i len:Int) (h0:0≤i) (h1:i<ops.length) (h3:1≤len∧len≤8):UN (std 0).al p4 f4 p1 f1 p3 f3 (ops,i,len,()) (fun y=>y=(bp (Ld ops len i ((ops).getD (i).toNat default)),())):=by
 have XP:=fun x=>hp3 ops x i (by omega)
 have XQ:=fun x=>hf3 ops x i (by omega)
 have e:∀ {a:Int},(0≤a∧a≤len-1)↔(0≤a∧a<len):=fun {a}=>by omega
 dsimp only [UN,Tup.q,Tup.o]
 simp (disch:=omega) only [RR,RB,hp1,hf1,XP,XQ,hp4,hf4]
 refine⟨by omega,by omega,?_⟩
 rw [show bp (Ld ops len i ((ops).getD (i).toNat default))=bp (_)from lJ Tq]
 generalize ((ops).getD (i).toNat default)=o
 have go:∀ {c:Bool} {P:Prop},(c=true↔P)→(c,())=(bp P,()):=fun {c P} h=>Prod.ext (by dsimp only;rw [Bool.eq_iff_iff,aT];exact h) rfl
 refine⟨fun c=> ?_,fun c1=>⟨fun c=> ?_,fun c2=>⟨fun c=> ?_,fun c3=> ?_⟩⟩⟩
 ·refine go ?_
  simp only [Bool.and_eq_true,decide_eq_true_eq,aT,dA,c,hX,hY,hK,evO,e]
  simp [and_assoc]
 ·refine go ?_
  simp only [Bool.and_eq_true,decide_eq_true_eq,aT,dA,c,hX,hY,hK,evO,e]
  simp [and_assoc]
 ·refine go ?_
  simp only [Bool.and_eq_true,decide_eq_true_eq,aT,dA,c,hX,hY,hK,evO,e]
  simp [and_assoc]
 ·by_cases c4:o.kind=4∨o.kind=7
  ·have c5:o.kind≠8:=by omega
   rcases c4 with c | c<;>simp (disch:=omega) only [RR,c,Int.reduceEq]<;>(refine go ?_)<;>simp only [Bool.and_eq_true,decide_eq_true_eq,aT,dA,c,hX,hY,hK,evO,e]<;>simp [and_assoc]
  ·by_cases c:o.kind=5
   ·simp (disch:=omega) only [RR,c,Int.reduceEq]
    refine go ?_
    simp only [Bool.and_eq_true,decide_eq_true_eq,aT,dA,c,hX,hY,hK,evO,e]
    simp [and_assoc]
   ·by_cases c':o.kind=6
    ·simp (disch:=omega) only [RR,c',Int.reduceEq]
     refine go ?_
     simp only [Bool.and_eq_true,decide_eq_true_eq,aT,dA,c',hX,hY,hK,evO,e]
     simp [and_assoc]
    ·by_cases c8:o.kind=8
     ·simp (disch:=omega) only [RR,c8,Int.reduceEq]
      refine go ?_
      simp only [Bool.and_eq_true,decide_eq_true_eq,aT,dA,c8,hX,hY,hK,evO,e]
      simp [and_assoc]
     ·have n4:¬o.kind=4:=fun h=>c4 (Or.inl h)
      have n7:¬o.kind=7:=fun h=>c4 (Or.inr h)
      simp (disch:=omega) only [RR,n4,n7,c,c',c8]
      rw [dD (fun h=>by have:=h.1;omega)]
theorem apk {p4:Int×Unit→Bool} {f4:Int×Unit→Bool×Unit} (hp4:∀a,p4 (a,())=true) (hf4:∀a,f4 (a,())=(inB a 0 65535,()))
  {p3:List IOp×Int×Int×Unit→Bool} {f3:List IOp×Int×Int×Unit→Bool×Unit} (hp3:∀(ops:List IOp) (x n:Int),n≤ops.length→p3 (ops,x,n,())=true) (hf3:∀(ops:List IOp) (x n:Int),n≤ops.length→f3 (ops,x,n,())=(bp (Vl ops x n),()))
  (b:Blk):UO (std 0).al p4 f4 p3 f3 (b,()) (fun y=>y=(bp (BS b),())):=by
 have XP:=fun x=>hp3 b.ops x b.ops.length (Int.le_refl _)
 have XQ:=fun x=>hf3 b.ops x b.ops.length (Int.le_refl _)
 dsimp only [UO,Tup.q,Tup.o]
 simp (disch:=omega) only [RR,RB,XP,XQ,hp4,hf4]
 rw [show bp (BS b)=bp (_)from lJ MW]
 have go:∀ {c:Bool} {P:Prop},(c=true↔P)→(c,())=(bp P,()):=fun {c P} h=>Prod.ext (by dsimp only;rw [Bool.eq_iff_iff,aT];exact h) rfl
 refine⟨fun c=> ?_,fun c1=>⟨fun c=> ?_,fun c2=> ?_⟩⟩
 ·refine go ?_
  simp only [Bool.and_eq_true,decide_eq_true_eq,aT,dA,c]
  simp [and_assoc]
 ·refine go ?_
  simp only [Bool.and_eq_true,decide_eq_true_eq,aT,dA,c]
  simp [and_assoc]
 ·by_cases c:b.fin=3
  ·simp (disch:=omega) only [RR,c,Int.reduceEq]
   refine go ?_
   simp only [Bool.and_eq_true,decide_eq_true_eq,aT,dA,c]
   simp [and_assoc]
  ·by_cases c4:b.fin=4
   ·simp (disch:=omega) only [RR,c4,Int.reduceEq]
    refine go ?_
    simp only [Bool.and_eq_true,decide_eq_true_eq,aT,dA,c4]
    simp [and_assoc]
   ·simp (disch:=omega) only [RR,c,c4]
    rw [dD (fun h=>by have:=h.1;omega)]
theorem apl {p1:Int×Int×Int×Unit→Bool} {f1:Int×Int×Int×Unit→Bool×Unit} (hp1:∀a b c,p1 (a,b,c,())=true) (hf1:∀a b c,f1 (a,b,c,())=(inB a b c,()))
  {p2:Blk×Unit→Bool} {f2:Blk×Unit→Bool×Unit} (hp2:∀b,p2 (b,())=true) (hf2:∀b,f2 (b,())=(bp (BS b),()))
  {p3:List IOp×Int×Int×Unit→Bool} {f3:List IOp×Int×Int×Unit→Bool×Unit} (hp3:∀(ops:List IOp) (i len:Int),0≤i→i<ops.length→1≤len∧len≤8→p3 (ops,i,len,())=true) (hf3:∀(ops:List IOp) (i len:Int),0≤i→i<ops.length→1≤len∧len≤8→f3 (ops,i,len,())=(bp (Ld ops len i ((ops).getD (i).toNat default)),())) (b:Blk) (h2:b.ops.length<1000000000):
  UQ (std 0).al p1 f1 p2 f2 p3 f3 (b,()) (fun y=>y=(bp (gH b),())):=by
 dsimp only [UQ,Tup.q,Tup.o]
 simp (disch:=omega) only [RR,RB,hp1,hf1]
 by_cases hl:1≤b.len∧b.len≤8
 ·have hl':=dA.2 hl
  simp (disch:=omega) only [RR,hl',dA,l7]
  refine⟨fun h=> ?_,fun h=> ?_⟩
  ·rw [dD (fun g=> ?_)]
   have g1:=g.pc
   have g2:=g.sz
   omega
  ·refine ak (fun(y:Int×Blk×Unit)=>y.2.1=b∧0≤y.1∧y.1≤b.ops.length∧All y.1 (fun i=>Ld b.ops b.len i ((b.ops).getD (i).toNat default))) (fun y=>(b.ops.length-y.1).toNat) ⟨rfl,by simp,by simp,All.zero⟩ ?_
   rintro⟨(i:Int),(b':Blk),⟨⟩⟩ hI
   dsimp only at hI ⊢
   obtain⟨rfl,h3,h4,h5⟩:=hI
   simp (disch:=omega) only [RR,hp2 b',hf2 b']
   refine⟨fun h6=>⟨hp3 b'.ops i b'.len h3 h6 hl,?_⟩,fun h6=> ?_⟩
   ·rw [hf3 b'.ops i b'.len h3 h6 hl]
    dsimp only
    refine⟨fun h7=> ?_,fun h7=>⟨⟨by omega,by omega,h5.snoc (aT.1 h7)⟩,by omega⟩⟩
    rw [dD (fun g=>jv.1 h7 (g.op i h3 h6))]
   ·by_cases he:BS b'
    ·rw [dz he,dz (show gH b' from⟨hl,by omega,by omega,fun j j1 j2=>h5 j j1 (by omega),he⟩)]
    ·rw [dD he,dD (fun g=>he g.en)]
 ·have hl':=l7.2 hl
  simp (disch:=omega) only [RR,hl']
  rw [dD (fun g=>hl g.ln)]
  exact⟨rfl,fun h=>h.1.1.elim⟩
theorem aw2 {p4:Int×Unit→Bool} {f4:Int×Unit→Bool×Unit} (hp4:∀a,p4 (a,())=true) (hf4:∀a,f4 (a,())=(inB a 0 65535,())) (r a b:Int):
  aeg (std 0).al p4 f4 (r,a,b,()) (fun y=>y=(inB a 0 65535&&inB b 0 65535&& (decide (r=1∧a=b∨r=2∧a<b)),())):=by
 dsimp only [aeg,Tup.q,Tup.o]
 simp (disch:=omega) only [RR,hp4,hf4]
 refine Prod.ext ?_ rfl
 rw [Bool.eq_iff_iff];simp
theorem aw3 {p1:List aj×Unit→Bool} {f1:List aj×Unit→List aj×Unit} (hp1:∀a,Sh a→p1 (a,())=true) (hf1:∀a,Sh a→f1 (a,())=(a,())) (a:List (List aj)) (ha:ShP a):
  aee (std 0).al p1 f1 (a,()) (fun y=>y=(a,())):=by
 have hlen:=ha.1
 dsimp only [aee,Tup.q,Tup.o]
 refine ak (fun(y:List (List aj)×Int×Int×List (List aj)×Unit)=>y.1=a∧y.2.1=a.length∧y.2.2.2.1=a.take y.2.2.1.toNat∧0≤y.2.2.1∧y.2.2.1≤a.length) (fun y=>(a.length-y.2.2.1).toNat) ⟨rfl,rfl,by simp,by simp,by simp⟩ ?_
 rintro⟨(l:List (List aj)),(m:Int),(i:Int),(o:List (List aj)),⟨⟩⟩ hI
 dsimp only at hI ⊢
 obtain⟨rfl,rfl,rfl,h1,h2⟩:=hI
 simp (disch:=omega) only [RR,hp1 _ (ha.at _),hf1 _ (ha.at _)]
 refine⟨fun h4=>⟨by omega,by omega,?_,⟨bL h1 h4 rfl,by omega,by omega⟩,by omega⟩,fun h4=>by rw [List.take_of_length_le (by omega)]⟩
 have:=List.length_take_le' i.toNat l
 simp only [List.length_cons,List.length_nil];omega
theorem aw4 {p1:List aj×Unit→Bool} {f1:List aj×Unit→List aj×Unit} (hp1:∀a,Sh a→p1 (a,())=true) (hf1:∀a,Sh a→f1 (a,())=(a,()))
  {p2:List (List aj)×Unit→Bool} {f2:List (List aj)×Unit→List (List aj)×Unit} (hp2:∀a,ShP a→p2 (a,())=true) (hf2:∀a,ShP a→f2 (a,())=(a,())) (s:Sym) (hs:ShY s):
  aef (std 0).al p1 f1 p2 f2 (s,()) (fun y=>y=(s.fin,s.k,s.events,s.regs,s.x,s.y,())):=by
 have hlen:=hs.e.1
 dsimp only [aef,Tup.q,Tup.o]
 simp (disch:=omega) only [RR,RB,hp1 _ hs.x,hf1 _ hs.x,hp1 _ hs.y,hf1 _ hs.y,hp2 _ hs.r,hf2 _ hs.r]
 refine ak (fun(y:List Ev×Int×Int×Int×Int×Int×Int×List Ev×List (List aj)×List aj×List aj×Unit)=>y.1=s.events∧y.2.1=s.events.length∧y.2.2.2.2.2.1=s.fin∧y.2.2.2.2.2.2.1=s.k∧y.2.2.2.2.2.2.2.1=s.events.take y.2.2.1.toNat∧y.2.2.2.2.2.2.2.2.1=s.regs∧y.2.2.2.2.2.2.2.2.2.1=s.x∧y.2.2.2.2.2.2.2.2.2.2.1=s.y∧0≤y.2.2.1∧y.2.2.1≤s.events.length) (fun y=>(s.events.length-y.2.2.1).toNat) ⟨rfl,rfl,rfl,rfl,by simp,rfl,rfl,rfl,by simp,by simp⟩ ?_
 rintro⟨(l:List Ev),(m:Int),(i:Int),(q1:Int),(q2:Int),(q3:Int),(q4:Int),(o:List Ev),(r:List (List aj)),(u:List aj),(v:List aj),⟨⟩⟩ hI
 dsimp only at hI ⊢
 obtain⟨rfl,rfl,rfl,rfl,rfl,rfl,rfl,rfl,h1,h2⟩:=hI
 have he:=hs.e.at i.toNat
 simp (disch:=omega) only [RR,RB,hp1 _ he.1,hf1 _ he.1,hp1 _ he.2.1,hf1 _ he.2.1,hp2 _ he.2.2,hf2 _ he.2.2]
 refine⟨fun h4=>⟨by omega,by omega,?_,⟨bL h1 h4 rfl,by omega,by omega⟩,by omega⟩,fun h4=>by rw [List.take_of_length_le (by omega)]⟩
 have:=List.length_take_le' i.toNat s.events
 simp only [List.length_cons,List.length_nil];omega
end Go.TX.F
namespace Go.TX.F
open Go Go.AE Go.TX
theorem aw5 {p1:Int×Unit→Bool} {f1:Int×Unit→List aj×Unit} (hp1:∀n,p1 (n,())=true) (hf1:∀n,f1 (n,())=(gK n,()))
  {p2:List Atom×Atom×Unit→Bool} {f2:List Atom×Atom×Unit→List Atom×Int×Unit} (hp2:∀(t:List Atom) a,t.length<1000000000→ShA a→p2 (t,a,())=true) (hf2:∀(t:List Atom) a,t.length<1000000000→ShA a→f2 (t,a,())=((bG t a).1,(bG t a).2,()))
  (kd k:Int) (t:List Atom) (fl:Bool) (ht:t.length<1000000000):
  adA (std 0).al p1 f1 p2 f2 (kd,k,t,fl,()) (fun y=>y=if(bG t ⟨kd,k,[],[]⟩).2<0 then([],t,true,())else(gK (bG t ⟨kd,k,[],[]⟩).2,(bG t ⟨kd,k,[],[]⟩).1,fl,())):=by
 have sa:ShA ⟨kd,k,[],[]⟩:=⟨oI,oI⟩
 dsimp only [adA,Tup.q,Tup.o]
 simp (disch:=omega) only [RR,hp1,hf1,hp2 _ _ ht sa,hf2 _ _ ht sa]
 exact⟨fun h=>by rw [if_pos h],fun h=>by rw [if_neg h]⟩
theorem Fv (t:List Atom) (n:Nat):rN t (n+1)=((bG (rN t n).1 ⟨1,n,[],[]⟩).1,(rN t n).2++ [gK (bG (rN t n).1 ⟨1,n,[],[]⟩).2]):=rfl
theorem aw6 {p1:Int×Int×List Atom×Bool×Unit→Bool} {f1:Int×Int×List Atom×Bool×Unit→List aj×List Atom×Bool×Unit} (hp1:∀kd k (t:List Atom) fl,t.length<1000000000→p1 (kd,k,t,fl,())=true)
  (hf1:∀kd k (t:List Atom) fl,t.length<1000000000→f1 (kd,k,t,fl,())=if(bG t ⟨kd,k,[],[]⟩).2<0 then([],t,true,())else(gK (bG t ⟨kd,k,[],[]⟩).2,(bG t ⟨kd,k,[],[]⟩).1,fl,()))
  (t:List Atom) (fl:Bool) (ht:aD t) (hl:t.length≤196):adF (std 0).al p1 f1 (t,fl,()) (fun y=>y=((rN t 4).1,fl,(rN t 4).2,())):=by
 dsimp only [adF,Tup.q,Tup.o]
 refine ak (fun(y:Int×List Atom×Bool×List (List aj)×Unit)=>0≤y.1∧y.1≤4∧y.2.2.1=fl∧y.2.1=(rN t y.1.toNat).1∧y.2.2.2.1=(rN t y.1.toNat).2) (fun y=>(4-y.1).toNat) ⟨by simp,by simp,rfl,rfl,rfl⟩ ?_
 rintro⟨(i:Int),(u:List Atom),(g:Bool),(r:List (List aj)),⟨⟩⟩ hI
 dsimp only at hI ⊢
 obtain⟨h1,h2,rfl,rfl,rfl⟩:=hI
 have ok:=EI ht hl i.toNat (by omega)
 have l1:=ok.tl
 have l2:=ok.r4
 simp (disch:=omega) only [RR,hp1 _ _ (rN t i.toNat).1 _ (by omega),hf1 _ _ (rN t i.toNat).1 _ (by omega),List.length_cons,List.length_nil]
 refine⟨fun h3=> ?_,fun h3=> ?_⟩
 ·have hp:=XK ht hl (n:=i.toNat) (by omega)
  rw [show((i.toNat:Nat):Int)=i by omega]at hp
  rw [if_neg (by omega)]
  have e:(i+1).toNat=i.toNat+1:=by omega
  have e2:((i.toNat:Nat):Int)=i:=by omega
  refine⟨by omega,⟨by omega,by omega,rfl,?_,?_⟩,by omega⟩
  ·rw [e,Fv,e2]
  ·rw [e,Fv,e2]
 ·rw [show i.toNat=4 by omega]
theorem aw7 (a:List (List aj)) (h0:0<a.length) (h1:a.length<1000000000):adS (std 0).al (a,()) (fun y=>y=(a,a,())):=by
 dsimp only [adS,Tup.q,Tup.o]
 simp (disch:=omega) only [RR,List.length_nil]
 exact⟨by omega,by omega,rfl⟩
theorem aw8 {p2:List Atom×Unit→Bool} {f2:List Atom×Unit→List Atom×Unit} (hp2:∀a,ShT a→p2 (a,())=true) (hf2:∀a,ShT a→f2 (a,())=(a,()))
  {p1:List Atom×Bool×Unit→Bool} {f1:List Atom×Bool×Unit→List Atom×Bool×List (List aj)×Unit} (hp1:∀(t:List Atom) fl,aD t→t.length≤196→p1 (t,fl,())=true) (hf1:∀(t:List Atom) fl,aD t→t.length≤196→f1 (t,fl,())=((rN t 4).1,fl,(rN t 4).2,())):
  adL (std 0).al p2 f2 p1 f1 () (fun y=>y.1=t4):=by
 have s4:ShT t4:=afm.1.sh
 unfold t4 at s4 ⊢
 dsimp only [adL,Tup.q,Tup.o]
 simp (disch:=omega) only [RR,hp1 [] false yE (by simp),hf1 [] false yE (by simp),hp2 _ s4,hf2 _ s4]
theorem aw9 {p1:List aj×Unit→Bool} {f1:List aj×Unit→Int×Bool×Unit} (hp1:∀a,Sh a→p1 (a,())=true) (hf1:∀a,Sh a→f1 (a,())=((bN a).1,(bN a).2,()))
  {p2:List aj×Unit→Bool} {f2:List aj×Unit→Bool×Unit} (hp2:∀a,Sh a→p2 (a,())=true) (hf2:∀a,Sh a→f2 (a,())=(bp (aI a),()))
  {p3:List aj×List aj×Unit→Bool} {f3:List aj×List aj×Unit→Int×Unit} (hp3:∀a b,Sh a→p3 (a,b,())=true) (hf3:∀a b,Sh a→f3 (a,b,())=(fQ a b,()))
  {p4:Sym×Unit→Bool} {f4:Sym×Unit→Int×Int×List Ev×List (List aj)×List aj×List aj×Unit} (hp4:∀s,ShY s→p4 (s,())=true) (hf4:∀s,ShY s→f4 (s,())=(s.fin,s.k,s.events,s.regs,s.x,s.y,()))
  {p5:List aj×List aj×Unit→Bool} {f5:List aj×List aj×Unit→Bool×Unit} (hp5:∀a b,Sh a→p5 (a,b,())=true) (hf5:∀a b,Sh a→f5 (a,b,())=(decide (fQ a b=0),()))
  {p6:Int×Int×Int×Unit→Bool} {f6:Int×Int×Int×Unit→Bool×Unit} (hp6:∀r a b,p6 (r,a,b,())=true) (hf6:∀r a b,f6 (r,a,b,())=(inB a 0 65535&&inB b 0 65535&& (decide (r=1∧a=b∨r=2∧a<b)),()))
  (s:Sym) (n:Int) (hs:ShY s) (h0:0≤s.fin) (h1:s.fin≤4):aeh (std 0).al p1 f1 p2 f2 p3 f3 p4 f4 p5 f5 p6 f6 (s,n,()) (fun y=>y=(symEnd s n,())):=by
 dsimp only [aeh,Tup.q,Tup.o]
 simp (disch:=omega) only [RR,RB,hp1 _ hs.x,hf1 _ hs.x,hp1 _ hs.y,hf1 _ hs.y,hp2 _ hs.x,hf2 _ hs.x,hp2 _ hs.y,hf2 _ hs.y,hp3 _ _ hs.x,hf3 _ _ hs.x,hp4 s hs,hf4 s hs,hp5 _ _ hs.x,hf5 _ _ hs.x,hp6,hf6]
 have xy:fQ s.x s.y=0↔s.x=s.y:=iR
 have rx:(bN s.x).2=true→inB (bN s.x).1 0 65535=true:=fun h=>dA.2 (tN h).2.2
 have ry:(bN s.y).2=true→inB (bN s.y).1 0 65535=true:=fun h=>dA.2 (tN h).2.2
 unfold symEnd
 refine⟨fun h=> ?_,fun h=>⟨fun g=> ?_,fun g=>⟨fun k=> ?_,fun k=>⟨fun l=>⟨fun m=> ?_,fun m=> ?_⟩,fun l=>⟨fun m=> ?_,fun m=> ?_⟩⟩⟩⟩⟩
 ·rw [if_pos (by rw [mK,Bool.and_eq_false_iff];exact h)];rfl
 all_goals rw [if_neg (by rw [mK,h.1,h.2];simp)]
 ·rw [if_pos g]
 all_goals rw [if_neg (show¬(s.fin=2∧(bN s.x).2=true) by
  rintro⟨a,b⟩;rw [decide_eq_true a,b]at g;cases g)]
 ·rw [if_pos k]
 all_goals rw [if_neg (show¬(s.fin≠3∧s.fin≠4) by
  rintro⟨a,b⟩;rw [decide_eq_false a,decide_eq_false b]at k;cases k)]
 ·rw [if_pos (by rw [←xy];exact l),if_neg]
  rintro(⟨q1,q2⟩ | ⟨⟨q1,q2⟩,q3⟩)
  ·have:=m.1;rw [decide_eq_true (xy.2 q1),decide_eq_true q2]at this;cases this
  ·have:=m.2
   rw [q1,q2,rx q1,ry q2,decide_eq_true (by omega)]at this;cases this
 ·rw [if_pos (by rw [←xy];exact l),if_pos]
  rcases m with⟨q1,q2⟩ | ⟨q1,_,q3⟩
  ·exact Or.inl ⟨xy.1 q1,q2⟩
  ·exact Or.inr ⟨q1,by omega⟩
 all_goals rw [if_neg (show¬(s.x=s.y∨(bN s.x).2=true∧(bN s.y).2=true) by
  rintro(q | ⟨q1,q2⟩)
  ·exact l.1 (xy.2 q)
  ·have:=l.2;rw [q1,q2]at this;cases this)]
 ·rw [if_pos m]
 ·rw [if_neg]
  rintro⟨a,b⟩;rw [decide_eq_true a,decide_eq_true b]at m;cases m
end Go.TX.F
namespace Go.TX.F
open Go Go.AE Go.TX
noncomputable def SW (t:List Atom) (b:Blk) (i:Nat):SS:=(b.ops.take i).foldl stp (s0 t)
structure At (t:List Atom) (b:Blk) (i:Nat) (ld inn:Int) (tb:List Atom) (V:List (List aj)) (ev:List Ev) (rg:List (List aj)):Prop where
 ld:ld=(SW t b i).ld
 inn:inn=(SW t b i).inn
 tb:tb=(SW t b i).t
 V:V=(SW t b i).vals++List.replicate (b.ops.length-i) []
 ev:ev=(SW t b i).evs
 rg:rg=(SW t b i).regs
theorem At.azS {t:List Atom} {b:Blk} {i:Nat} {ld inn:Int} {tb:List Atom} {V:List (List aj)} {ev:List Ev} {rg:List (List aj)} (h:At t b i ld inn tb V ev rg) (hv:(SW t b i).vals.length=i) (hi:i≤b.ops.length):V.length=b.ops.length:=by
 rw [h.V,List.length_append,List.length_replicate,hv];omega
theorem aae (t:List Atom):∀(l:List IOp) (s:SS),(l.foldl stp s).evs.length≤s.evs.length+l.length
 | [],s=>Nat.le_refl _
 | o::r,s=>by
  rw [List.foldl_cons,List.length_cons]
  have h1:=aae t r (stp s o)
  have h2:(stp s o).evs.length≤s.evs.length+1:=by
   show(nE s o).length≤_
   unfold nE;split
   ·rw [List.length_append];exact Nat.le_refl _
   ·omega
  omega
theorem afp {t:List Atom} {b:Blk} (i:Nat) (hi:i≤b.ops.length):(SW t b i).evs.length≤i:=by
 have:=aae t (b.ops.take i) (s0 t)
 rw [List.length_take,Nat.min_eq_left hi]at this
 show((b.ops.take i).foldl stp (s0 t)).evs.length≤i
 have e:(s0 t).evs.length=0:=rfl
 omega
theorem aaf {t:List Atom} {b:Blk} {i:Nat} (hi:i<b.ops.length):SW t b (i+1)=stp (SW t b i) (b.ops.getD i default):=by
 unfold SW;rw [XL _ _ hi,getD_lt hi]
theorem At.next {t:List Atom} {b:Blk} {i:Nat} {ld inn:Int} {tb:List Atom} {V:List (List aj)} {ev:List Ev} {rg:List (List aj)} (h:At t b i ld inn tb V ev rg) (hv:(SW t b i).vals.length=i) (hi:i<b.ops.length) {o:IOp} (ho:b.ops.getD i default=o)
  {ld' afq:Int} {tb':List Atom} {V':List (List aj)} {ev':List Ev} {rg':List (List aj)} (h1:ld'=if o.kind=4 then ld+1 else ld) (h2:afq=if o.kind=6 then inn+1 else inn) (h3:tb'=nT (SW t b i) o) (h4:V'=V.set i (nV (SW t b i) o)) (h5:ev'=nE (SW t b i) o) (h6:rg'=nR (SW t b i) o):At t b (i+1) ld' afq tb' V' ev' rg':=by
 have e:=aaf (t:=t) hi
 rw [ho]at e
 refine⟨?_,?_,?_,?_,?_,?_⟩<;>rw [e]
 ·rw [h1,h.ld];rfl
 ·rw [h2,h.inn];rfl
 ·exact h3
 ·rw [h4,h.V]
  show _=((SW t b i).vals++ [nV (SW t b i) o])++_
  rw [List.set_append_right _ _ (by omega),hv,Nat.sub_self,show b.ops.length-i=(b.ops.length- (i+1))+1 by omega,List.replicate_succ,List.set_cons_zero,List.append_assoc];rfl
 ·exact h5
 ·exact h6
set_option maxHeartbeats 1000000 in
theorem axa {p1:Blk×Unit→Bool} {f1:Blk×Unit→Bool×Bool×Bool×Unit} (hp1:∀b,p1 (b,())=true) (hf1:∀b,f1 (b,())=(decide (b.fin≠1),decide (3≤b.fin),decide (b.fin≠2),()))
  {p2:Blk×Unit→Bool} {f2:Blk×Unit→Bool×Unit} (hp2:∀b,b.ops.length<1000000000→p2 (b,())=true) (hf2:∀b,b.ops.length<1000000000→f2 (b,())=(bp (gH b),()))
  {p3:IOp×Unit→Bool} {f3:IOp×Unit→Bool×Unit} (hp3:∀o,p3 (o,())=true) (hf3:∀o,f3 (o,())=(decide (evO o),()))
  {p4:IOp×Unit→Bool} {f4:IOp×Unit→Bool×Bool×Bool×Bool×Unit} (hp4:∀o,p4 (o,())=true) (hf4:∀o,f4 (o,())=(decide (hX o),decide (hY o),decide (hK o),decide (evO o),()))
  {p5:Int×Unit→Bool} {f5:Int×Unit→List aj×Unit} (hp5:∀n,p5 (n,())=true) (hf5:∀n,f5 (n,())=(dG n,()))
  {p6:Sym×Int×Unit→Bool} {f6:Sym×Int×Unit→Sym×Unit} (hp6:∀s n,ShY s→0≤s.fin→s.fin≤4→p6 (s,n,())=true) (hf6:∀s n,ShY s→0≤s.fin→s.fin≤4→f6 (s,n,())=(symEnd s n,()))
  {p7:List Atom×Unit→Bool} {f7:List Atom×Unit→Bool×Unit} (hp7:∀a,ShT a→p7 (a,())=true) (hf7:∀a,ShT a→f7 (a,())=(bp (aD a),()))
  {p8:List Atom×Unit→Bool} {f8:List Atom×Unit→List Atom×Unit} (hp8:∀a,ShT a→p8 (a,())=true) (hf8:∀a,ShT a→f8 (a,())=(a,()))
  {p9:List Atom×Int×List aj×List aj×Unit→Bool} {f9:List Atom×Int×List aj×List aj×Unit→List Atom×List aj×Bool×Unit} (hp9:∀(t:List Atom) op x y,t.length<1000000000→Sh x→Sh y→p9 (t,op,x,y,())=true)
  (hf9:∀(t:List Atom) op x y,t.length<1000000000→Sh x→Sh y→(f9 (t,op,x,y,())).1=(tDo t op x y).1∧(f9 (t,op,x,y,())).2.1=(tDo t op x y).2∧(f9 (t,op,x,y,())).2.2.1=tOk t op x y)
  {p10:Int×Int×List Atom×Bool×Unit→Bool} {f10:Int×Int×List Atom×Bool×Unit→List aj×List Atom×Bool×Unit} (ah4:∀kd k (t:List Atom) fl,t.length<1000000000→p10 (kd,k,t,fl,())=true)
  (apm:∀kd k (t:List Atom) fl,t.length<1000000000→f10 (kd,k,t,fl,())=if(bG t ⟨kd,k,[],[]⟩).2<0 then([],t,true,())else(gK (bG t ⟨kd,k,[],[]⟩).2,(bG t ⟨kd,k,[],[]⟩).1,fl,()))
  {p11:List Atom×Bool×Unit→Bool} {f11:List Atom×Bool×Unit→List Atom×Bool×List (List aj)×Unit} (ah5:∀(t:List Atom) fl,aD t→t.length≤196→p11 (t,fl,())=true) (ah6:∀(t:List Atom) fl,aD t→t.length≤196→f11 (t,fl,())=((rN t 4).1,fl,(rN t 4).2,()))
  {p12:List (List aj)×Unit→Bool} {f12:List (List aj)×Unit→List (List aj)×List (List aj)×Unit} (XR:∀a:List (List aj),0<a.length→a.length<1000000000→p12 (a,())=true) (XU:∀a:List (List aj),0<a.length→a.length<1000000000→f12 (a,())=(a,a,()))
  (t:List Atom) (b:Blk) (ht:ShT t) (hb:b.ops.length<1000000000):aei (std 0).al p1 f1 p2 f2 p3 f3 p4 f4 p5 f5 p6 f6 p7 f7 p8 f8 p9 f9 p10 f10 p11 f11 p12 f12 (t,b,()) (fun y=>y=((dH t b).1,(dH t b).2,())):=by
 have hlt:=ht.1
 dsimp only [aei,Tup.q,Tup.o]
 simp (disch:=omega) only [RR,RB,hp7 t ht,hf7 t ht,hp2 b hb,hf2 b hb]
 by_cases c:aD t∧t.length≤100∧gH b
 case neg=>
  refine⟨fun _=> ?_,fun h=> ?_⟩
  ·unfold dH;rw [dD c];rfl
  ·exact absurd ⟨aT.1 h.1.1,by omega,aT.1 h.2⟩ c
 obtain⟨c1,c2,c3⟩:=c
 simp (disch:=omega) only [RR,dz c1,dz c3,ah5 t false c1 (by omega),ah6 t false c1 (by omega)]
 have sz:=c3.sz
 have hop:=c3.op
 have hk3:=c3.k3
 have i0:=Tm c1 (by omega)
 have siw:∀j:Nat,j≤b.ops.length→SI (t.length+4) j (SW t b j):=fun j hj=>by
  have:=(Le (b.ops.take j) 0 (s0 t) i0 (fun o ho=>hk3 o (List.mem_of_mem_take ho)) (by rw [List.length_take];omega) (by rw [List.length_take];omega)).1
  rw [List.length_take,Nat.min_eq_left hj,Nat.zero_add]at this;exact this
 refine⟨fun h=>absurd h (by omega),fun _=>⟨by omega,by omega,?_⟩⟩
 refine ak (fun(y:Int×Int×List IOp×Int×Int×Blk×Int×Int×List Atom×Bool×Int×Int×List (List aj)×List Ev×List (List aj)×Unit)=>y.2.2.2.2.2.1=b∧y.2.2.1=b.ops∧y.2.2.2.1=b.ops.length∧y.2.2.2.2.2.2.2.2.2.1=false∧y.2.2.2.2.2.2.2.2.2.2.1=b.fin∧y.2.2.2.2.2.2.2.2.2.2.2.1=b.k∧
   0≤y.2.2.2.2.1∧y.2.2.2.2.1≤b.ops.length∧At t b y.2.2.2.2.1.toNat y.1 y.2.1 y.2.2.2.2.2.2.2.2.1 y.2.2.2.2.2.2.2.2.2.2.2.2.1 y.2.2.2.2.2.2.2.2.2.2.2.2.2.1 y.2.2.2.2.2.2.2.2.2.2.2.2.2.2.1) (fun y=>(b.ops.length-y.2.2.2.2.1).toNat)
  ⟨rfl,rfl,rfl,rfl,rfl,rfl,by simp,by simp,⟨rfl,rfl,rfl,rfl,rfl,rfl⟩⟩ ?_
 rintro⟨(ld:Int),(inn:Int),(ops:List IOp),(n:Int),(i:Int),(b':Blk),(z1:Int),(z2:Int),(tb:List Atom),(fl:Bool),(fin:Int),(kk:Int),(V:List (List aj)),(ev:List Ev),(rg:List (List aj)),⟨⟩⟩ hI
 dsimp only at hI ⊢
 obtain⟨e1,e2,e3,e4,e5,e6,h1,h2,hA⟩:=hI
 subst e1 e2 e3 e4 e5 e6
 have hl:V.length=b'.ops.length:=hA.azS (siw i.toNat (by omega)).vl (by omega)
 have si:=siw i.toNat (by omega)
 obtain⟨a1,a2,a3,a4,a5,a6⟩:=hA
 have tl:tb.length<1000000000:=by rw [a3];have:=si.tl;omega
 have r4:rg.length=4:=by rw [a6];exact si.r4
 have evl:ev.length≤i.toNat:=by rw [a5];exact afp i.toNat (by omega)
 by_cases h7:i<b'.ops.length
 case neg=>
  have en:=c3.en
  have hf:=en.f
  have hpc:=c3.pc
  have hln:=c3.ln
  have ein:i.toNat=b'.ops.length:=by omega
  have eS:SW t b' i.toNat=iO t b':=by unfold SW iO;rw [ein,List.take_of_length_le (Nat.le_refl _)]
  rw [eS]at a1 a2 a3 a4 a5 a6 si
  have eV:V=(iO t b').vals:=by rw [a4,ein,Nat.sub_self];simp
  clear a4
  have pk:=Ou (b:=b') si
  have eR:=Lf c1 c2 c3
  have sh:ShY (BU b' (iO t b')):=by
   have i0:=Tm c1 (by omega)
   have hs:=Oq b'.ops 0 (s0 t) i0 hk3 (by omega) (by omega) ⟨by simp [s0],fun e he=>absurd he (by simp [s0])⟩
   exact⟨⟨by have:=hs.1;show(b'.ops.foldl stp (s0 t)).evs.length<_;omega,hs.2⟩,si.regs,pk.1.sh,pk.2.sh⟩
  have st:=si.tok.sh
  have q6:=hp6 (BU b' (iO t b')) (b'.pc+b'.len) sh (by show 0≤b'.fin;omega) hf.2
  have r6:=hf6 (BU b' (iO t b')) (b'.pc+b'.len) sh (by show 0≤b'.fin;omega) hf.2
  subst a1 a2 a3 a5 a6 eV
  have x1:=en.x1
  have y1:=en.y1
  have sl:=si.vl
  have E:BU b' (iO t b')=⟨(iO t b').evs,(iO t b').regs,b'.fin,if b'.fin=1 then []else(((iO t b').vals).getD (b'.x).toNat default),if 3≤b'.fin then(((iO t b').vals).getD (b'.y).toNat default)else [],b'.k⟩:=rfl
  rw [E]at q6 r6
  rcases(by omega:b'.fin=1∨b'.fin=2∨3≤b'.fin)with c | c | c
  ·have n2:¬3≤b'.fin:=by omega
   rw [if_pos c,if_neg n2]at q6 r6
   simp (disch:=omega) only [RR,RB,h7,hp1,hf1,decide_eq_false n2,c,ne_eq,not_true_eq_false,decide_false,hp8 _ st,hf8 _ st]
   rw [c]at q6 r6
   rw [eR,E,if_pos c,if_neg n2,c]
   exact⟨fun h=>absurd h (by omega),fun _=>⟨q6,by rw [r6]⟩⟩
  ·have n1:b'.fin≠1:=by omega
   have n2:¬3≤b'.fin:=by omega
   obtain⟨v1,v2,_⟩:=x1 n1
   rw [if_neg n1,if_neg n2]at q6 r6
   simp (disch:=omega) only [RR,RB,h7,hp1,hf1,decide_eq_true n1,decide_eq_false n2,hp8 _ st,hf8 _ st]
   rw [eR,E,if_neg n1,if_neg n2]
   exact⟨v1,by omega,v1,by omega,q6,by rw [r6]⟩
  ·have n1:b'.fin≠1:=by omega
   obtain⟨v1,v2,_⟩:=x1 n1
   obtain⟨w1,w2,_⟩:=y1 c
   rw [if_neg n1,if_pos c]at q6 r6
   simp (disch:=omega) only [RR,RB,h7,hp1,hf1,decide_eq_true n1,decide_eq_true c,hp8 _ st,hf8 _ st]
   rw [eR,E,if_neg n1,if_pos c]
   exact⟨v1,by omega,v1,by omega,w1,by omega,w1,by omega,q6,by rw [r6]⟩
 have hok:=hop i h1 h7
 have nxt:=fun {ld' afq:Int} {tb':List Atom} {V':List (List aj)} {ev':List Ev} {rg':List (List aj)}=>At.next (t:=t) (b:=b') (i:=i.toNat) (o:=((b'.ops).getD (i).toNat default)) ⟨a1,a2,a3,a4,a5,a6⟩ si.vl (by omega) rfl (ld':=ld') (afq:=afq) (tb':=tb') (V':=V') (ev':=ev') (rg':=rg')
 have ei:(i+1).toNat=i.toNat+1:=by omega
 have vx:∀j:Int,0≤j→j<i→((V).getD (j).toNat default)=(((SW t b' i.toNat).vals).getD (j).toNat default):=fun j j1 j2=>by
  have:=si.vl
  rw [a4,getD_lt (by rw [List.length_append];omega),getD_lt (by omega),List.getElem_append_left]
 have ex:hX ((b'.ops).getD (i).toNat default)→((V).getD ((((b'.ops).getD (i).toNat default)).x).toNat default)=xOf (SW t b' i.toNat) ((b'.ops).getD (i).toNat default):=fun h=>by
  unfold xOf;rw [if_pos h];exact vx _ (hok.x1 h).1 (hok.x1 h).2.1
 have ey:hY ((b'.ops).getD (i).toNat default)→((V).getD ((((b'.ops).getD (i).toNat default)).y).toNat default)=yOf (SW t b' i.toNat) ((b'.ops).getD (i).toNat default):=fun h=>by
  unfold yOf;rw [if_pos h];exact vx _ (hok.y1 h).1 (hok.y1 h).2.1
 have v0:V.set i.toNat []=V:=by
  have:=si.vl
  rw [a4,List.set_append_right _ _ (by omega),this,Nat.sub_self,show b'.ops.length-i.toNat=(b'.ops.length- (i.toNat+1))+1 by omega,List.replicate_succ,List.set_cons_zero]
 obtain⟨sn,so⟩:=Om (o:=((b'.ops).getD (i).toNat default)) si hok.k3 (by omega) (by omega)
 have gl:=si.ld
 have gi:=si.inn
 have shx:=(si.x ((b'.ops).getD (i).toNat default)).1.sh
 have shy:=(si.y ((b'.ops).getD (i).toNat default)).1.sh
 generalize hs:SW t b' i.toNat=s at*
 generalize ho:((b'.ops).getD (i).toNat default)=o at*
 have kd:=hok.kd
 subst a1 a2 a3 a5 a6
 have L0:o.kind≠4→s.ld=if o.kind=4 then s.ld+1 else s.ld:=fun h=>by rw [if_neg h]
 have I0:o.kind≠6→s.inn=if o.kind=6 then s.inn+1 else s.inn:=fun h=>by rw [if_neg h]
 have T0:o.kind≠3→o.kind≠4→o.kind≠6→s.t=nT s o:=fun h3 h4 h6=>by unfold nT;rw [if_neg h3,if_neg (by omega)]
 have R0:o.kind≠8→s.regs=nR s o:=fun h=>by unfold nR;rw [if_neg h]
 have E0:¬evO o→s.evs=nE s o:=fun h=>by unfold nE;rw [if_neg h]
 have V0:o.kind=5∨o.kind=7∨o.kind=8→V=V.set i.toNat (nV s o):=fun h=>by
  rw [show nV s o=[] by unfold nV;rw [if_neg (by omega),if_neg (by omega),if_neg (by omega),if_neg (by omega)],v0]
 have P0:∀kd k,0≤(bG s.t ⟨kd,k,[],[]⟩).2→f10 (kd,k,s.t,false,())=(gK (bG s.t ⟨kd,k,[],[]⟩).2,(bG s.t ⟨kd,k,[],[]⟩).1,false,()):=fun kd k h=>by
  rw [apm _ _ _ _ tl,if_neg (by omega)]
 have y0:¬hY o→yOf s o=[]:=fun h=>by unfold yOf;rw [if_neg h]
 have x0:¬hX o→xOf s o=[]:=fun h=>by unfold xOf;rw [if_neg h]
 rcases(by omega:o.kind=1∨o.kind=2∨o.kind=3∨o.kind=4∨o.kind=5∨o.kind=6∨o.kind=7∨o.kind=8)with c | c | c | c | c | c | c | c
 ·have dX:decide (hX o)=false:=decide_eq_false (by unfold hX;omega)
  have dY:decide (hY o)=false:=decide_eq_false (by unfold hY;omega)
  have dE:decide (evO o)=false:=decide_eq_false (by unfold evO;omega)
  have N:At t b' (i.toNat+1) s.ld s.inn s.t (V.set i.toNat (dG o.k)) s.evs s.regs:=nxt (L0 (by omega)) (I0 (by omega)) (T0 (by omega) (by omega) (by omega)) (by unfold nV;rw [if_pos c]) (E0 (by unfold evO;omega)) (R0 (by omega))
  simp (disch:=omega) only [RR,RB,ho,h7,hp4,hf4,hp3,hf3,dX,dY,dE,c,Int.reduceEq,List.length_cons,List.length_nil,hp5,hf5]
  repeat' apply And.intro
  all_goals first | omega | (rw [ei];exact N)
 ·have dX:decide (hX o)=false:=decide_eq_false (by unfold hX;omega)
  have dY:decide (hY o)=false:=decide_eq_false (by unfold hY;omega)
  have dE:decide (evO o)=false:=decide_eq_false (by unfold evO;omega)
  have k2:=hok.k2 (Or.inl c)
  have N:At t b' (i.toNat+1) s.ld s.inn s.t (V.set i.toNat ((s.regs).getD (o.k).toNat default)) s.evs s.regs:=nxt (L0 (by omega)) (I0 (by omega)) (T0 (by omega) (by omega) (by omega)) (by unfold nV;rw [if_neg (by omega),if_pos c]) (E0 (by unfold evO;omega)) (R0 (by omega))
  simp (disch:=omega) only [RR,RB,ho,h7,hp4,hf4,hp3,hf3,dX,dY,dE,c,Int.reduceEq,List.length_cons,List.length_nil,r4]
  repeat' apply And.intro
  all_goals first | omega | (rw [ei];exact N)
 ·have dX:decide (hX o)=true:=decide_eq_true (by unfold hX;omega)
  have dY:decide (hY o)=true:=decide_eq_true (by unfold hY;omega)
  have dE:decide (evO o)=false:=decide_eq_false (by unfold evO;omega)
  have v1:=hok.x1 (by unfold hX;omega)
  have v2:=hok.y1 (by unfold hY;omega)
  have u1:=v1.2.1
  have u2:=v2.2.1
  have w1:=v1.1
  have w2:=v2.1
  obtain⟨d1,d2,d3⟩:=hf9 s.t o.k _ _ tl shx shy
  have d4:=(so.d c).ok
  have N:At t b' (i.toNat+1) s.ld s.inn (tDo s.t o.k (xOf s o) (yOf s o)).1 (V.set i.toNat (tDo s.t o.k (xOf s o) (yOf s o)).2) s.evs s.regs:=nxt (L0 (by omega)) (I0 (by omega)) (by unfold nT;rw [if_pos c]) (by unfold nV;rw [if_neg (by omega),if_neg (by omega),if_pos c]) (E0 (by unfold evO;omega)) (R0 (by omega))
  simp (disch:=omega) only [RR,RB,ho,h7,hp4,hf4,hp3,hf3,dX,dY,dE,c,Int.reduceEq,List.length_cons,List.length_nil,ex (by unfold hX;omega),ey (by unfold hY;omega),hp9 s.t o.k _ _ tl shx shy,d1,d2,d3,d4]
  repeat' apply And.intro
  all_goals first | omega | (rw [ei];exact N)
 ·have dX:decide (hX o)=true:=decide_eq_true (by unfold hX;omega)
  have dY:decide (hY o)=false:=decide_eq_false (by unfold hY;omega)
  have dE:decide (evO o)=true:=decide_eq_true (by unfold evO;omega)
  have v1:=hok.x1 (by unfold hX;omega)
  have u1:=v1.2.1
  have w1:=v1.1
  have ea:aOf s o=⟨2,s.ld,[],[]⟩:=by unfold aOf;rw [if_pos c]
  have pp:=so.p (Or.inl c)
  rw [ea]at pp
  have N:At t b' (i.toNat+1) (s.ld+1) s.inn (bG s.t ⟨2,s.ld,[],[]⟩).1 (V.set i.toNat (gK (bG s.t ⟨2,s.ld,[],[]⟩).2)) (s.evs++ [⟨4,o.at_,xOf s o,[],s.regs⟩]) s.regs:=nxt (by rw [if_pos c]) (I0 (by omega)) (by unfold nT;rw [if_neg (by omega),if_pos (Or.inl c),ea]) (by unfold nV;rw [if_neg (by omega),if_neg (by omega),if_neg (by omega),if_pos (Or.inl c),ea]) (by unfold nE;rw [if_pos (by unfold evO;omega),if_pos (Or.inl c),c,y0 (by unfold hY;omega)]) (R0 (by omega))
  simp (disch:=omega) only [RR,RB,ho,h7,hp4,hf4,hp3,hf3,dX,dY,dE,c,Int.reduceEq,List.length_cons,List.length_nil,ex (by unfold hX;omega),XR s.regs (by omega) (by omega),XU s.regs (by omega) (by omega),ah4 2 s.ld s.t false tl,P0 2 s.ld pp]
  repeat' apply And.intro
  all_goals first | omega | (rw [ei];exact N)
 ·have dX:decide (hX o)=true:=decide_eq_true (by unfold hX;omega)
  have dY:decide (hY o)=true:=decide_eq_true (by unfold hY;omega)
  have dE:decide (evO o)=true:=decide_eq_true (by unfold evO;omega)
  have v1:=hok.x1 (by unfold hX;omega)
  have v2:=hok.y1 (by unfold hY;omega)
  have u1:=v1.2.1
  have u2:=v2.2.1
  have w1:=v1.1
  have w2:=v2.1
  have N:At t b' (i.toNat+1) s.ld s.inn s.t V (s.evs++ [⟨5,o.at_,xOf s o,yOf s o,s.regs⟩]) s.regs:=nxt (L0 (by omega)) (I0 (by omega)) (T0 (by omega) (by omega) (by omega)) (V0 (by omega)) (by unfold nE;rw [if_pos (by unfold evO;omega),if_pos (Or.inr c),c]) (R0 (by omega))
  simp (disch:=omega) only [RR,RB,ho,h7,hp4,hf4,hp3,hf3,dX,dY,dE,c,Int.reduceEq,List.length_cons,List.length_nil,ex (by unfold hX;omega),ey (by unfold hY;omega),XR s.regs (by omega) (by omega),XU s.regs (by omega) (by omega)]
  repeat' apply And.intro
  all_goals first | omega | (rw [ei];exact N)
 ·have dX:decide (hX o)=false:=decide_eq_false (by unfold hX;omega)
  have dY:decide (hY o)=false:=decide_eq_false (by unfold hY;omega)
  have dE:decide (evO o)=true:=decide_eq_true (by unfold evO;omega)
  have ea:aOf s o=⟨3,s.inn,[],[]⟩:=by unfold aOf;rw [if_neg (by omega)]
  have pp:=so.p (Or.inr c)
  rw [ea]at pp
  have N:At t b' (i.toNat+1) s.ld (s.inn+1) (bG s.t ⟨3,s.inn,[],[]⟩).1 (V.set i.toNat (gK (bG s.t ⟨3,s.inn,[],[]⟩).2)) (s.evs++ [⟨6,o.at_,[],[],[]⟩]) s.regs:=nxt (L0 (by omega)) (by rw [if_pos c]) (by unfold nT;rw [if_neg (by omega),if_pos (Or.inr c),ea]) (by unfold nV;rw [if_neg (by omega),if_neg (by omega),if_neg (by omega),if_pos (Or.inr c),ea]) (by unfold nE;rw [if_pos (by unfold evO;omega),if_neg (by omega),c,x0 (by unfold hX;omega),y0 (by unfold hY;omega)]) (R0 (by omega))
  simp (disch:=omega) only [RR,RB,ho,h7,hp4,hf4,hp3,hf3,dX,dY,dE,c,Int.reduceEq,List.length_cons,List.length_nil,ah4 3 s.inn s.t false tl,P0 3 s.inn pp]
  repeat' apply And.intro
  all_goals first | omega | (rw [ei];exact N)
 ·have dX:decide (hX o)=true:=decide_eq_true (by unfold hX;omega)
  have dY:decide (hY o)=false:=decide_eq_false (by unfold hY;omega)
  have dE:decide (evO o)=true:=decide_eq_true (by unfold evO;omega)
  have v1:=hok.x1 (by unfold hX;omega)
  have u1:=v1.2.1
  have w1:=v1.1
  have N:At t b' (i.toNat+1) s.ld s.inn s.t V (s.evs++ [⟨7,o.at_,xOf s o,[],[]⟩]) s.regs:=nxt (L0 (by omega)) (I0 (by omega)) (T0 (by omega) (by omega) (by omega)) (V0 (by omega)) (by unfold nE;rw [if_pos (by unfold evO;omega),if_neg (by omega),c,y0 (by unfold hY;omega)]) (R0 (by omega))
  simp (disch:=omega) only [RR,RB,ho,h7,hp4,hf4,hp3,hf3,dX,dY,dE,c,Int.reduceEq,List.length_cons,List.length_nil,ex (by unfold hX;omega)]
  repeat' apply And.intro
  all_goals first | omega | (rw [ei];exact N)
 ·have dX:decide (hX o)=true:=decide_eq_true (by unfold hX;omega)
  have dY:decide (hY o)=false:=decide_eq_false (by unfold hY;omega)
  have dE:decide (evO o)=false:=decide_eq_false (by unfold evO;omega)
  have v1:=hok.x1 (by unfold hX;omega)
  have u1:=v1.2.1
  have w1:=v1.1
  have k2:=hok.k2 (Or.inr c)
  have N:At t b' (i.toNat+1) s.ld s.inn s.t V s.evs (s.regs.set o.k.toNat (xOf s o)):=nxt (L0 (by omega)) (I0 (by omega)) (T0 (by omega) (by omega) (by omega)) (V0 (by omega)) (E0 (by unfold evO;omega)) (by unfold nR;rw [if_pos c])
  simp (disch:=omega) only [RR,RB,ho,h7,hp4,hf4,hp3,hf3,dX,dY,dE,c,Int.reduceEq,List.length_cons,List.length_nil,ex (by unfold hX;omega),r4]
  repeat' apply And.intro
  all_goals first | omega | (rw [ei];exact N)
end Go.TX.F
namespace Go.TX.F
open Go Go.AE Go.TX
theorem apn (i:Ins):WY (std 0).al (i,()) (fun _=>True):=by
 dsimp only [WY,Tup.q,Tup.o]
 simp (disch:=omega) only [RR]
theorem apo {p1:Int×Int×Int×Unit→Bool} {f1:Int×Int×Int×Unit→Bool×Unit} (hp1:∀a b c,p1 (a,b,c,())=true) (hf1:∀a b c,f1 (a,b,c,())=(inB a b c,())) {p2:Ins×Unit→Bool} {f2:Ins×Unit→Bool×Unit} (hp2:∀i,p2 (i,())=true) (i:Ins):WZ (std 0).al p1 f1 p2 f2 (i,()) (fun _=>True):=by
 dsimp only [WZ,Tup.q,Tup.o]
 simp (disch:=omega) only [RR,hp1,hp2]
theorem apq (i:Int):W9 (std 0).al (i,()) (fun _=>True):=by
 dsimp only [W9,Tup.q,Tup.o]
theorem apr {p1:Int×Unit→Bool} {f1:Int×Unit→Bool×Unit} (hp1:∀i,p1 (i,())=true) {p2:Ins×Unit→Bool} {f2:Ins×Unit→Bool×Unit} (hp2:∀i,p2 (i,())=true) (i:Ins):Xa (std 0).al p1 f1 p2 f2 (i,()) (fun _=>True):=by
 dsimp only [Xa,Tup.q,Tup.o]
 simp (disch:=omega) only [RR,hp1,hp2]
theorem aps {p1:Int×Unit→Bool} {f1:Int×Unit→Bool×Unit} (hp1:∀i,p1 (i,())=true) {p2:Ins×Unit→Bool} {f2:Ins×Unit→Bool×Unit} (hp2:∀i,p2 (i,())=true) {p3:Int×Int×Int×Unit→Bool} {f3:Int×Int×Int×Unit→Bool×Unit} (hp3:∀a b c,p3 (a,b,c,())=true) (hf3:∀a b c,f3 (a,b,c,())=(inB a b c,())) {p4:Ins×Unit→Bool} {f4:Ins×Unit→Bool×Unit} (hp4:∀i,p4 (i,())=true) (pc:Int) (l:List Ins) (hl:(l.length:Int)<1000):Xj (std 0).al p1 f1 p2 f2 p3 f3 p4 f4 (pc,l,()) (fun _=>True):=by
 dsimp only [Xj,Tup.q,Tup.o]
 simp (disch:=omega) only [RR,hp1,hp2,hp3,hp4]
 refine fun _=> ?_
 refine ak (fun(y:List Ins×Int×Unit)=>y.1=l∧0≤y.2.1) (fun y=>((l.length:Int)-y.2.1).toNat) ⟨rfl,by simp⟩ ?_
 rintro⟨(l':List Ins),(j:Int),⟨⟩⟩ hI
 dsimp only at hI ⊢
 obtain⟨rfl,h1⟩:=hI
 simp (disch:=omega) only [RR,hp1,hp2,hp3,hp4,or_true]
 refine fun h=>⟨h1,h,by omega,by omega,by omega,by omega,fun _=> ?_⟩
 rw [w64 (by omega) (by omega)];constructor<;>omega
theorem afr (a1 a2 a3 a4 a5 a6:Int) (o:IOp) (ops:List IOp) (hl:(ops.length:Int)<1000000):Xk (std 0).al (a1,a2,a3,a4,a5,a6,o,ops,()) (fun y=>(y.2.2.2.2.2.2.2.1.length:Int)=ops.length+1):=by
 dsimp only [Xk,Tup.q,Tup.o]
 simp (disch:=omega) only [RR,List.length_append,List.length_cons,List.length_nil]
 omega
theorem afs {p1:Int×Int×Int×Int×Int×Int×IOp×List IOp×Unit→Bool} {f1:Int×Int×Int×Int×Int×Int×IOp×List IOp×Unit→Int×Int×Int×Int×Int×Int×Int×List IOp×Unit} (hp1:∀a1 a2 a3 a4 a5 a6 o ops,(ops.length:Int)<1000000→p1 (a1,a2,a3,a4,a5,a6,o,ops,())=true) (hf1:∀a1 a2 a3 a4 a5 a6 o ops,(ops.length:Int)<1000000→((f1 (a1,a2,a3,a4,a5,a6,o,ops,())).2.2.2.2.2.2.2.1.length:Int)=ops.length+1) (a1 a2 a3 a4 a5 a6:Int) (k:Int) (ops:List IOp) (hl:(ops.length:Int)<1000000):Xm (std 0).al p1 f1 (a1,a2,a3,a4,a5,a6,k,ops,()) (fun y=>(y.2.2.2.2.2.2.2.1.length:Int)=ops.length+1):=by
 dsimp only [Xm,Tup.q,Tup.o]
 simp (disch:=omega) only [RR,hp1,hf1]
theorem aft {p1:Int×Int×Int×Int×Int×Int×IOp×List IOp×Unit→Bool} {f1:Int×Int×Int×Int×Int×Int×IOp×List IOp×Unit→Int×Int×Int×Int×Int×Int×Int×List IOp×Unit} (hp1:∀a1 a2 a3 a4 a5 a6 o ops,(ops.length:Int)<1000000→p1 (a1,a2,a3,a4,a5,a6,o,ops,())=true) (hf1:∀a1 a2 a3 a4 a5 a6 o ops,(ops.length:Int)<1000000→((f1 (a1,a2,a3,a4,a5,a6,o,ops,())).2.2.2.2.2.2.2.1.length:Int)=ops.length+1) (a1 a2 a3 a4 a5 a6:Int) (k x:Int) (ops:List IOp) (hl:(ops.length:Int)<1000000):Xl (std 0).al p1 f1 (a1,a2,a3,a4,a5,a6,k,x,ops,()) (fun y=>(y.2.2.2.2.2.2.1.length:Int)=ops.length+1):=by
 dsimp only [Xl,Tup.q,Tup.o]
 simp (disch:=omega) only [RR,hp1,hf1]
theorem apt {p1:Int×Int×Int×Int×Int×Int×Int×List IOp×Unit→Bool} {f1:Int×Int×Int×Int×Int×Int×Int×List IOp×Unit→Int×Int×Int×Int×Int×Int×Int×List IOp×Unit} (hp1:∀a1 a2 a3 a4 a5 a6 k ops,(ops.length:Int)<1000000→p1 (a1,a2,a3,a4,a5,a6,k,ops,())=true) (hf1:∀a1 a2 a3 a4 a5 a6 k ops,(ops.length:Int)<1000000→((f1 (a1,a2,a3,a4,a5,a6,k,ops,())).2.2.2.2.2.2.2.1.length:Int)=ops.length+1) {p2:Int×Int×Int×Int×Int×Int×IOp×List IOp×Unit→Bool} {f2:Int×Int×Int×Int×Int×Int×IOp×List IOp×Unit→Int×Int×Int×Int×Int×Int×Int×List IOp×Unit} (hp2:∀a1 a2 a3 a4 a5 a6 o ops,(ops.length:Int)<1000000→p2 (a1,a2,a3,a4,a5,a6,o,ops,())=true) (hf2:∀a1 a2 a3 a4 a5 a6 o ops,(ops.length:Int)<1000000→((f2 (a1,a2,a3,a4,a5,a6,o,ops,())).2.2.2.2.2.2.2.1.length:Int)=ops.length+1) (a1 a2 a3 a4 a5 a6:Int) (k a:Int) (o:IOp) (ops:List IOp) (hl:(ops.length:Int)<999000):Xo (std 0).al p1 f1 p2 f2 (a1,a2,a3,a4,a5,a6,k,a,o,ops,()) (fun y=>(y.2.2.2.2.2.2.2.1.length:Int)=ops.length+3):=by
 dsimp only [Xo,Tup.q,Tup.o]
 simp (disch:=(first | omega | (simp (disch:=(first | omega | (simp (disch:=(first | omega | (simp (disch:=omega) only [hf1,hf2];omega))) only [hf1,hf2];omega))) only [hf1,hf2];omega))) only [RR,hp1,hp2,hf1,hf2]
 omega
theorem apu {p1:Int×Int×Int×Int×Int×Int×Int×List IOp×Unit→Bool} {f1:Int×Int×Int×Int×Int×Int×Int×List IOp×Unit→Int×Int×Int×Int×Int×Int×Int×List IOp×Unit} (hp1:∀a1 a2 a3 a4 a5 a6 k ops,(ops.length:Int)<1000000→p1 (a1,a2,a3,a4,a5,a6,k,ops,())=true) (hf1:∀a1 a2 a3 a4 a5 a6 k ops,(ops.length:Int)<1000000→((f1 (a1,a2,a3,a4,a5,a6,k,ops,())).2.2.2.2.2.2.2.1.length:Int)=ops.length+1) {p2:Int×Int×Int×Int×Int×Int×IOp×List IOp×Unit→Bool} {f2:Int×Int×Int×Int×Int×Int×IOp×List IOp×Unit→Int×Int×Int×Int×Int×Int×Int×List IOp×Unit} (hp2:∀a1 a2 a3 a4 a5 a6 o ops,(ops.length:Int)<1000000→p2 (a1,a2,a3,a4,a5,a6,o,ops,())=true) (hf2:∀a1 a2 a3 a4 a5 a6 o ops,(ops.length:Int)<1000000→((f2 (a1,a2,a3,a4,a5,a6,o,ops,())).2.2.2.2.2.2.2.1.length:Int)=ops.length+1) {p3:Int×Int×Int×Int×Int×Int×Int×Int×IOp×List IOp×Unit→Bool} {f3:Int×Int×Int×Int×Int×Int×Int×Int×IOp×List IOp×Unit→Int×Int×Int×Int×Int×Int×Int×List IOp×Unit} (hp3:∀a1 a2 a3 a4 a5 a6 k a o ops,(ops.length:Int)<999000→p3 (a1,a2,a3,a4,a5,a6,k,a,o,ops,())=true) (hf3:∀a1 a2 a3 a4 a5 a6 k a o ops,(ops.length:Int)<999000→((f3 (a1,a2,a3,a4,a5,a6,k,a,o,ops,())).2.2.2.2.2.2.2.1.length:Int)=ops.length+3) {p4:Int×Int×Int×Int×Int×Int×Int×Int×List IOp×Unit→Bool} {f4:Int×Int×Int×Int×Int×Int×Int×Int×List IOp×Unit→Int×Int×Int×Int×Int×Int×List IOp×Unit} (hp4:∀a1 a2 a3 a4 a5 a6 k x ops,(ops.length:Int)<1000000→p4 (a1,a2,a3,a4,a5,a6,k,x,ops,())=true) (hf4:∀a1 a2 a3 a4 a5 a6 k x ops,(ops.length:Int)<1000000→((f4 (a1,a2,a3,a4,a5,a6,k,x,ops,())).2.2.2.2.2.2.1.length:Int)=ops.length+1) (a1 a2 a3 a4 a5 a6:Int) (i:Ins) (k:Int) (ops:List IOp) (hl:(ops.length:Int)<998000):Xq (std 0).al p1 f1 p2 f2 p3 f3 p4 f4 (a1,a2,a3,a4,a5,a6,i,k,ops,()) (fun y=>(y.2.2.2.2.2.2.1.length:Int)=ops.length+5):=by
 dsimp only [Xq,Tup.q,Tup.o]
 simp (disch:=(first | omega | (simp (disch:=(first | omega | (simp (disch:=(first | omega | (simp (disch:=omega) only [hf1,hf2,hf3,hf4];omega))) only [hf1,hf2,hf3,hf4];omega))) only [hf1,hf2,hf3,hf4];omega))) only [RR,hp1,hp2,hp3,hp4,hf1,hf2,hf3,hf4]
 constructor<;>intro _<;>omega
theorem afu {p1:Int×Int×Int×Int×Int×Int×Int×List IOp×Unit→Bool} {f1:Int×Int×Int×Int×Int×Int×Int×List IOp×Unit→Int×Int×Int×Int×Int×Int×Int×List IOp×Unit} (hp1:∀a1 a2 a3 a4 a5 a6 k ops,(ops.length:Int)<1000000→p1 (a1,a2,a3,a4,a5,a6,k,ops,())=true) (hf1:∀a1 a2 a3 a4 a5 a6 k ops,(ops.length:Int)<1000000→((f1 (a1,a2,a3,a4,a5,a6,k,ops,())).2.2.2.2.2.2.2.1.length:Int)=ops.length+1) (a1 a2 a3 a4 a5 a6:Int) (i:Ins) (ops:List IOp) (hl:(ops.length:Int)<999000):Xr (std 0).al p1 f1 (a1,a2,a3,a4,a5,a6,i,ops,()) (fun y=>(y.2.2.2.2.2.2.1.length:Int)≤ops.length+5):=by
 dsimp only [Xr,Tup.q,Tup.o]
 simp (disch:=(first | omega | (simp (disch:=(first | omega | (simp (disch:=(first | omega | (simp (disch:=omega) only [hf1];omega))) only [hf1];omega))) only [hf1];omega))) only [RR,hp1,hf1]
 refine⟨fun _=>by omega,fun _=>⟨fun _=>by omega,fun _=>by omega⟩⟩
theorem apv (k:Int) (hk:k<1000):Xp (std 0).al (k,()) (fun _=>True):=by
 dsimp only [Xp,Tup.q,Tup.o]
 simp (disch:=omega) only [RR]
 refine ak (fun(y:Int×Int×Int×Unit)=>y.1=k∧0≤y.2.2.1) (fun y=>(k-y.2.2.1).toNat) ⟨rfl,by simp⟩ ?_
 rintro⟨(k':Int),(z:Int),(j:Int),⟨⟩⟩ hI
 dsimp only at hI ⊢
 obtain⟨rfl,h1⟩:=hI
 simp (disch:=omega) only [RR]
 refine fun h=> ?_
 rw [w64 (by omega) (by omega)];constructor<;>omega
theorem apw {p1:Int×Int×Int×Int×Int×Int×Int×List IOp×Unit→Bool} {f1:Int×Int×Int×Int×Int×Int×Int×List IOp×Unit→Int×Int×Int×Int×Int×Int×Int×List IOp×Unit} (hp1:∀a1 a2 a3 a4 a5 a6 k ops,(ops.length:Int)<1000000→p1 (a1,a2,a3,a4,a5,a6,k,ops,())=true) (hf1:∀a1 a2 a3 a4 a5 a6 k ops,(ops.length:Int)<1000000→((f1 (a1,a2,a3,a4,a5,a6,k,ops,())).2.2.2.2.2.2.2.1.length:Int)=ops.length+1) {p2:Int×Int×Int×Int×Int×Int×Ins×List IOp×Unit→Bool} {f2:Int×Int×Int×Int×Int×Int×Ins×List IOp×Unit→Int×Int×Int×Int×Int×Int×List IOp×Unit} (hp2:∀a1 a2 a3 a4 a5 a6 i ops,(ops.length:Int)<999000→p2 (a1,a2,a3,a4,a5,a6,i,ops,())=true) (hf2:∀a1 a2 a3 a4 a5 a6 i ops,(ops.length:Int)<999000→((f2 (a1,a2,a3,a4,a5,a6,i,ops,())).2.2.2.2.2.2.1.length:Int)≤ops.length+5) {p3:Int×Int×Int×Int×Int×Int×IOp×List IOp×Unit→Bool} {f3:Int×Int×Int×Int×Int×Int×IOp×List IOp×Unit→Int×Int×Int×Int×Int×Int×Int×List IOp×Unit} (hp3:∀a1 a2 a3 a4 a5 a6 o ops,(ops.length:Int)<1000000→p3 (a1,a2,a3,a4,a5,a6,o,ops,())=true) (hf3:∀a1 a2 a3 a4 a5 a6 o ops,(ops.length:Int)<1000000→((f3 (a1,a2,a3,a4,a5,a6,o,ops,())).2.2.2.2.2.2.2.1.length:Int)=ops.length+1) {p4:Int×Int×Int×Int×Int×Int×Ins×Int×List IOp×Unit→Bool} {f4:Int×Int×Int×Int×Int×Int×Ins×Int×List IOp×Unit→Int×Int×Int×Int×Int×Int×List IOp×Unit} (hp4:∀a1 a2 a3 a4 a5 a6 i k ops,(ops.length:Int)<998000→p4 (a1,a2,a3,a4,a5,a6,i,k,ops,())=true) (hf4:∀a1 a2 a3 a4 a5 a6 i k ops,(ops.length:Int)<998000→((f4 (a1,a2,a3,a4,a5,a6,i,k,ops,())).2.2.2.2.2.2.1.length:Int)=ops.length+5) {p5:Int×Int×Int×Int×Int×Int×Int×Int×IOp×List IOp×Unit→Bool} {f5:Int×Int×Int×Int×Int×Int×Int×Int×IOp×List IOp×Unit→Int×Int×Int×Int×Int×Int×Int×List IOp×Unit} (hp5:∀a1 a2 a3 a4 a5 a6 k a o ops,(ops.length:Int)<999000→p5 (a1,a2,a3,a4,a5,a6,k,a,o,ops,())=true) (hf5:∀a1 a2 a3 a4 a5 a6 k a o ops,(ops.length:Int)<999000→((f5 (a1,a2,a3,a4,a5,a6,k,a,o,ops,())).2.2.2.2.2.2.2.1.length:Int)=ops.length+3) {p6:Int×Int×Int×Int×Int×Int×Int×Int×List IOp×Unit→Bool} {f6:Int×Int×Int×Int×Int×Int×Int×Int×List IOp×Unit→Int×Int×Int×Int×Int×Int×List IOp×Unit} (hp6:∀a1 a2 a3 a4 a5 a6 k x ops,(ops.length:Int)<1000000→p6 (a1,a2,a3,a4,a5,a6,k,x,ops,())=true) (hf6:∀a1 a2 a3 a4 a5 a6 k x ops,(ops.length:Int)<1000000→((f6 (a1,a2,a3,a4,a5,a6,k,x,ops,())).2.2.2.2.2.2.1.length:Int)=ops.length+1) {p7:Int×Unit→Bool} {f7:Int×Unit→Int×Unit} (hp7:∀k,k<1000→p7 (k,())=true) (a1 a2 a3 a4 a5 a6:Int) (i:Ins) (k:Int) (ops:List IOp) (hk:i.k<1000) (hl:(ops.length:Int)<997000):Xt (std 0).al p1 f1 p2 f2 p3 f3 p4 f4 p5 f5 p6 f6 p7 f7 (a1,a2,a3,a4,a5,a6,i,k,ops,()) (fun y=>(y.2.2.2.2.2.2.1.length:Int)≤ops.length+5):=by
 have e4:=fun i k=>hf4 a1 a2 a3 a4 a5 a6 i k ops (by omega)
 have e2:=fun i=>hf2 a1 a2 a3 a4 a5 a6 i ops (by omega)
 dsimp only [Xt,Tup.q,Tup.o]
 simp (disch:=(first | omega | (simp (disch:=(first | omega | (simp (disch:=(first | omega | (simp (disch:=omega) only [hf1,hf3,hf5,RB];omega))) only [hf1,hf3,hf5,RB];omega))) only [hf1,hf3,hf5,RB];omega))) only [RR,RB,hp1,hp2,hp3,hp4,hp5,hp6,hp7,hf1,hf3,hf4,hf5,hf6]
 have:=e2 i
 repeat' (first | (refine⟨?_,?_⟩) | intro _)
 all_goals omega
def KB (l:List Ins):Prop:=∀i∈l,i.k<1000
theorem KB.at {l:List Ins} (h:KB l) (n:Nat):(l.getD n default).k<1000:=by
 by_cases h1:n<l.length
 ·rw [getD_lt h1];exact h _ (List.getElem_mem _)
 ·simp only [List.getD,List.getElem?_eq_none (by omega:l.length≤n)];decide
theorem apx {p1:Int×List Ins×Unit→Bool} {f1:Int×List Ins×Unit→Bool×Unit} (hp1:∀pc l,(l.length:Int)<1000→p1 (pc,l,())=true) {p2:Int×Int×Int×Int×Int×Int×Ins×Int×List IOp×Unit→Bool} {f2:Int×Int×Int×Int×Int×Int×Ins×Int×List IOp×Unit→Int×Int×Int×Int×Int×Int×List IOp×Unit} (hp2:∀a1 a2 a3 a4 a5 a6 i k ops,i.k<1000→(ops.length:Int)<997000→p2 (a1,a2,a3,a4,a5,a6,i,k,ops,())=true) (hf2:∀a1 a2 a3 a4 a5 a6 i k ops,i.k<1000→(ops.length:Int)<997000→((f2 (a1,a2,a3,a4,a5,a6,i,k,ops,())).2.2.2.2.2.2.1.length:Int)≤ops.length+5) (pc:Int) (l:List Ins) (hl:(l.length:Int)<1000) (hk:KB l):Xu (std 0).al p1 f1 p2 f2 (pc,l,()) (fun y=>(y.2.2.2.2.2.2.1.length:Int)≤5000):=by
 dsimp only [Xu,Tup.q,Tup.o]
 simp (disch:=omega) only [RR,hp1,List.length_nil]
 refine⟨fun _=>by omega,fun _=> ?_⟩
 refine ak (fun(y:List Ins×Int×Int×Int×Int×Int×Int×Int×Int×Int×Int×Int×Int×Int×List IOp×Unit)=>y.1=l∧0≤y.2.1∧y.2.1≤l.length∧(y.2.2.2.2.2.2.2.2.2.2.2.2.2.2.1.length:Int)≤5*y.2.1) (fun y=>((l.length:Int)-y.2.1).toNat) ⟨rfl,by simp,by simp,by simp⟩ ?_
 rintro⟨(l':List Ins),(j:Int),u1,u2,u3,u4,u5,u6,b1,b2,b3,b4,b5,b6,(ops:List IOp),⟨⟩⟩ hI
 dsimp only at hI ⊢
 obtain⟨rfl,h1,h2,h3⟩:=hI
 have hk':=hk.at j.toNat
 simp (disch:=omega) only [RR,hp2]
 refine⟨fun h=> ?_,fun h=>by omega⟩
 have:=hf2 b1 b2 b3 b4 b5 b6 ((l').getD (j).toNat default) j ops hk' (by omega)
 exact⟨h1,h,⟨by omega,by omega,by omega⟩,by omega⟩
end Go.TX.F
namespace Go.TX.F
open Go Go.AE Go.TX
structure InD (m:Int) (b:List Int) (p:Int) (y:Int×Int×Int×Int×List Int×Int×Unit):Prop where
 b:y.2.2.2.2.1=b
 lo:p≤y.2.2.2.2.2.1
 hi:y.2.2.2.2.2.1≤p+m
 k:0≤y.2.2.2.1∧y.2.2.2.1≤255
@[reducible] def apy : List Int → Prop
 | []=>True
 | x::l=>(0≤x∧x≤255)∧apy l
theorem Tt:∀(l:List Int) (n:Nat),apy l→0≤l.getD n default∧l.getD n default≤255
 | [],n,_=>by simp only [List.getD_nil];decide
 | x::l,0,h=>h.1
 | x::l,n+1,h=>Tt l n h.2
theorem pkR {f1:Int×List Int×Int×Unit→Int×List Int×Int×Unit} {b:List Int} (hb:Bt b) (hf1:∀n b p,Bt b→0≤p→p<1000000000→Pk n b p (f1 (n,b,p,()))):
  (∀n p,0≤p→p<1000000000→(f1 (n,b,p,())).2.1=b)∧(∀n p,0≤p→p<1000000000→(f1 (n,b,p,())).2.2.1=p+1)∧
  (∀n p,0≤p→p<1000000000→(0≤(f1 (n,b,p,())).1)=True)∧(∀n p k,0≤p→p<1000000000→n≤k→0<k→((f1 (n,b,p,())).1<k)=True)∧
  (∀n p k,0≤p→p<1000000000→n≤k+1→0≤k→((f1 (n,b,p,())).1≤k)=True):=
 ⟨fun n p h1 h2=>(hf1 n b p hb h1 h2).1,fun n p h1 h2=>(hf1 n b p hb h1 h2).2.1,fun n p h1 h2=>eq_true (hf1 n b p hb h1 h2).2.2.1,
  fun n p k h1 h2 h3 h4=>eq_true (by have:=(hf1 n b p hb h1 h2).2.2;omega),fun n p k h1 h2 h3 h4=>eq_true (by have:=(hf1 n b p hb h1 h2).2.2;omega)⟩
theorem apz {p1:Int×List Int×Int×Unit→Bool} {f1:Int×List Int×Int×Unit→Int×List Int×Int×Unit} (hp1:∀n b p,Bt b→0≤p→p<1000000000→p1 (n,b,p,())=true) (hf1:∀n b p,Bt b→0≤p→p<1000000000→Pk n b p (f1 (n,b,p,()))) (b:List Int) (p:Int) (hb:Bt b) (h1:0≤p) (h2:p<900000000):WX (std 0).al p1 f1 (b,p,()) (fun y=>InD 20 b p y):=by
 have R:=pkR hb hf1
 have P:=fun n p h1 h2=>hp1 n b p hb h1 h2
 dsimp only [WX,Tup.q,Tup.o]
 simp (disch:=omega) only [RR,R,P,List.length_cons,List.length_nil]
 repeat' (first | (refine⟨?_,?_⟩) | intro _)
 all_goals try omega
 all_goals refine⟨rfl,by dsimp only;omega,by dsimp only;omega,?_⟩
 all_goals dsimp only
 all_goals first | omega | (refine Tt _ _ ?_;simp (disch:=omega) only [apy,R,Int.reduceLE,and_self,true_and,and_true]) | (simp (disch:=omega) only [R,Int.reduceLE,and_self,true_and,and_true])
theorem apA {p1:List Int×Int×Unit→Bool} {f1:List Int×Int×Unit→Int×Int×Int×Int×List Int×Int×Unit} (hp1:∀b p,Bt b→0≤p→p<900000000→p1 (b,p,())=true) (hf1:∀b p,Bt b→0≤p→p<900000000→InD 20 b p (f1 (b,p,()))) {p2:Int×List Int×Int×Unit→Bool} {f2:Int×List Int×Int×Unit→Int×List Int×Int×Unit} (hp2:∀n b p,Bt b→0≤p→p<1000000000→p2 (n,b,p,())=true) (hf2:∀n b p,Bt b→0≤p→p<1000000000→Pk n b p (f2 (n,b,p,()))) {p3:Ins×Unit→Bool} {f3:Ins×Unit→Bool×Unit} (hp3:∀i,p3 (i,())=true) (b:List Int) (p:Int) (hb:Bt b) (h1:0≤p) (h2:p<800000000):Xf (std 0).al p1 f1 p2 f2 p3 f3 (b,p,()) (fun y=>InD 30 b p y):=by
 obtain⟨a1,a2,a3,a4⟩:=hf1 b p hb h1 (by omega)
 have R:=pkR hb hf2
 have P:=fun n p h1 h2=>hp2 n b p hb h1 h2
 dsimp only [Xf,Tup.q,Tup.o]
 simp (disch:=omega) only [RR,hp1 b p hb h1 (by omega),hp3,a1,R,P]
 refine⟨fun _=>⟨rfl,by dsimp only;omega,by dsimp only;omega,?_⟩,fun _=>⟨rfl,a2,by dsimp only;omega,a4⟩⟩
 dsimp only
 simp (disch:=omega) only [R,Int.reduceLE,and_self]
structure LiD (b:List Int) (p:Int) (y:List Int×Int×List Ins×Unit):Prop where
 b:y.1=b
 lo:p≤y.2.1
 hi:y.2.1≤p+1000
 len:(y.2.2.1.length:Int)≤20
 k:KB y.2.2.1
theorem KB.app {l:List Ins} {i:Ins} (h:KB l) (h2:i.k≤255):KB (l++ [i]):=fun x hx=>by
 rw [List.mem_append,List.mem_singleton]at hx
 rcases hx with hx | rfl
 ·exact h x hx
 ·omega
theorem apB {p1:List Int×Int×Unit→Bool} {f1:List Int×Int×Unit→Int×Int×Int×Int×List Int×Int×Unit} (hp1:∀b p,Bt b→0≤p→p<800000000→p1 (b,p,())=true) (hf1:∀b p,Bt b→0≤p→p<800000000→InD 30 b p (f1 (b,p,()))) {p2:Int×List Int×Int×Unit→Bool} {f2:Int×List Int×Int×Unit→Int×List Int×Int×Unit} (hp2:∀n b p,Bt b→0≤p→p<1000000000→p2 (n,b,p,())=true) (hf2:∀n b p,Bt b→0≤p→p<1000000000→Pk n b p (f2 (n,b,p,()))) (b:List Int) (p:Int) (hb:Bt b) (h1:0≤p) (h2:p<700000000):Xi (std 0).al p1 f1 p2 f2 (b,p,()) (fun y=>LiD b p y):=by
 obtain⟨e1,e2,e3,e4⟩:=hf2 8 b p hb h1 (by omega)
 dsimp only [Xi,Tup.q,Tup.o]
 simp (disch:=omega) only [RR,hp2 8 b p hb h1 (by omega),e1,e2]
 refine ak (fun(y:Int×List Int×Int×List Ins×Unit)=>0≤y.1∧y.1≤8∧y.2.1=b∧p≤y.2.2.1∧y.2.2.1+40*y.1≤p+400∧(y.2.2.2.1.length:Int)+y.1≤8∧KB y.2.2.2.1) (fun y=>y.1.toNat)
  ⟨e3,by dsimp only;omega,rfl,by dsimp only;omega,by dsimp only;omega,by dsimp only [List.length_nil];omega,fun x hx=>by cases hx⟩ ?_
 rintro⟨(k:Int),(b':List Int),(q:Int),(l:List Ins),⟨⟩⟩ hI
 dsimp only at hI ⊢
 obtain⟨k1,k2,rfl,k3,k4,k5,k6⟩:=hI
 have R:=pkR hb hf2
 have P:=fun n p h1 h2=>hp2 n b' p hb h1 h2
 obtain⟨a1,a2,a3,a4⟩:=hf1 b' q hb (by omega) (by omega)
 obtain⟨b1,b2,b3,b4⟩:=hf1 b' (q+1) hb (by omega) (by omega)
 simp (disch:=omega) only [RR,RB,hp1 b' q hb (by omega) (by omega),hp1 b' (q+1) hb (by omega) (by omega),a1,b1,R,P,List.length_cons,List.length_nil,List.length_append]
 refine⟨fun c=>⟨by omega,⟨by omega,by omega,by omega,by omega,by omega,k6.app a4.2⟩,by omega⟩,fun c=>⟨fun _=>⟨by omega,rfl,by dsimp only;omega,by dsimp only;omega,?_,?_⟩,fun _=>⟨fun _=>⟨by omega,rfl,by dsimp only;omega,by dsimp only;omega,?_,?_⟩,fun _=>⟨by omega,rfl,by dsimp only;omega,by dsimp only;omega,?_,?_⟩⟩⟩⟩
 ·dsimp only;rw [List.length_append];simp only [List.length_cons,List.length_nil];omega
 ·refine k6.app ?_
  dsimp only
  simp (disch:=omega) only [R]
 ·dsimp only;rw [List.length_append];simp only [List.length_cons,List.length_nil];omega
 ·exact k6.app (by dsimp only;omega)
 ·dsimp only;rw [List.length_append];simp only [List.length_cons,List.length_nil];omega
 ·exact k6.app b4.2
end Go.TX.F
namespace Go.TX.F
open Go Go.AE Go.TX
theorem afv (b:Blk) (hb:b.ops.length<1000000):Wy (std 0).al (b,()) (fun y=>y=(b.pc,b.len,b.fin,b.x,b.y,b.k,b.ops,())):=by
 dsimp only [Wy,Tup.q,Tup.o]
 simp (disch:=omega) only [RR,RB,List.nil_append,List.length_nil]
 omega
def kn (ops:List IOp) (k:Int):Int×Bool:=if 0≤k∧k<ops.length∧(((ops).getD (k).toNat default)).kind=1 then((((ops).getD (k).toNat default)).k,true)else(0,false)
@[reducible] def bk7 (b : Blk) : Int × Int × Int × Int × Int × Int × List IOp × Unit := (b.pc, b.len, b.fin, b.x, b.y, b.k, b.ops, ())
structure FE (b:Blk):Prop where
 f:1≤b.fin∧b.fin≤4
 x:b.fin≠1→0≤b.x∧b.x<b.ops.length
 y:3≤b.fin→0≤b.y∧b.y<b.ops.length
 y0:b.fin≤2→b.y=0
 p:0≤b.pc∧b.pc≤100∧0≤b.len∧b.len≤100
theorem afw (ops:List IOp) (k:Int):WO (std 0).al (ops,k,()) (fun y=>y=((kn ops k).1,(kn ops k).2,())):=by
 dsimp only [WO,Tup.q,Tup.o]
 simp (disch:=omega) only [RR,RB]
 unfold kn
 refine⟨by omega,by omega,fun h=> ?_,fun h=>⟨by omega,by omega,?_⟩⟩
 ·rw [if_neg (by omega)]
 ·rw [if_pos (by omega)]
theorem afx (b:Blk) (k:Int):WQ (std 0).al (b,k,()) (fun y=>y=(b.pc,b.len,b.ops,1,0,0,k,())):=by
 dsimp only [WQ,Tup.q,Tup.o]
 simp (disch:=omega) only [RR,RB]
theorem apC {p1:Blk×Int×Unit→Bool} {f1:Blk×Int×Unit→Int×Int×List IOp×Int×Int×Int×Int×Unit} (hp1:∀b k,p1 (b,k,())=true) (hf1:∀b k,f1 (b,k,())=(b.pc,b.len,b.ops,1,0,0,k,())) {p2:List IOp×Int×Unit→Bool} {f2:List IOp×Int×Unit→Int×Bool×Unit} (hp2:∀ops k,p2 (ops,k,())=true) (hf2:∀ops k,f2 (ops,k,())=((kn ops k).1,(kn ops k).2,())) (b:Blk) (h:FE b):WR (std 0).al p1 f1 p2 f2 (b,()) (fun y=>y=(fcB b b.ops,())):=by
 have hp:=h.p
 have hf:=h.f
 have k1:b.fin≠1→kn b.ops b.x=if(((b.ops).getD (b.x).toNat default)).kind=1 then((((b.ops).getD (b.x).toNat default)).k,true)else(0,false):=fun c=>by
  have:=h.x c
  unfold kn;simp only [this,true_and]
 have k2:3≤b.fin→kn b.ops b.y=if(((b.ops).getD (b.y).toNat default)).kind=1 then((((b.ops).getD (b.y).toNat default)).k,true)else(0,false):=fun c=>by
  have:=h.y c
  unfold kn;simp only [this,true_and]
 have y0:=h.y0
 have mkE:∀p l o f x y k,Co.mk .blk (p,l,o,f,x,y,k,())=Blk.mk p l o f x y k:=fun _ _ _ _ _ _ _=>rfl
 dsimp only [WR,Tup.q,Tup.o]
 simp (disch:=omega) only [RR,RB,hp1,hf1,hp2,hf2,mkE,Bool.and_eq_false_iff]
 by_cases c1:b.fin=1
 ·have e:fcB b b.ops=b:=by unfold fcB;rw [if_neg (by omega),if_neg (by omega)]
  rw [e]
  refine⟨fun h=>absurd h.1 (by omega),fun _=>⟨fun h=>absurd h.1.1.1 (by omega),fun _=>⟨fun h=>absurd h.1.1.1 (by omega),fun _=>⟨fun h=>absurd h.1.1 (by omega),fun _=>rfl⟩⟩⟩⟩
 ·rw [k1 c1]
  by_cases c2:b.fin=2
  ·by_cases d:(((b.ops).getD (b.x).toNat default)).kind=1
   ·have e:fcB b b.ops=⟨b.pc,b.len,b.ops,1,0,0,(((b.ops).getD (b.x).toNat default)).k⟩:=by unfold fcB;rw [if_pos ⟨c2,d⟩,y0 (by omega)]
    rw [if_pos d,e]
    refine⟨fun _=>rfl,fun h=> ?_⟩
    rcases h with h | h
    ·exact absurd c2 h
    ·cases h
   ·have e:fcB b b.ops=b:=by unfold fcB;rw [if_neg (fun g=>d g.2),if_neg (by omega)]
    rw [if_neg d,e]
    refine⟨fun h=>absurd h.2 (by decide),fun _=>⟨fun h=>absurd h.1.1.1 (by omega),fun _=>⟨fun h=>absurd h.1.1.1 (by omega),fun _=>⟨fun h=>absurd h.1.1 (by omega),fun _=>rfl⟩⟩⟩⟩
  ·rw [k2 (by omega)]
   refine⟨fun h=>absurd h.1 c2,fun _=> ?_⟩
   by_cases d:(((b.ops).getD (b.x).toNat default)).kind=1∧(((b.ops).getD (b.y).toNat default)).kind=1
   ·have e:fcB b b.ops=⟨b.pc,b.len,b.ops,1,0,0,if b.fin=3∧(((b.ops).getD (b.x).toNat default)).k=(((b.ops).getD (b.y).toNat default)).k∨b.fin=4∧(((b.ops).getD (b.x).toNat default)).k< (((b.ops).getD (b.y).toNat default)).k then b.k else b.pc+b.len⟩:=by
     unfold fcB;rw [if_neg (by omega),if_pos ⟨by omega,d⟩]
    rw [if_pos d.1,if_pos d.2,e]
    dsimp only
    simp only [and_true,Bool.true_eq_false,or_false,Prod.mk.injEq,Blk.mk.injEq,true_and]
    refine⟨fun h=>⟨fun _=>by rw [if_pos (Or.inl h)],fun g=>by omega⟩,fun h=>⟨fun g=>by rw [if_pos (Or.inr g)],fun g=>⟨fun _=>by rw [if_neg (by omega)],fun q=>by omega⟩⟩⟩
   ·have e:fcB b b.ops=b:=by unfold fcB;rw [if_neg (by omega),if_neg (fun g=>d g.2)]
    rw [e]
    have n:¬((if(((b.ops).getD (b.x).toNat default)).kind=1 then((((b.ops).getD (b.x).toNat default)).k,true)else((0:Int),false)).2=true∧(if(((b.ops).getD (b.y).toNat default)).kind=1 then((((b.ops).getD (b.y).toNat default)).k,true)else((0:Int),false)).2=true):=fun⟨g1,g2⟩=>by
     split at g1
     ·split at g2
      ·exact d ⟨by assumption,by assumption⟩
      ·cases g2
     ·cases g1
    exact⟨fun h=>absurd ⟨h.1.1.2,h.1.2⟩ n,fun _=>⟨fun h=>absurd ⟨h.1.1.2,h.1.2⟩ n,fun _=>⟨fun h=>absurd ⟨h.1.2,h.2⟩ n,fun _=>rfl⟩⟩⟩
theorem afy {p1:Int×Int×Int×Unit→Bool} {f1:Int×Int×Int×Unit→Bool×Unit} (hp1:∀a b c,p1 (a,b,c,())=true) (hf1:∀a b c,f1 (a,b,c,())=(inB a b c,())) (o:IOp) (al:List Int) (hk:1≤o.kind∧o.kind≤8) (hx:hX o→0≤o.x∧o.x< (al.length:Int)) (hy:hY o→0≤o.y∧o.y< (al.length:Int)):Wz (std 0).al p1 f1 (o,al,()) (fun y=>y=(ren al o,())):=by
 dsimp only [Wz,Tup.q,Tup.o]
 simp (disch:=omega) only [RR,RB,hp1,hf1,dA,l7]
 have X:((3≤o.kind∧o.kind≤5)∨o.kind=7)∨o.kind=8→hX o:=fun c=>by unfold hX;omega
 have Xn:(¬(3≤o.kind∧o.kind≤5)∧¬o.kind=7)∧¬o.kind=8→¬hX o:=fun c g=>by unfold hX at g;omega
 unfold ren
 refine⟨fun c=>⟨(hx (X c)).1,(hx (X c)).2,fun d=>⟨(hy d).1,(hy d).2,?_⟩,fun d=> ?_⟩,fun c=>⟨fun d=>⟨(hy d).1,(hy d).2,?_⟩,fun d=> ?_⟩⟩
 ·rw [if_pos (X c),if_pos (show hY o from d)]
 ·rw [if_pos (X c),if_neg (show¬hY o from fun g=>g.elim d.1 d.2)]
 ·rw [if_neg (Xn c),if_pos (show hY o from d)]
 ·rw [if_neg (Xn c),if_neg (show¬hY o from fun g=>g.elim d.1 d.2)]
theorem afz (ops:List IOp) (k:Int) (h0:0≤k) (h1:k<ops.length) (h2:(ops.length:Int)<1000000):WL (std 0).al (ops,k,()) (fun y=>y=(rY (ops.drop (k.toNat+1)) (((ops).getD (k).toNat default)).k,())):=by
 dsimp only [WL,Tup.q,Tup.o]
 simp (disch:=omega) only [RR,RB]
 refine ak (fun(y:List IOp×Int×Int×Unit)=>y.1=ops∧y.2.1=k∧0≤y.2.2.1∧y.2.2.1≤ops.length∧rY (ops.drop (k.toNat+1)) (((ops).getD (k).toNat default)).k=rY (ops.drop y.2.2.1.toNat) (((ops).getD (k).toNat default)).k) (fun y=>((ops.length:Int)-y.2.2.1).toNat) ⟨rfl,rfl,by dsimp only;omega,by dsimp only;omega,by dsimp only;rw [show(k+1).toNat=k.toNat+1 by omega]⟩ ?_
 rintro⟨(l:List IOp),(k':Int),(j:Int),⟨⟩⟩ hI
 dsimp only at hI ⊢
 obtain⟨rfl,rfl,h3,h4,h5⟩:=hI
 rw [h5]
 simp (disch:=omega) only [RR,RB,Bool.and_eq_false_iff]
 have st:j<l.length→rY (l.drop j.toNat) (((l).getD (k').toNat default)).k=if(((l).getD (j).toNat default)).kind=4∨(((l).getD (j).toNat default)).kind=5∨(((l).getD (j).toNat default)).kind=2∧(((l).getD (j).toNat default)).k=(((l).getD (k').toNat default)).k then false else if(((l).getD (j).toNat default)).kind=8∧(((l).getD (j).toNat default)).k=(((l).getD (k').toNat default)).k then true else rY (l.drop (j+1).toNat) (((l).getD (k').toNat default)).k:=fun h=>by
  rw [List.drop_eq_getElem_cons (show j.toNat<l.length by omega),XO,←getD_lt (d:=default) (show j.toNat<l.length by omega),show(j+1).toNat=j.toNat+1 by omega]
 refine⟨fun h=>⟨h3,h,by omega,by omega,by omega,by omega,by omega,by omega,by omega,by omega,fun c=> ?_,fun c=>⟨h3,h,by omega,by omega,by omega,by omega,fun d=> ?_,fun d=>⟨⟨by omega,by omega,?_⟩,by omega⟩⟩⟩,fun h=> ?_⟩
 ·rw [st h,if_pos (by omega)]
 ·rw [st h,if_neg (by omega),if_pos (by omega)]
 ·rw [st h,if_neg (by omega),if_neg (by omega)]
 ·rw [List.drop_of_length_le (by omega)];rfl
@[reducible] def axb (z : Int × Int × Int × Int × Int × Int × List IOp × Unit) : Blk := ⟨z.1, z.2.1, z.2.2.2.2.2.2.1, z.2.2.1, z.2.2.2.1, z.2.2.2.2.1, z.2.2.2.2.2.1⟩
theorem apD {p1:Blk×Unit→Bool} {f1:Blk×Unit→Blk×Unit} (hp1:∀b,b.ops.length<1000000→p1 (b,())=true) (hf1:∀b,b.ops.length<1000000→f1 (b,())=(jE b,())) {p2:Blk×Unit→Bool} {f2:Blk×Unit→Int×Int×Int×Int×Int×Int×List IOp×Unit} (hp2:∀b,b.ops.length<1000000→p2 (b,())=true) (hf2:∀b,b.ops.length<1000000→f2 (b,())=bk7 (jH b)) {p3:Blk×Unit→Bool} {f3:Blk×Unit→Int×Int×Int×Int×Int×Int×List IOp×Unit} (hp3:∀b,b.ops.length<1000000→p3 (b,())=true) (hf3:∀b,b.ops.length<1000000→f3 (b,())=bk7 (pF b)) {p4:Blk×Unit→Bool} {f4:Blk×Unit→Int×Int×Int×Int×Int×Int×List IOp×Unit} (hp4:∀b,b.ops.length<1000000→p4 (b,())=true) (hf4:∀b,b.ops.length<1000000→f4 (b,())=bk7 (yF b)) (b:Blk) (hb:b.ops.length<1000000):WW (std 0).al p1 f1 p2 f2 p3 f3 p4 f4 (b,()) (fun y=>y=bk7 (Lh b)):=by
 have m1:(jH b).ops.length<1000000:=Nat.lt_of_le_of_lt (tQ b) hb
 have m2:=Nat.lt_of_le_of_lt (EK (jH b)) m1
 have m3:=Nat.lt_of_le_of_lt (AZ (jE (jH b))) m2
 have m4:=Nat.lt_of_le_of_lt (Lg (pF (jE (jH b)))) m3
 have mkE:∀c:Blk,Co.mk .blk (c.pc,c.len,c.ops,c.fin,c.x,c.y,c.k,())=c:=fun _=>rfl
 dsimp only [WW,Tup.q,Tup.o]
 simp (disch:=omega) only [RR,hp2 b hb,hf2 b hb,mkE,hp1 _ m1,hf1 _ m1,hp3 _ m2,hf3 _ m2,hp4 _ m3,hf4 _ m3,hp3 _ m4,hf3 _ m4]
 rfl
theorem afA {α:Type} {d:α} {f l:List α} {k:Nat} (hf:f.length=k) (h:k<l.length):(f++l.drop k).getD k d=l.getD k d:=by
 rw [getD_lt (by rw [List.length_append,List.length_drop];omega),getD_lt h,List.getElem_append_right (by omega),List.getElem_drop]
 simp only [hf,Nat.sub_self,Nat.add_zero]
theorem apE {α:Type} {d:α} {f l:List α} {k j:Nat} (hf:f.length=k) (h:j<k):(f++l.drop k).getD j d=f.getD j d:=by
 rw [getD_lt (by rw [List.length_append];omega),getD_lt (by omega),List.getElem_append_left]
theorem aag {α:Type} {x:α} {f l:List α} {k:Nat} (hf:f.length=k) (h:k<l.length):(f++l.drop k).set k x=(f++ [x])++l.drop (k+1):=by
 rw [List.set_append_right _ _ (by omega),hf,Nat.sub_self,List.drop_eq_getElem_cons h,List.set_cons_zero,List.append_assoc];rfl
theorem afB {α:Type} {d:α} {f l:List α} {k:Nat} (h:k<l.length):f++l.drop k=(f++ [l.getD k d])++l.drop (k+1):=by
 rw [List.drop_eq_getElem_cons h,getD_lt h,List.append_assoc];rfl
theorem aah {α:Type} {f l:List α} {k:Nat} (hf:f.length=k) (h:k≤l.length):(f++l.drop k).length=l.length:=by
 rw [List.length_append,hf,List.length_drop];omega
theorem gH.fe {b:Blk} (ok:gH b) {f:List IOp} (h:f.length=b.ops.length):FE ⟨b.pc,b.len,f,b.fin,b.x,b.y,b.k⟩:=by
 have en:=ok.en
 have hp:=ok.pc
 have hl:=ok.ln
 exact⟨en.f,fun c=>⟨(en.x1 c).1,by dsimp only;rw [h];exact(en.x1 c).2.1⟩,fun c=>⟨(en.y1 c).1,by dsimp only;rw [h];exact(en.y1 c).2.1⟩,en.y0,by dsimp only;omega⟩
theorem apF {p1:Blk×Unit→Bool} {f1:Blk×Unit→Bool×Unit} (hp1:∀b,b.ops.length<1000000000→p1 (b,())=true) (hf1:∀b,b.ops.length<1000000000→f1 (b,())=(bp (gH b),())) {p2:Int×Int×Int×Unit→Bool} {f2:Int×Int×Int×Unit→Int×Unit} (hp2:∀op a b,p2 (op,a,b,())=true) (hf2:∀op a b,f2 (op,a,b,())=(wdo op a b,())) {p3:Blk×Unit→Bool} {f3:Blk×Unit→Blk×Unit} (hp3:∀b,FE b→p3 (b,())=true) (hf3:∀b,FE b→f3 (b,())=(fcB b b.ops,())) {p4:List IOp×Int×Unit→Bool} {f4:List IOp×Int×Unit→Int×Bool×Unit} (hp4:∀ops k,p4 (ops,k,())=true) (hf4:∀ops k,f4 (ops,k,())=((kn ops k).1,(kn ops k).2,())) {p5:Blk×Unit→Bool} {f5:Blk×Unit→Int×Int×Int×Int×Int×Int×List IOp×Unit} (hp5:∀b,b.ops.length<1000000→p5 (b,())=true) (hf5:∀b,b.ops.length<1000000→f5 (b,())=(b.pc,b.len,b.fin,b.x,b.y,b.k,b.ops,())) (b:Blk) (hb:b.ops.length<1000000):WU (std 0).al p1 f1 p2 f2 p3 f3 p4 f4 p5 f5 (b,()) (fun y=>y=(jE b,())):=by
 have mkE:∀p l o f x y k,Co.mk .blk (p,l,o,f,x,y,k,())=Blk.mk p l o f x y k:=fun _ _ _ _ _ _ _=>rfl
 dsimp only [WU,Tup.q,Tup.o]
 simp (disch:=omega) only [RR,RB,hp1 b (by omega),hf1 b (by omega),hp5 b hb,hf5 b hb,mkE]
 refine⟨fun h=>by unfold jE;rw [h,if_neg (by decide)];rfl,fun h=> ?_⟩
 have ok:=aT.1 h
 rw [Ox ok]
 refine ak (fun(y:Int×Int×Int×Int×Int×Int×Int×Int×Int×Int×Int×Int×Int×List IOp×Unit)=>0≤y.1∧y.1≤b.ops.length∧y.2.2.2.2.2.2.2=(b.pc,b.len,b.fin,b.x,b.y,b.k,fc b.ops y.1.toNat++b.ops.drop y.1.toNat,())) (fun y=>((b.ops.length:Int)-y.1).toNat) ⟨by dsimp only;omega,by dsimp only;omega,rfl⟩ ?_
 rintro⟨(k:Int),u1,u2,u3,u4,u5,u6,b1,b2,b3,b4,b5,b6,(ops:List IOp),⟨⟩⟩ hI
 dsimp only at hI ⊢
 simp only [Prod.mk.injEq,and_true]at hI
 obtain⟨h1,h2,rfl,rfl,rfl,rfl,rfl,rfl,rfl⟩:=hI
 have fl:=Ow b.ops k.toNat
 have ln:=aah (l:=b.ops) fl (by omega)
 simp (disch:=omega) only [RR,RB,hp4,hf4,hp2,hf2,ln,mkE]
 refine⟨fun h=> ?_,fun h=> ?_⟩
 ·have o:=ok.op k h1 h
  have ek:=afA (d:=default) (l:=b.ops) fl (by omega)
  have kv:∀x:Int,Vl b.ops x k→kn (fc b.ops k.toNat++b.ops.drop k.toNat) x=if((((fc b.ops k.toNat)).getD (x).toNat default)).kind=1 then(((((fc b.ops k.toNat)).getD (x).toNat default)).k,true)else(0,false):=fun x v=>by
   have v0:=v.1
   have v1:=v.2.1
   unfold kn
   rw [apE fl (by omega)]
   simp only [show 0≤x∧x< ((fc b.ops k.toNat++b.ops.drop k.toNat).length:Int)from⟨v0,by omega⟩,true_and]
  have nx:fc b.ops (k+1).toNat=fc b.ops k.toNat++ [fcO (fc b.ops k.toNat) ((b.ops).getD (k).toNat default)]:=by rw [show(k+1).toNat=k.toNat+1 by omega];rfl
  rw [ek]
  have hk:=afB (d:=default) (f:=fc b.ops k.toNat) (l:=b.ops) (k:=k.toNat) (by omega)
  have hs:=fun x=>aag (x:=x) (l:=b.ops) fl (by omega)
  rw [nx,show(k+1).toNat=k.toNat+1 by omega]
  generalize ((b.ops).getD (k).toNat default)=q at o hk ⊢
  have vx:=fun c=>o.x1 c
  have vy:=fun c=>o.y1 c
  refine⟨h1,h,h1,h,fun c=>⟨h1,h,h1,h,⟨by omega,by omega,?_⟩,by omega⟩,fun c=>⟨⟨by omega,by omega,?_⟩,by omega⟩⟩
  ·have k1:=kv _ (o.x1 (by unfold hX;omega))
   have k2:=kv _ (o.y1 (Or.inl c.1.1))
   rw [k1,k2]at c ⊢
   by_cases d1:((((fc b.ops k.toNat)).getD (q.x).toNat default)).kind=1
   ·by_cases d2:((((fc b.ops k.toNat)).getD (q.y).toNat default)).kind=1
    ·rw [if_pos d1,if_pos d2,hs]
     have e:fcO (fc b.ops k.toNat) q=⟨1,0,0,wdo q.k ((((fc b.ops k.toNat)).getD (q.x).toNat default)).k ((((fc b.ops k.toNat)).getD (q.y).toNat default)).k,0⟩:=by unfold fcO;rw [if_pos ⟨c.1.1,d1,d2⟩]
     rw [e]
    ·rw [if_neg d2]at c;exact absurd c.2 (by decide)
   ·rw [if_neg d1]at c;exact absurd c.1.2 (by decide)
  ·have e:fcO (fc b.ops k.toNat) q=q:=by
    unfold fcO
    refine if_neg ?_
    rintro⟨d0,d1,d2⟩
    rw [kv _ (o.x1 (by unfold hX;omega)),kv _ (o.y1 (Or.inl d0)),if_pos d1,if_pos d2,decide_eq_true d0]at c
    cases c
   rw [e,hk]
 ·have e:fc b.ops k.toNat++b.ops.drop k.toNat=fc b.ops b.ops.length:=by rw [List.drop_of_length_le (by omega),List.append_nil,show k.toNat=b.ops.length by omega]
  rw [e]
  have fe:=ok.fe (Ow b.ops b.ops.length)
  rw [hf3 _ fe]
  exact⟨hp3 _ fe,rfl⟩
theorem afC {a b:List Bool} (h:a.length=b.length) (g:∀t:Nat,t<a.length→(a.getD t default=true↔b.getD t default=true)):a=b:=by
 refine List.ext_getElem h fun i h1 h2=> ?_
 have:=g i h1
 rw [getD_lt h1,getD_lt h2]at this
 exact Bool.eq_iff_iff.2 this
theorem apG {p1:Blk×Unit→Bool} {f1:Blk×Unit→Bool×Unit} (hp1:∀b,b.ops.length<1000000000→p1 (b,())=true) (hf1:∀b,b.ops.length<1000000000→f1 (b,())=(bp (gH b),())) {p2:Int×Int×Int×Unit→Bool} {f2:Int×Int×Int×Unit→Bool×Unit} (hp2:∀a b c,p2 (a,b,c,())=true) (hf2:∀a b c,f2 (a,b,c,())=(inB a b c,())) (b:Blk) (hb:b.ops.length<1000000):WH (std 0).al p1 f1 p2 f2 (b,()) (fun y=>y=(Fu b,())):=by
 dsimp only [WH,Tup.q,Tup.o]
 simp (disch:=omega) only [RR,RB,hp1 b (by omega),hf1 b (by omega)]
 unfold Fu
 refine⟨fun h=>by rw [h,if_neg (by decide)],fun h=> ?_⟩
 rw [if_pos h]
 have ok:=aT.1 h
 have n48:=ok.sz
 have en:=ok.en
 refine ak (fun(y:Int×Blk×List Bool×Unit)=>0≤y.1∧y.1≤b.ops.length∧y.2.1=b∧(y.2.2.1.length:Int)=y.1∧∀t:Nat,t<y.2.2.1.length→(y.2.2.1.getD t default=true↔4≤(b.ops.getD t default).kind)) (fun y=>((b.ops.length:Int)-y.1).toNat) ⟨by dsimp only;omega,by dsimp only;omega,rfl,rfl,fun t h=>absurd h (by simp)⟩ ?_
 rintro⟨(k:Int),(b':Blk),(kp:List Bool),⟨⟩⟩ hI
 dsimp only at hI ⊢
 obtain⟨h1,h2,rfl,h3,h4⟩:=hI
 simp (disch:=omega) only [RR,RB,List.length_append,List.length_cons,List.length_nil]
 refine⟨fun h=>⟨h1,h,by omega,⟨by omega,by omega,by omega,fun t ht=> ?_⟩,by omega⟩,fun h=> ?_⟩
 ·rw [MV]
  rcases(by omega:t<kp.length∨t=kp.length)with c | c
  ·rw [if_pos c];exact h4 t c
  ·rw [if_neg (by omega),if_pos c,decide_eq_true_eq,c,show k.toNat=kp.length by omega]
 have ex:¬b'.fin=1→0≤b'.x∧b'.x<kp.length:=fun c=>by have:=ok.en.x1 c;exact⟨this.1,by have:=this.2.1;omega⟩
 have ey:b'.fin=3∨b'.fin=4→0≤b'.y∧b'.y<kp.length:=fun c=>by have:=ok.en.y1 (by omega);exact⟨this.1,by have:=this.2.1;omega⟩
 have ff:=en.f
 have u0:=aad ok
 have kl:kp.length=b'.ops.length:=by omega
 rw [kl]at h4
 refine⟨fun c=>⟨(ex c).1,(ex c).2,(ex c).1,(ex c).2,fun c2=>⟨(ey c2).1,by rw [List.length_set];exact(ey c2).2,(ey c2).1,by rw [List.length_set];exact(ey c2).2,?_⟩,fun c2=> ?_⟩,fun c=>⟨fun c2=>absurd c2 (by omega),fun c2=> ?_⟩⟩
 all_goals
  refine ak (fun(y:Int×Blk×List Bool×Unit)=> -1≤y.1∧y.1<b'.ops.length∧y.2.1=b'∧y.2.2.1.length=b'.ops.length∧∀t:Nat,t<b'.ops.length→(y.2.2.1.getD t default=true↔(us b' (b'.ops.length-1-y.1).toNat).getD t default=true∨4≤(b'.ops.getD t default).kind)) (fun y=>(y.1+1).toNat) ⟨by dsimp only;omega,by dsimp only;omega,rfl,by simp only [List.length_set];omega,fun t ht=> ?_⟩ ?_
  ·dsimp only
   rw [show(b'.ops.length-1- ((b'.ops.length:Int)-1)).toNat=0 by omega]
   show _↔(us0 b').getD t default=true∨_
   have q:=h4 t ht
   have r:=u0 t
   first
    | (rw [XM (by rw [List.length_set];have:=ey c2;omega),XM (by have:=ex c;omega),q,r];grind)
    | (rw [XM (by have:=ex c;omega),q,r];grind)
    | (rw [q,r];grind)
  rintro⟨(j:Int),(b2:Blk),(ms:List Bool),⟨⟩⟩ hI
  dsimp only at hI ⊢
  obtain⟨j0,j1,rfl,j3,j4⟩:=hI
  simp (disch:=omega) only [RR,RB,hp2,hf2,dA,l7,List.length_set]
  have ul:=DL b2 (b2.ops.length-1-j).toNat
  have us1:0≤j→∀t:Nat,((us b2 (b2.ops.length-1- (j-1)).toNat).getD t default=true↔(us b2 (b2.ops.length-1-j).toNat).getD t default=true∨((us b2 (b2.ops.length-1-j).toNat).getD j.toNat default=true∨4≤(((b2.ops).getD (j).toNat default)).kind)∧(t=j.toNat∨hX (((b2.ops).getD (j).toNat default))∧t=(((b2.ops).getD (j).toNat default)).x.toNat∨hY (((b2.ops).getD (j).toNat default))∧t=(((b2.ops).getD (j).toNat default)).y.toNat)):=fun g t=>by
   have o:=ok.op j g j1
   rw [show(b2.ops.length-1- (j-1)).toNat=(b2.ops.length-1-j).toNat+1 by omega]
   show(usO (b2.ops.getD (b2.ops.length-1- (b2.ops.length-1-j).toNat) default) (b2.ops.length-1- (b2.ops.length-1-j).toNat) _).getD t default=true↔_
   rw [show b2.ops.length-1- (b2.ops.length-1-j).toNat=j.toNat by omega]
   exact aac (by omega) (fun c=>by have:=o.x1 c;have g0:=this.1;have g1:=this.2.1;omega) (fun c=>by have:=o.y1 c;have g0:=this.1;have g1:=this.2.1;omega)
  have ue:¬0≤j→(us b2 (b2.ops.length-1-j).toNat)=us b2 b2.ops.length:=fun g=>by rw [show(b2.ops.length-1-j).toNat=b2.ops.length by omega]
  generalize us b2 (b2.ops.length-1-j).toNat=U at us1 j4 ue
  refine⟨fun g=> ?_,fun g=>congrArg (fun m:List Bool=>(m,())) (afC (b:=us b2 b2.ops.length) (by rw [DL];exact j3) fun t ht=> ?_)⟩
  ·have o:=ok.op j g j1
   have X:hX (((b2.ops).getD (j).toNat default))→0≤(((b2.ops).getD (j).toNat default)).x∧(((b2.ops).getD (j).toNat default)).x<ms.length:=fun c=>by have:=o.x1 c;have g0:=this.1;have g1:=this.2.1;omega
   have Y:hY (((b2.ops).getD (j).toNat default))→0≤(((b2.ops).getD (j).toNat default)).y∧(((b2.ops).getD (j).toNat default)).y<ms.length:=fun c=>by have:=o.y1 c;have g0:=this.1;have g1:=this.2.1;omega
   have us1:=us1 g
   have qj:=j4 j.toNat (by omega)
   have kd:=o.kd
   generalize ((b2.ops).getD (j).toNat default)=q at*
   have cx:((3≤q.kind∧q.kind≤5)∨q.kind=7)∨q.kind=8↔hX q:=by unfold hX;omega
   have cn:(¬(3≤q.kind∧q.kind≤5)∧¬q.kind=7)∧¬q.kind=8↔¬hX q:=by unfold hX;omega
   have cy:q.kind=3∨q.kind=5↔hY q:=Iff.rfl
   have dn:¬q.kind=3∧¬q.kind=5↔¬hY q:=by unfold hY;omega
   rw [cx,cn,cy,dn]
   generalize hX q=HX at*
   generalize hY q=HY at*
   refine⟨g,j1,g,by omega,g,by omega,fun c=>⟨⟨by omega,by omega,j3,fun t ht=> ?_⟩,by omega⟩,fun c=>⟨fun d=>⟨(X d).1,(X d).2,(X d).1,(X d).2,fun e=>⟨(Y e).1,(Y e).2,(Y e).1,(Y e).2,⟨by omega,by omega,j3,fun t ht=> ?_⟩,by omega⟩,fun e=>⟨⟨by omega,by omega,j3,fun t ht=> ?_⟩,by omega⟩⟩,fun d=>⟨fun e=>⟨(Y e).1,(Y e).2,(Y e).1,(Y e).2,⟨by omega,by omega,j3,fun t ht=> ?_⟩,by omega⟩,fun e=>⟨⟨by omega,by omega,j3,fun t ht=> ?_⟩,by omega⟩⟩⟩⟩
   ·rw [us1,j4 t ht];rw [c]at qj;grind
   ·rw [XM (by rw [List.length_set];have:=Y e;omega),XM (by have:=X d;omega),us1,j4 t ht];grind
   ·rw [XM (by have:=X d;omega),us1,j4 t ht];grind
   ·rw [XM (by have:=Y e;omega),us1,j4 t ht];grind
   ·rw [us1,j4 t ht];grind
  ·rw [j4 t (by omega),ue g]
   exact⟨fun h=>h.elim id ((awU ok).k t (Nat.zero_le _) (by omega)),Or.inl⟩
end Go.TX.F
namespace Go.TX.F
open Go Go.AE Go.TX
theorem ah7 {ops:List IOp} {kp:List Bool} {len:Int} {k n:Nat} {o:IOp} (ho:Ld ops len k o) (h:k<n):ren (kpS ops kp (k+1)).1 o=ren (kpS ops kp n).1 o:=by
 have p:=(ah0 ops kp (show k+1≤n by omega)).2
 have l:=(Cc ops kp (k+1)).1
 have e:∀x:Int,Vl ops x k→(((kpS ops kp (k+1)).1).getD (x).toNat default)=(((kpS ops kp n).1).getD (x).toNat default):=fun x v=>by
  have g0:=v.1
  have g1:=v.2.1
  exact(apd p (by omega)).symm
 have ox:=ho.x1
 have oy:=ho.y1
 unfold ren
 congr 1
 ·split
  ·rename_i c;exact e _ (ox c)
  ·rfl
 ·split
  ·rename_i c;exact e _ (oy c)
  ·rfl
theorem apH {p1:IOp×List Int×Unit→Bool} {f1:IOp×List Int×Unit→IOp×Unit} (hp1:∀o al,(1≤o.kind∧o.kind≤8)→(hX o→0≤o.x∧o.x< (al.length:Int))→(hY o→0≤o.y∧o.y< (al.length:Int))→p1 (o,al,())=true) (hf1:∀o al,(1≤o.kind∧o.kind≤8)→(hX o→0≤o.x∧o.x< (al.length:Int))→(hY o→0≤o.y∧o.y< (al.length:Int))→f1 (o,al,())=(ren al o,())) (b:Blk) (kp:List Bool) (ok:gH b) (hk:kp.length=b.ops.length):WG (std 0).al p1 f1 (b,kp,()) (fun y=>y=bk7 (EJ b kp)):=by
 have n48:=ok.sz
 dsimp only [WG,Tup.q,Tup.o]
 simp (disch:=omega) only [RR,RB]
 refine ak (fun(y:List Bool×Int×Blk×Int×Int×Int×Int×Int×Int×List IOp×List Int×Unit)=>y.1=kp∧0≤y.2.1∧y.2.1≤b.ops.length∧y.2.2.1=b∧y.2.2.2.2.2.2.2.2.2.1=(kpS b.ops kp y.2.1.toNat).2.map (ren (kpS b.ops kp b.ops.length).1)∧y.2.2.2.2.2.2.2.2.2.2.1=(kpS b.ops kp y.2.1.toNat).1) (fun y=>((b.ops.length:Int)-y.2.1).toNat) ⟨rfl,by dsimp only;omega,by dsimp only;omega,rfl,rfl,rfl⟩ ?_
 rintro⟨(kp':List Bool),(k:Int),(b':Blk),u1,u2,u3,u4,u5,u6,(out:List IOp),(to:List Int),⟨⟩⟩ hI
 dsimp only at hI ⊢
 obtain⟨rfl,h1,h2,rfl,rfl,rfl⟩:=hI
 obtain⟨l1,l2⟩:=Cc b'.ops kp' k.toNat
 have l3:=(Cc b'.ops kp' (k+1).toNat).1
 have nx:(kpS b'.ops kp' (k+1).toNat).1=(kpS b'.ops kp' k.toNat).1++ [((kpS b'.ops kp' k.toNat).2.length:Int)]:=by rw [show(k+1).toNat=k.toNat+1 by omega];rfl
 have r:k<b'.ops.length→ren (kpS b'.ops kp' (k+1).toNat).1 ((b'.ops).getD (k).toNat default)=ren (kpS b'.ops kp' b'.ops.length).1 ((b'.ops).getD (k).toNat default):=fun h=>by
  rw [show(k+1).toNat=k.toNat+1 by omega]
  exact ah7 (by rw [show((k.toNat:Nat):Int)=k by omega];exact ok.op k h1 h) (by omega)
 have s:(kpS b'.ops kp' (k+1).toNat).2=if kp'.getD k.toNat default=true then(kpS b'.ops kp' k.toNat).2++ [((b'.ops).getD (k).toNat default)]else(kpS b'.ops kp' k.toNat).2:=by rw [show(k+1).toNat=k.toNat+1 by omega];rfl
 have fin:¬k<b'.ops.length→kpS b'.ops kp' k.toNat=kpS b'.ops kp' b'.ops.length:=fun h=>by rw [show k.toNat=b'.ops.length by omega]
 have kb:EJ b' kp'=afn (kpS b'.ops kp' b'.ops.length).1 b' (kpS b'.ops kp' b'.ops.length).2:=rfl
 rw [kb]
 generalize kpS b'.ops kp' b'.ops.length=N at r fin ⊢
 generalize hT:kpS b'.ops kp' (k+1).toNat=T at l3 nx r s ⊢
 generalize kpS b'.ops kp' k.toNat=S at l1 l2 nx s fin ⊢
 have en:=ok.en
 have ex:¬k<b'.ops.length→¬b'.fin=1→0≤b'.x∧b'.x< (S.1.length:Int):=fun h c=>by have:=en.x1 c;exact⟨this.1,by have:=this.2.1;omega⟩
 have ey:¬k<b'.ops.length→b'.fin=3∨b'.fin=4→0≤b'.y∧b'.y< (S.1.length:Int):=fun h c=>by have:=en.y1 (by omega);exact⟨this.1,by have:=this.2.1;omega⟩
 simp (disch:=omega) only [RR,RB,List.length_append,List.length_cons,List.length_nil,List.length_map,Oa,←nx]
 refine⟨fun h=> ?_,fun h=> ?_⟩
 ·have op:=ok.op k h1 h
  have a2:hX (((b'.ops).getD (k).toNat default))→0≤(((b'.ops).getD (k).toNat default)).x∧(((b'.ops).getD (k).toNat default)).x< (T.1.length:Int):=fun c=>⟨(op.x1 c).1,by have:=(op.x1 c).2.1;omega⟩
  have a3:hY (((b'.ops).getD (k).toNat default))→0≤(((b'.ops).getD (k).toNat default)).y∧(((b'.ops).getD (k).toNat default)).y< (T.1.length:Int):=fun c=>⟨(op.y1 c).1,by have:=(op.y1 c).2.1;omega⟩
  have P:=hp1 _ T.1 op.kd a2 a3
  rw [hf1 _ T.1 op.kd a2 a3,hT,s,r h]
  refine⟨by omega,h1,by omega,fun c=>⟨h1,h,P,by omega,⟨by omega,by omega,?_⟩,by omega⟩,fun c=>⟨⟨by omega,by omega,?_⟩,by omega⟩⟩
  ·rw [if_pos c,List.map_append];exact⟨rfl,rfl⟩
  ·rw [c,if_neg (by decide)];exact⟨rfl,rfl⟩
 ·have ex:=ex h
  have ey:=ey h
  rw [fin h]at ex ey ⊢
  unfold bk7 afn
  refine⟨fun c=>⟨(ex c).1,(ex c).2,(ex c).1,(ex c).2,fun c2=>⟨(ey c2).1,(ey c2).2,(ey c2).1,(ey c2).2,?_⟩,fun c2=> ?_⟩,fun c=>⟨fun c2=>⟨(ey c2).1,(ey c2).2,(ey c2).1,(ey c2).2,?_⟩,fun c2=> ?_⟩⟩
  ·rw [if_neg c,if_pos (by omega)]
  ·rw [if_neg c,if_neg (by have:=en.f;omega)]
  ·exact absurd c2 (by omega)
  ·rw [if_pos c,if_neg (by omega)]
theorem apI {p1:Blk×Unit→Bool} {f1:Blk×Unit→Bool×Unit} (hp1:∀b,b.ops.length<1000000000→p1 (b,())=true) (hf1:∀b,b.ops.length<1000000000→f1 (b,())=(bp (gH b),())) {p2:Blk×Unit→Bool} {f2:Blk×Unit→List Bool×Unit} (hp2:∀b,b.ops.length<1000000→p2 (b,())=true) (hf2:∀b,b.ops.length<1000000→f2 (b,())=(Fu b,())) {p3:Blk×List Bool×Unit→Bool} {f3:Blk×List Bool×Unit→Int×Int×Int×Int×Int×Int×List IOp×Unit} (hp3:∀b kp,gH b→kp.length=b.ops.length→p3 (b,kp,())=true) (hf3:∀b kp,gH b→kp.length=b.ops.length→f3 (b,kp,())=bk7 (EJ b kp)) (b:Blk) (hb:b.ops.length<1000000):WI (std 0).al p1 f1 p2 f2 p3 f3 (b,()) (fun y=>y=bk7 (pF b)):=by
 dsimp only [WI,Tup.q,Tup.o]
 simp (disch:=omega) only [RR,RB,hp1 b (by omega),hf1 b (by omega),hp2 b hb,hf2 b hb]
 unfold pF Fu
 refine⟨fun h=>by rw [h,if_neg (by decide)];rfl,fun h=> ?_⟩
 have ok:=aT.1 h
 rw [if_pos h,if_pos h,hf3 _ _ ok (DL b _)]
 exact⟨hp3 _ _ ok (DL b _),rfl⟩
theorem apJ {p1:Blk×Unit→Bool} {f1:Blk×Unit→Bool×Unit} (hp1:∀b,b.ops.length<1000000000→p1 (b,())=true) (hf1:∀b,b.ops.length<1000000000→f1 (b,())=(bp (gH b),())) {p2:Blk×List Bool×Unit→Bool} {f2:Blk×List Bool×Unit→Int×Int×Int×Int×Int×Int×List IOp×Unit} (hp2:∀b kp,gH b→kp.length=b.ops.length→p2 (b,kp,())=true) (hf2:∀b kp,gH b→kp.length=b.ops.length→f2 (b,kp,())=bk7 (EJ b kp)) {p3:List IOp×Int×Unit→Bool} {f3:List IOp×Int×Unit→Bool×Unit} (hp3:∀ops k,0≤k→k<ops.length→(ops.length:Int)<1000000→p3 (ops,k,())=true) (hf3:∀ops k,0≤k→k<ops.length→(ops.length:Int)<1000000→f3 (ops,k,())=(rY (ops.drop (k.toNat+1)) (((ops).getD (k).toNat default)).k,())) (b:Blk) (hb:b.ops.length<1000000):WM (std 0).al p1 f1 p2 f2 p3 f3 (b,()) (fun y=>y=bk7 (yF b)):=by
 dsimp only [WM,Tup.q,Tup.o]
 simp (disch:=omega) only [RR,RB,hp1 b (by omega),hf1 b (by omega)]
 unfold yF
 refine⟨fun h=>by rw [h,if_neg (by decide)];rfl,fun h=> ?_⟩
 have ok:=aT.1 h
 rw [if_pos h]
 have kl:(tO b.ops).length=b.ops.length:=by unfold tO;rw [List.length_map,List.length_range]
 refine ak (fun(y:Int×Blk×Int×Int×Int×Int×Int×Int×List Bool×Unit)=>0≤y.1∧y.1≤b.ops.length∧y.2.1=b∧y.2.2.2.2.2.2.2.2.1=(tO b.ops).take y.1.toNat) (fun y=>((b.ops.length:Int)-y.1).toNat) ⟨by dsimp only;omega,by dsimp only;omega,rfl,rfl⟩ ?_
 rintro⟨(k:Int),(b':Blk),u1,u2,u3,u4,u5,u6,(kp:List Bool),⟨⟩⟩ hI
 dsimp only at hI ⊢
 obtain⟨h1,h2,rfl,rfl⟩:=hI
 have tl:((tO b'.ops).take k.toNat).length=k.toNat:=by rw [List.length_take];omega
 simp (disch:=omega) only [RR,RB,List.length_append,List.length_cons,List.length_nil,tl]
 refine⟨fun h=>⟨h1,h,Or.inr (hp3 _ _ h1 h (by omega)),by omega,⟨by omega,by omega,?_⟩,by omega⟩,fun h=> ?_⟩
 ·rw [hf3 _ _ h1 h (by omega),show(k+1).toNat=k.toNat+1 by omega,List.take_succ_eq_append_getElem (by omega),←getD_lt (d:=default) (show k.toNat< (tO b'.ops).length by omega),abq (by omega)]
  refine congrArg (fun x=>(tO b'.ops).take k.toNat++ [x]) ?_
  rw [Bool.not_and]
 ·rw [List.take_of_length_le (by omega),hf2 _ _ ok kl]
  exact⟨hp2 _ _ ok kl,rfl⟩
theorem apK {ops:List IOp} {len:Int} {k n:Nat} {o:IOp} (ho:Ld ops len k o) (h:k≤n):ren (cpS ops k).1 o=ren (cpS ops n).1 o:=by
 have l:=(Fq ops k).1
 have e:∀x:Int,Vl ops x k→(((cpS ops k).1).getD (x).toNat default)=(((cpS ops n).1).getD (x).toNat default):=fun x v=>by
  have g0:=v.1
  have g1:=v.2.1
  exact(apf ops (by omega) h).symm
 have ox:=ho.x1
 have oy:=ho.y1
 unfold ren
 congr 1
 ·split
  ·rename_i c;exact e _ (ox c)
  ·rfl
 ·split
  ·rename_i c;exact e _ (oy c)
  ·rfl
theorem apL {p1:Blk×Unit→Bool} {f1:Blk×Unit→Bool×Unit} (hp1:∀b,b.ops.length<1000000000→p1 (b,())=true) (hf1:∀b,b.ops.length<1000000000→f1 (b,())=(bp (gH b),())) {p2:IOp×List Int×Unit→Bool} {f2:IOp×List Int×Unit→IOp×Unit} (hp2:∀o al,(1≤o.kind∧o.kind≤8)→(hX o→0≤o.x∧o.x< (al.length:Int))→(hY o→0≤o.y∧o.y< (al.length:Int))→p2 (o,al,())=true) (hf2:∀o al,(1≤o.kind∧o.kind≤8)→(hX o→0≤o.x∧o.x< (al.length:Int))→(hY o→0≤o.y∧o.y< (al.length:Int))→f2 (o,al,())=(ren al o,())) {p3:Blk×Unit→Bool} {f3:Blk×Unit→Int×Int×Int×Int×Int×Int×List IOp×Unit} (hp3:∀b,b.ops.length<1000000→p3 (b,())=true) (hf3:∀b,b.ops.length<1000000→f3 (b,())=(b.pc,b.len,b.fin,b.x,b.y,b.k,b.ops,())) (b:Blk) (hb:b.ops.length<1000000):WA (std 0).al p1 f1 p2 f2 p3 f3 (b,()) (fun y=>y=bk7 (jH b)):=by
 dsimp only [WA,Tup.q,Tup.o]
 simp (disch:=omega) only [RR,RB,hp1 b (by omega),hf1 b (by omega),hp3 b hb,hf3 b hb,Oa]
 unfold jH
 refine⟨fun h=>by rw [h,if_neg (by decide)];rfl,fun h=> ?_⟩
 have ok:=aT.1 h
 rw [if_pos h]
 have n48:=ok.sz
 refine ak (fun(y:Int×Int×Int×Int×Int×Int×Int×Int×Int×Int×Int×Int×Int×List Int×List Int×List IOp×Unit)=>0≤y.1∧y.1≤b.ops.length∧y.2.2.2.2.2.2.2=(b.pc,b.len,b.fin,b.x,b.y,b.k,(cpS b.ops y.1.toNat).1,(cpS b.ops y.1.toNat).2,(b.ops.take y.1.toNat).map (ren (cpS b.ops b.ops.length).1)++b.ops.drop y.1.toNat,())) (fun y=>((b.ops.length:Int)-y.1).toNat) ⟨by dsimp only;omega,by dsimp only;omega,rfl⟩ ?_
 rintro⟨(k:Int),u1,u2,u3,u4,u5,u6,b1,b2,b3,b4,b5,b6,(al:List Int),(la:List Int),(ops:List IOp),⟨⟩⟩ hI
 dsimp only at hI ⊢
 simp only [Prod.mk.injEq,and_true]at hI
 obtain⟨h1,h2,rfl,rfl,rfl,rfl,rfl,rfl,rfl,rfl,rfl⟩:=hI
 obtain⟨l1,l2⟩:=Fq b.ops k.toNat
 have r:=fun h:k<b.ops.length=>apK (ops:=b.ops) (k:=k.toNat) (n:=b.ops.length) (by rw [show((k.toNat:Nat):Int)=k by omega];exact ok.op k h1 h) (by omega)
 have fl:((b.ops.take k.toNat).map (ren (cpS b.ops b.ops.length).1)).length=k.toNat:=by rw [List.length_map,List.length_take];omega
 have ln:=aah (l:=b.ops) fl (by omega)
 have ek:=fun h:k<b.ops.length=>afA (d:=default) (l:=b.ops) fl (by omega)
 have ms:=fun x (h:k<b.ops.length)=>aag (x:=x) (l:=b.ops) fl (by omega)
 have tk:=fun h:k<b.ops.length=>(bL (d:=default) (l:=b.ops) h1 h rfl)
 have nx:k<b.ops.length→cpS b.ops (k+1).toNat=((cpS b.ops k.toNat).1++ [cpN (cpS b.ops k.toNat) k ((b.ops).getD (k).toNat default)],cpL (cpS b.ops k.toNat) k ((b.ops).getD (k).toNat default)):=fun h=>by
  rw [show(k+1).toNat=k.toNat+1 by omega,show k=((k.toNat:Nat):Int) by omega];rfl
 have fin:¬k<b.ops.length→cpS b.ops k.toNat=cpS b.ops b.ops.length:=fun h=>by rw [show k.toNat=b.ops.length by omega]
 have en:=ok.en
 by_cases h:k<b.ops.length
 ·have o:=ok.op k h1 h
  have r:=r h
  have ek:=ek h
  have nx:=nx h
  have ms:=fun x=>ms x h
  have tk:=tk h
  have a2:hX (((b.ops).getD (k).toNat default))→0≤(((b.ops).getD (k).toNat default)).x∧(((b.ops).getD (k).toNat default)).x< ((cpS b.ops k.toNat).1.length:Int):=fun c=>⟨(o.x1 c).1,by have:=(o.x1 c).2.1;omega⟩
  have a3:hY (((b.ops).getD (k).toNat default))→0≤(((b.ops).getD (k).toNat default)).y∧(((b.ops).getD (k).toNat default)).y< ((cpS b.ops k.toNat).1.length:Int):=fun c=>⟨(o.y1 c).1,by have:=(o.y1 c).2.1;omega⟩
  have P:=hp2 _ _ o.kd a2 a3
  have F:=hf2 _ _ o.kd a2 a3
  have kd:=o.k2
  have rx:(((b.ops).getD (k).toNat default)).kind=8→(ren (cpS b.ops b.ops.length).1 ((b.ops).getD (k).toNat default)).x=(((cpS b.ops k.toNat).1).getD ((((b.ops).getD (k).toNat default)).x).toNat default):=fun c=>by rw [←r];exact if_pos (by unfold hX;omega)
  rw [r]at F
  generalize hN:(cpS b.ops b.ops.length).1=N at*
  generalize hT:cpS b.ops (k+1).toNat=T at nx ⊢
  generalize cpS b.ops k.toNat=S at*
  simp (disch:=omega) only [RR,RB,ln,ek,P,F,ms,List.length_append,List.length_cons,List.length_nil,List.length_set,Oa,h]
  generalize hq:((b.ops).getD (k).toNat default)=q at*
  have rk:(ren N q).kind=q.kind:=rfl
  have rkk:(ren N q).k=q.k:=rfl
  generalize hR:ren N q=R at*
  have G:∀v w,v=cpN S k q→w=cpL S k q→(b.pc,b.len,b.fin,b.x,b.y,b.k,S.1++ [v],w,((b.ops.take k.toNat).map (ren N)++ [R])++b.ops.drop (k.toNat+1),())=(b.pc,b.len,b.fin,b.x,b.y,b.k,T.1,T.2,(b.ops.take (k+1).toNat).map (ren N)++b.ops.drop (k+1).toNat,()):=fun v w e1 e2=>by
   rw [nx,e1,e2,←tk,List.map_append,show(k+1).toNat=k.toNat+1 by omega,←hR];rfl
  have ss:∀i:Int,0≤i→i<S.2.length→S.2.set i.toNat ((S.2).getD (i).toNat default)=S.2:=fun i i0 i1=>by rw [getD_lt (show i.toNat<S.2.length by omega),List.set_getElem_self]
  by_cases c2:R.kind=2
  ·have kk:=kd (Or.inl (rk▸c2))
   by_cases c3:0≤((S.2).getD (R.k).toNat default)
   ·have g:=G (((S.2).getD (R.k).toNat default)) (S.2.set R.k.toNat ((S.2).getD (R.k).toNat default)) (by unfold cpN;rw [←rk,←rkk];rw [if_pos ⟨c2,c3⟩]) (by unfold cpL;rw [←rk,←rkk];rw [if_pos c2,if_pos c3,ss _ (by omega) (by omega)])
    simp only [c2,c3,show¬((2:Int)=8) by decide,true_and,and_true,true_implies,false_implies,not_true_eq_false,not_false_eq_true,false_or,decide_true,Bool.and_self,Bool.true_eq_false,hT,g]
    omega
   ·have g:=G k (S.2.set R.k.toNat k) (by unfold cpN;rw [←rk,←rkk];rw [if_neg (fun q=>c3 q.2)]) (by unfold cpL;rw [←rk,←rkk];rw [if_pos c2,if_neg c3])
    simp only [c2,c3,show¬((2:Int)=8) by decide,true_and,and_true,and_false,true_implies,false_implies,not_true_eq_false,not_false_eq_true,false_or,decide_true,decide_false,Bool.and_false,hT,g]
    omega
  ·by_cases c8:R.kind=8
   ·have kk:=kd (Or.inr (rk▸c8))
    have g:=G k (S.2.set R.k.toNat ((S.1).getD (q.x).toNat default)) (by unfold cpN;rw [←rk,←rkk];rw [if_neg (fun q=>c2 q.1)]) (by unfold cpL;rw [←rk,←rkk];rw [if_neg c2,if_pos c8])
    rw [←rx (rk▸c8)]at g
    simp only [c8,show¬((8:Int)=2) by decide,false_and,true_and,and_true,and_false,true_implies,false_implies,not_true_eq_false,not_false_eq_true,true_or,decide_false,Bool.false_and,hT,g]
    omega
   ·have g:=G k S.2 (by unfold cpN;rw [←rk,←rkk];rw [if_neg (fun q=>c2 q.1)]) (by unfold cpL;rw [←rk,←rkk];rw [if_neg c2,if_neg c8])
    simp only [c2,c8,false_and,true_and,and_true,and_false,true_implies,false_implies,not_true_eq_false,not_false_eq_true,true_or,decide_false,Bool.false_and,hT,g]
    omega
 ·have e:=fin h
  have ex:¬b.fin=1→0≤b.x∧b.x< ((cpS b.ops k.toNat).1.length:Int):=fun c=>by have:=en.x1 c;exact⟨this.1,by have:=this.2.1;omega⟩
  have ey:b.fin=3∨b.fin=4→0≤b.y∧b.y< ((cpS b.ops k.toNat).1.length:Int):=fun c=>by have:=en.y1 (by omega);exact⟨this.1,by have:=this.2.1;omega⟩
  have ff:=en.f
  have z:(b.ops.take k.toNat).map (ren (cpS b.ops b.ops.length).1)++b.ops.drop k.toNat=b.ops.map (ren (cpS b.ops b.ops.length).1):=by rw [List.take_of_length_le (by omega),List.drop_of_length_le (by omega),List.append_nil]
  have ln:(b.ops.map (ren (cpS b.ops b.ops.length).1)).length=b.ops.length:=List.length_map _
  rw [z]
  rw [e]at ex ey ⊢
  unfold bk7 afn
  generalize (cpS b.ops b.ops.length).1=N at*
  simp (disch:=omega) only [RR,RB,ln,h]
  refine⟨fun c=>⟨(ex c).1,(ex c).2,(ex c).1,(ex c).2,fun c2=>⟨(ey c2).1,(ey c2).2,(ey c2).1,(ey c2).2,?_⟩,fun c2=> ?_⟩,fun c=>⟨fun c2=>absurd c2 (by omega),fun c2=> ?_⟩⟩
  ·rw [if_neg c,if_pos (by omega)]
  ·rw [if_neg c,if_neg (by omega)]
  ·rw [if_pos c,if_neg (by omega)]
end Go.TX.F
namespace Go.TX.F
open Go Go.AE Go.TX
structure BkD (m:Int) (n:Nat) (b:List Int) (p:Int) (y:Int×Int×Int×Int×Int×Int×List Int×Int×List IOp×Unit):Prop where
 b:y.2.2.2.2.2.2.1=b
 lo:p≤y.2.2.2.2.2.2.2.1
 hi:y.2.2.2.2.2.2.2.1≤p+m
 len:y.2.2.2.2.2.2.2.2.1.length≤n
theorem apM {p1:Int×List Ins×Unit→Bool} {f1:Int×List Ins×Unit→Int×Int×Int×Int×Int×Int×List IOp×Unit} (hp1:∀pc l,(l.length:Int)<1000→KB l→p1 (pc,l,())=true) (hf1:∀pc l,(l.length:Int)<1000→KB l→((f1 (pc,l,())).2.2.2.2.2.2.1.length:Int)≤5000) {p2:Blk×Unit→Bool} {f2:Blk×Unit→Int×Int×Int×Int×Int×Int×List IOp×Unit} (hp2:∀b,b.ops.length<1000000→p2 (b,())=true) (hf2:∀b,b.ops.length<1000000→f2 (b,())=bk7 (Lh b)) {p3:Blk×Unit→Bool} {f3:Blk×Unit→Int×Int×Int×Int×Int×Int×List IOp×Unit} (hp3:∀b,b.ops.length<1000000→p3 (b,())=true) (hf3:∀b,b.ops.length<1000000→f3 (b,())=bk7 (jH b)) {p4:Int×List Int×Int×Unit→Bool} {f4:Int×List Int×Int×Unit→Int×List Int×Int×Unit} (hp4:∀n b p,Bt b→0≤p→p<1000000000→p4 (n,b,p,())=true) (hf4:∀n b p,Bt b→0≤p→p<1000000000→Pk n b p (f4 (n,b,p,()))) {p5:List Int×Int×Unit→Bool} {f5:List Int×Int×Unit→List Int×Int×List Ins×Unit} (hp5:∀b p,Bt b→0≤p→p<700000000→p5 (b,p,())=true) (hf5:∀b p,Bt b→0≤p→p<700000000→LiD b p (f5 (b,p,()))) (b:List Int) (p:Int) (hb:Bt b) (h1:0≤p) (h2:p<600000000):Xv (std 0).al p1 f1 p2 f2 p3 f3 p4 f4 p5 f5 (b,p,()) (fun y=>BkD 2000 5000 b p y):=by
 replace hf2:=fun c h=>show(f2 (c,())).2.2.2.2.2.2.1.length≤c.ops.length by rw [hf2 c h];exact DN c
 replace hf3:=fun c h=>show(f3 (c,())).2.2.2.2.2.2.1.length≤c.ops.length by rw [hf3 c h];exact tQ c
 obtain⟨a1,a2,a3,a4,a5⟩:=hf5 b p hb h1 (by omega)
 have R:=pkR hb hf4
 have P:=fun n p h1 h2=>hp4 n b p hb h1 h2
 have L:=fun pc=>hf1 pc _ (show((f5 (b,p,())).2.2.1.length:Int)<1000 by omega) a5
 have O1:=fun c (h:c.ops.length≤5000)=>hp2 c (by omega)
 have O2:=fun c (h:c.ops.length≤5000)=>hf2 c (by omega)
 have O3:=fun c (h:c.ops.length≤5000)=>hp3 c (by omega)
 have O4:=fun c (h:c.ops.length≤5000)=>hf3 c (by omega)
 dsimp only [Xv,Tup.q,Tup.o]
 simp (disch:=omega) only [RR,hp5 b p hb h1 (by omega),a1,R,P,hp1 _ _ (show((f5 (b,p,())).2.2.1.length:Int)<1000 by omega) a5,List.length_cons,List.length_nil]
 have L':∀pc,(f1 (pc,(f5 (b,p,())).2.2.1,())).2.2.2.2.2.2.1.length≤5000:=fun pc=>by have:=L pc;omega
 refine⟨fun _=>⟨O1 _ (L' _),rfl,by dsimp only;omega,by dsimp only;omega,Nat.le_trans (O2 _ (L' _)) (L' _)⟩,fun _=>⟨fun _=>⟨O3 _ (L' _),rfl,by dsimp only;omega,by dsimp only;omega,Nat.le_trans (O4 _ (L' _)) (L' _)⟩,fun _=>⟨rfl,by dsimp only;omega,by dsimp only;omega,L' _⟩⟩⟩
theorem apN {p1:Int×List Int×Int×Unit→Bool} {f1:Int×List Int×Int×Unit→Int×List Int×Int×Unit} (hp1:∀n b p,Bt b→0≤p→p<1000000000→p1 (n,b,p,())=true) (hf1:∀n b p,Bt b→0≤p→p<1000000000→Pk n b p (f1 (n,b,p,()))) {p2:Blk×Unit→Bool} {f2:Blk×Unit→Int×Int×Int×Int×Int×Int×List IOp×Unit} (hp2:∀b,b.ops.length<1000000→p2 (b,())=true) (hf2:∀b,b.ops.length<1000000→f2 (b,())=(b.pc,b.len,b.fin,b.x,b.y,b.k,b.ops,())) (c:Blk) (b:List Int) (p:Int) (ok:gH c) (hc:c.ops.length<1000000) (hb:Bt b) (h1:0≤p) (h2:p<600000000):XB (std 0).al p1 f1 p2 f2 (c,b,p,()) (fun y=>BkD 1000000 c.ops.length b p y):=by
 dsimp only [XB,Tup.q,Tup.o]
 simp (disch:=omega) only [RR,RB,hp2 c hc,hf2 c hc]
 refine ak (fun(y:Int×List Int×Int×Int×Int×Int×Int×Int×Int×Int×Int×Int×Int×Int×Int×List IOp×Unit)=>0≤y.1∧y.1≤c.ops.length∧y.2.1=b∧p≤y.2.2.1∧y.2.2.1≤p+y.1∧y.2.2.2.2.2.2.2.2.2.2.2.2.2.2.2.1.length=c.ops.length∧∀j:Int,y.1≤j→((y.2.2.2.2.2.2.2.2.2.2.2.2.2.2.2.1).getD (j).toNat default)=((c.ops).getD (j).toNat default)) (fun y=>((c.ops.length:Int)-y.1).toNat) ⟨by dsimp only;omega,by dsimp only;omega,rfl,by dsimp only;omega,by dsimp only;omega,rfl,fun _ _=>rfl⟩ ?_
 rintro⟨(k:Int),(b':List Int),(q:Int),u1,u2,u3,u4,u5,u6,b1,b2,b3,b4,b5,b6,(ops:List IOp),⟨⟩⟩ hI
 dsimp only at hI ⊢
 obtain⟨k1,k2,rfl,k3,k4,k5,k6⟩:=hI
 have e:=k6 k (Int.le_refl _)
 have R:=pkR hb hf1
 have P:=fun n p h1 h2=>hp1 n b' p hb h1 h2
 simp (disch:=omega) only [RR,RB,e,R,P,List.length_set,Bool.and_eq_false_iff]
 refine⟨fun h=> ?_,fun h=>⟨rfl,k3,by dsimp only;omega,Nat.le_of_eq k5⟩⟩
 have oy:((c.ops).getD (k).toNat default).kind=3→0≤((c.ops).getD (k).toNat default).y∧((c.ops).getD (k).toNat default).y<k:=fun c3=>by have:=(ok.op k k1 (by omega)).y1 (Or.inl c3);exact⟨this.1,this.2.1⟩
 have S:∀(X:List IOp) v (j:Int),k+1≤j→(X.set k.toNat v).getD j.toNat default=X.getD j.toNat default:=fun X v j hj=>by
  simp only [List.getD,List.getElem?_set_ne (show k.toNat≠j.toNat by omega)]
 repeat' (first | (refine⟨?_,?_⟩) | intro _)
 all_goals first | omega | rfl | exact k6 _ (by omega) | (simp (disch:=omega) only [S];exact k6 _ (by omega))
end Go.TX.F
namespace Go.TX.F
open Go Go.AE Go.TX
theorem apO {p1:Int×List Int×Int×Unit→Bool} {f1:Int×List Int×Int×Unit→Int×List Int×Int×Unit} (hp1:∀n b p,Bt b→0≤p→p<1000000000→p1 (n,b,p,())=true) (hf1:∀n b p,Bt b→0≤p→p<1000000000→Pk n b p (f1 (n,b,p,()))) {p2:Blk×Unit→Bool} {f2:Blk×Unit→Int×Int×Int×Int×Int×Int×List IOp×Unit} (hp2:∀b,b.ops.length<1000000→p2 (b,())=true) (hf2:∀b,b.ops.length<1000000→f2 (b,())=(b.pc,b.len,b.fin,b.x,b.y,b.k,b.ops,())) (c:Blk) (b:List Int) (p:Int) (hc:c.ops.length<1000000) (hb:Bt b) (h1:0≤p) (h2:p<900000000):N7 (std 0).al p1 f1 p2 f2 (c,b,p,()) (fun y=>BkD 20 c.ops.length b p y):=by
 have R:=pkR hb hf1
 have P:=fun n p h1 h2=>hp1 n b p hb h1 h2
 by_cases z:(c.ops.length:Int)=0
 ·dsimp only [N7,Tup.q,Tup.o]
  simp (disch:=omega) only [RR,RB,hp2 c hc,hf2 c hc,z]
  exact⟨rfl,by dsimp only;omega,by dsimp only;omega,Nat.le_refl _⟩
 have B:=(hf1 c.ops.length b p hb h1 (by omega)).2.2
 have W:IntKind.i64.wrap ((f1 (c.ops.length,b,p,())).1-1)=(f1 (c.ops.length,b,p,())).1-1:=w64 (by omega) (by omega)
 dsimp only [N7,Tup.q,Tup.o]
 simp (disch:=omega) only [RR,RB,hp2 c hc,hf2 c hc,R,P,z,List.length_set,W]
 repeat' (first | (refine And.intro ?_ ?_) | intro _)
 all_goals first | omega | exact⟨rfl,by dsimp only;omega,by dsimp only;omega,by dsimp only [aeU];simp only [List.length_set,List.length_take,List.length_drop];omega⟩ | exact⟨rfl,by dsimp only;omega,by dsimp only;omega,by simp only [List.length_drop,List.length_take];omega⟩ | exact⟨rfl,by dsimp only;omega,by dsimp only;omega,Nat.le_refl _⟩
structure BoD (b:List Int) (p:Int) (y:Blk×List Int×Int×Unit):Prop where
 len:y.1.ops.length<100000
 b:y.2.1=b
 lo:p≤y.2.2.1
 hi:y.2.2.1≤p+5000
theorem apP {p1:Int×List Int×Int×Unit→Bool} {f1:Int×List Int×Int×Unit→Bool×List Int×Int×Unit} (hp1:∀n b p,Bt b→0≤p→p<1000000000→p1 (n,b,p,())=true) (hf1:∀n b p,Bt b→0≤p→p<1000000000→(f1 (n,b,p,())).2.1=b∧(f1 (n,b,p,())).2.2.1=p+1) {p2:Int×List Int×Int×Unit→Bool} {f2:Int×List Int×Int×Unit→Int×List Int×Int×Unit} (hp2:∀n b p,Bt b→0≤p→p<1000000000→p2 (n,b,p,())=true) (hf2:∀n b p,Bt b→0≤p→p<1000000000→Pk n b p (f2 (n,b,p,()))) {p3:Blk×List Int×Int×Unit→Bool} {f3:Blk×List Int×Int×Unit→Int×Int×Int×Int×Int×Int×List Int×Int×List IOp×Unit} (hp3:∀c b p,c.ops.length<1000000→Bt b→0≤p→p<900000000→p3 (c,b,p,())=true) (hf3:∀c b p,c.ops.length<1000000→Bt b→0≤p→p<900000000→BkD 20 c.ops.length b p (f3 (c,b,p,()))) {p4:List Int×Int×Unit→Bool} {f4:List Int×Int×Unit→Int×Int×Int×Int×Int×Int×List Int×Int×List IOp×Unit} (hp4:∀b p,Bt b→0≤p→p<600000000→p4 (b,p,())=true) (hf4:∀b p,Bt b→0≤p→p<600000000→BkD 2000 5000 b p (f4 (b,p,()))) (n:Int) (b:List Int) (p:Int) (hb:Bt b) (h1:0≤p) (h2:p<500000000):XA (std 0).al p1 f1 p2 f2 p3 f3 p4 f4 (n,b,p,()) (fun y=>BoD b p y):=by
 obtain⟨a1,a2,a3,a4⟩:=hf4 b p hb h1 (by omega)
 have H4:=hp4 b p hb h1 (by omega)
 have R:=pkR hb hf2
 have P:=fun n p h1 h2=>hp2 n b p hb h1 h2
 have R1:=fun n p h1 h2=>(hf1 n b p hb h1 h2).1
 have R2:=fun n p h1 h2=>(hf1 n b p hb h1 h2).2
 have P1:=fun n p h1 h2=>hp1 n b p hb h1 h2
 dsimp only [XA,Tup.q,Tup.o]
 simp (disch:=omega) only [RR,RB,H4,a1,R,P,R1,R2,P1,List.length_cons,List.length_nil,List.length_append]
 repeat' (first | (refine And.intro ?_ ?_) | intro _)
 all_goals try omega
 all_goals try exact BoD.mk (show(f4 (b,p,())).2.2.2.2.2.2.2.2.1.length<100000 by omega) rfl (by dsimp only;omega) (by dsimp only;omega)
 all_goals try exact hp3 _ _ _ (show(f4 (b,p,())).2.2.2.2.2.2.2.2.1.length<1000000 by omega) hb (by omega) (by omega)
 all_goals try exact BoD.mk (show(_++ [_]).length<100000 by rw [List.length_append,List.length_singleton];omega) rfl (by dsimp only;omega) (by dsimp only;omega)
 all_goals try exact(fun h=>BoD.mk (Nat.lt_of_le_of_lt h.len (show(f4 (b,p,())).2.2.2.2.2.2.2.2.1.length<100000 by omega)) h.b (by have:=h.lo;dsimp only;omega) (by have:=h.hi;dsimp only;omega)) (hf3 _ _ _ (show(f4 (b,p,())).2.2.2.2.2.2.2.2.1.length<1000000 by omega) hb (by omega) (by omega))
 all_goals
  refine ak (fun(y:List Int×Int×Int×Int×Int×Int×Int×Int×Int×Int×Int×Int×Int×Int×List IOp×Unit)=>y.1=b∧p≤y.2.1∧y.2.1≤p+5000∧y.2.2.2.2.2.2.2.2.2.2.2.2.2.2.1.length<50000) (fun y=>50-y.2.2.2.2.2.2.2.2.2.2.2.2.2.2.1.length) ⟨rfl,by dsimp only;omega,by dsimp only;omega,by dsimp only;omega⟩ ?_
  rintro⟨(b':List Int),(q:Int),u1,u2,u3,u4,u5,u6,b1,b2,b3,b4,b5,b6,(ops:List IOp),⟨⟩⟩ hI
  dsimp only at hI ⊢
  obtain⟨rfl,h3,h4,h5⟩:=hI
  simp (disch:=omega) only [RR,List.length_append,List.length_cons,List.length_nil]
  refine⟨fun h=>⟨by omega,⟨by omega,by omega,by omega⟩,by omega⟩,fun h=>⟨show ops.length<100000 by omega,rfl,by dsimp only;omega,by dsimp only;omega⟩⟩
end Go.TX.F
namespace Go.TX.F
open Go Go.AE Go.TX
theorem apQ {p1:Blk×Unit→Bool} {f1:Blk×Unit→Bool×Unit} (hp1:∀b,b.ops.length<1000000000→p1 (b,())=true) (hf1:∀b,b.ops.length<1000000000→f1 (b,())=(bp (gH b),())) {p2:Blk×Unit→Bool} {f2:Blk×Unit→Int×Int×Int×Int×Int×Int×List IOp×Unit} (hp2:∀b,b.ops.length<1000000→p2 (b,())=true) (hf2:∀b,b.ops.length<1000000→f2 (b,())=bk7 (Lh b)) {p3:Blk×Unit→Bool} {f3:Blk×Unit→Int×Int×Int×Int×Int×Int×List IOp×Unit} (hp3:∀b,b.ops.length<1000000→p3 (b,())=true) (hf3:∀b,b.ops.length<1000000→f3 (b,())=bk7 (jH b)) {p4:Int×List Int×Int×Unit→Bool} {f4:Int×List Int×Int×Unit→Int×List Int×Int×Unit} (hp4:∀n b p,Bt b→0≤p→p<1000000000→p4 (n,b,p,())=true) (hf4:∀n b p,Bt b→0≤p→p<1000000000→Pk n b p (f4 (n,b,p,()))) {p5:Blk×List Int×Int×Unit→Bool} {f5:Blk×List Int×Int×Unit→Int×Int×Int×Int×Int×Int×List Int×Int×List IOp×Unit} (hp5:∀c b p,c.ops.length<1000000→Bt b→0≤p→p<900000000→p5 (c,b,p,())=true) (hf5:∀c b p,c.ops.length<1000000→Bt b→0≤p→p<900000000→BkD 20 c.ops.length b p (f5 (c,b,p,()))) {p6:Int×List Int×Int×Unit→Bool} {f6:Int×List Int×Int×Unit→Blk×List Int×Int×Unit} (hp6:∀n b p,Bt b→0≤p→p<500000000→p6 (n,b,p,())=true) (hf6:∀n b p,Bt b→0≤p→p<500000000→BoD b p (f6 (n,b,p,()))) {p7:Blk×List Int×Int×Unit→Bool} {f7:Blk×List Int×Int×Unit→Int×Int×Int×Int×Int×Int×List Int×Int×List IOp×Unit} (hp7:∀c b p,gH c→c.ops.length<1000000→Bt b→0≤p→p<600000000→p7 (c,b,p,())=true) (hf7:∀c b p,gH c→c.ops.length<1000000→Bt b→0≤p→p<600000000→BkD 1000000 c.ops.length b p (f7 (c,b,p,()))) (n:Int) (b:List Int) (p:Int) (hb:Bt b) (h1:0≤p) (h2:p<400000000):XC (std 0).al p1 f1 p2 f2 p3 f3 p4 f4 p5 f5 p6 f6 p7 f7 (n,b,p,()) (fun(y:Blk×Blk×List Int×Int×Unit)=>y.1.ops.length<100000∧y.2.1.ops.length<100000∧y.2.2.1=b∧p≤y.2.2.2.1∧y.2.2.2.1≤p+10000000):=by
 replace hf2:=fun c h=>show(f2 (c,())).2.2.2.2.2.2.1.length≤c.ops.length by rw [hf2 c h];exact DN c
 replace hf3:=fun c h=>show(f3 (c,())).2.2.2.2.2.2.1.length≤c.ops.length by rw [hf3 c h];exact tQ c
 have R:=pkR hb hf4
 have P:=fun n p h1 h2=>hp4 n b p hb h1 h2
 obtain⟨a1,a2,a3,a4⟩:=hf6 n b p hb h1 (by omega)
 have ne:=fun(m:Int) h1 h2=>hf6 n b m hb h1 h2
 generalize hz:(f6 (n,b,p,())).1=z at a1
 generalize hq:(f6 (n,b,p,())).2.2.1=q at a3 a4
 have D1:=hp2 z (by omega)
 have D2:=hf2 z (by omega)
 have D3:=hp3 z (by omega)
 have D4:=hf3 z (by omega)
 have B1:=fun c m (h:c.ops.length<1000000) h1 h2=>hp5 c b m h hb h1 h2
 have B2:=fun c m (h:c.ops.length<1000000) h1 h2=>hf5 c b m h hb h1 h2
 dsimp only [XC,Tup.q,Tup.o]
 simp (disch:=omega) only [RR,hp6 n b p hb h1 (by omega),hz,a2,hq,hp1 z (by omega),hf1 z (by omega),R,P,D1,D3]
 refine⟨fun _=>⟨a1,a1,by omega,by omega⟩,fun h=> ?_⟩
 have ok:=aT.1 h
 have c0:=hf7 z b (q+1) ok (by omega) hb (by omega) (by omega)
 have d0:=hp7 z b (q+1) ok (by omega) hb (by omega) (by omega)
 have l1:(f2 (z,())).2.2.2.2.2.2.1.length<1000000:=by omega
 have cl:=c0.len
 have ch:=c0.hi
 have cw:=c0.lo
 have cb:=c0.b
 refine⟨fun _=>⟨d0,a1,Nat.lt_of_le_of_lt cl a1,cb,by omega,by omega⟩,fun _=>⟨fun _=>⟨a1,Nat.lt_of_le_of_lt D2 a1,by omega,by omega⟩,fun _=>⟨fun _=>⟨d0,hp2 _ (Nat.lt_of_le_of_lt cl (by omega)),a1,Nat.lt_of_le_of_lt (hf2 _ (Nat.lt_of_le_of_lt cl (by omega))) (Nat.lt_of_le_of_lt cl a1),cb,by omega,by omega⟩,fun _=>⟨fun _=> ?_,fun _=>⟨fun _=> ?_,fun _=>⟨fun _=> ?_,fun _=>⟨fun _=> ?_,fun _=>⟨fun _=> ?_,fun _=> ?_⟩⟩⟩⟩⟩⟩⟩⟩
 ·have:=B2 z (q+1) (by omega) (by omega) (by omega)
  exact⟨B1 z (q+1) (by omega) (by omega) (by omega),a1,Nat.lt_of_le_of_lt this.len a1,this.b,by have:=this.lo;omega,by have:=this.hi;omega⟩
 ·have:=B2 (axb (f2 (z,()))) (q+1) l1 (by omega) (by omega)
  exact⟨B1 (axb (f2 (z,()))) (q+1) l1 (by omega) (by omega),a1,Nat.lt_of_le_of_lt this.len (Nat.lt_of_le_of_lt D2 a1),this.b,Int.le_trans (by omega) this.lo,Int.le_trans this.hi (by omega)⟩
 ·exact⟨Nat.lt_of_le_of_lt D2 a1,a1,by omega,by omega⟩
 ·obtain⟨g1,g2,g3,g4⟩:=hf6 n b (q+1) hb (by omega) (by omega)
  exact⟨hp6 n b (q+1) hb (by omega) (by omega),a1,g1,g2,by omega,by omega⟩
 ·exact⟨a1,Nat.lt_of_le_of_lt D4 a1,by omega,by omega⟩
 ·exact⟨a1,a1,by omega,by omega⟩
end Go.TX.F
namespace Go.TX.F
open Go Go.AE Go.TX
end Go.TX.F
namespace Go.TX.F
open Go Go.AE Go.TX
end Go.TX.F
namespace Go.TX.F
open Go Go.AE Go.TX
theorem afD (x y:IOp):ata .iop x y=decide (x=y):=rfl
theorem A8 {P:Prop} [Decidable P]:decide P=bp P:=by unfold bp;congr
theorem aiS (a b:List IOp) (ha:a.length<1000000000):ac4 (std 0).al (a,b,()) (fun y=>y=(bp (a=b),())):=by
 dsimp only [ac4,Tup.q,Tup.o]
 simp (disch:=omega) only [RR]
 refine⟨fun h=> ?_,fun h=> ?_⟩
 ·rw [dD (fun e=>h (by rw [e]))]
 have hl:a.length=b.length:=by omega
 refine ak (fun(y:List IOp×List IOp×Int×Int×Unit)=>y.1=a∧y.2.1=b∧y.2.2.1=a.length∧0≤y.2.2.2.1∧y.2.2.2.1≤a.length∧All y.2.2.2.1 (fun i=>a.getD i.toNat default=b.getD i.toNat default)) (fun y=>(a.length-y.2.2.2.1).toNat) ⟨rfl,rfl,rfl,by simp,by simp,All.zero⟩ ?_
 rintro⟨(l1:List IOp),(l2:List IOp),(n:Int),(i:Int),⟨⟩⟩ hI
 dsimp only at hI ⊢
 obtain⟨rfl,rfl,rfl,h1,h2,h3⟩:=hI
 simp (disch:=omega) only [RR,afD]
 refine⟨fun h4=>⟨by omega,by omega,by omega,by omega,fun h5=> ?_,fun h5=>⟨⟨by omega,by omega,h3.snoc h5⟩,by omega⟩⟩,fun h4=> ?_⟩
 ·rw [dD]
  intro e;rw [e]at h5;exact h5 rfl
 ·rw [dz (nJ hl (h3.le (by omega)))]
theorem axc {p1:List IOp×List IOp×Unit→Bool} {f1:List IOp×List IOp×Unit→Bool×Unit} (hp1:∀a b,a.length<1000000000→p1 (a,b,())=true) (hf1:∀a b,a.length<1000000000→f1 (a,b,())=(bp (a=b),())) (a b:Blk) (ha:a.ops.length<1000000000):ac5 (std 0).al p1 f1 (a,b,()) (fun y=>y=(bp (a=b),())):=by
 dsimp only [ac5,Tup.q,Tup.o]
 simp (disch:=omega) only [RR,RB,hp1 _ _ ha,hf1 _ _ ha]
 simp only [A8,←mK]
 refine Prod.ext (lJ ?_) rfl
 cases a;cases b;simp only [Blk.mk.injEq]
 constructor<;>(intro h;simp only [h,and_self])
theorem axd {p1:List aj×List aj×Unit→Bool} {f1:List aj×List aj×Unit→Bool×Unit} (hp1:∀a b,Sh a→p1 (a,b,())=true) (hf1:∀a b,Sh a→f1 (a,b,())=(decide (fQ a b=0),())) (a b:List aj) (ha:Sh a):aej (std 0).al p1 f1 (a,b,()) (fun y=>y=(decide (fQ a b=0),())):=by
 dsimp only [aej,Tup.q,Tup.o]
 simp (disch:=omega) only [RR,hp1 _ _ ha,hf1 _ _ ha]
theorem axe {p1:List aj×List aj×Unit→Bool} {f1:List aj×List aj×Unit→Bool×Unit} (hp1:∀a b,Sh a→p1 (a,b,())=true) (hf1:∀a b,Sh a→f1 (a,b,())=(decide (fQ a b=0),())) (a b:List (List aj)) (ha:ShP a):aek (std 0).al p1 f1 (a,b,()) (fun y=>y=(bp (a=b),())):=by
 have hlen:=ha.1
 dsimp only [aek,Tup.q,Tup.o]
 simp (disch:=omega) only [RR]
 refine⟨fun h=> ?_,fun h=> ?_⟩
 ·rw [dD (fun e=>h (by rw [e]))]
 have hl:a.length=b.length:=by omega
 refine ak (fun(y:List (List aj)×List (List aj)×Int×Int×Unit)=>y.1=b∧y.2.1=a∧y.2.2.1=a.length∧0≤y.2.2.2.1∧y.2.2.2.1≤a.length∧All y.2.2.2.1 (fun i=>a.getD i.toNat default=b.getD i.toNat default)) (fun y=>(a.length-y.2.2.2.1).toNat) ⟨rfl,rfl,rfl,by simp,by simp,All.zero⟩ ?_
 rintro⟨(l1:List (List aj)),(l2:List (List aj)),(n:Int),(i:Int),⟨⟩⟩ hI
 dsimp only at hI ⊢
 obtain⟨rfl,rfl,rfl,h1,h2,h3⟩:=hI
 simp (disch:=omega) only [RR,hp1 _ _ (ha.at _),hf1 _ _ (ha.at _),iR]
 refine⟨fun h4=>⟨by omega,by omega,by omega,by omega,fun h5=> ?_,fun h5=>⟨⟨by omega,by omega,h3.snoc h5⟩,by omega⟩⟩,fun h4=> ?_⟩
 ·rw [dD]
  intro e;rw [e]at h5;exact h5 rfl
 ·rw [dz (nJ hl (h3.le (by omega)))]
theorem axf {p1:List (List aj)×List (List aj)×Unit→Bool} {f1:List (List aj)×List (List aj)×Unit→Bool×Unit} (hp1:∀a b,ShP a→p1 (a,b,())=true) (hf1:∀a b,ShP a→f1 (a,b,())=(bp (a=b),())) (a b:List (List aj)) (ha:ShP a):ael (std 0).al p1 f1 (a,b,()) (fun y=>y=(bp (a=b),())):=by
 dsimp only [ael,Tup.q,Tup.o]
 simp (disch:=omega) only [RR,hp1 _ _ ha,hf1 _ _ ha]
theorem axg {p1:List aj×List aj×Unit→Bool} {f1:List aj×List aj×Unit→Bool×Unit} (hp1:∀a b,Sh a→p1 (a,b,())=true) (hf1:∀a b,Sh a→f1 (a,b,())=(decide (fQ a b=0),())) {p2:List (List aj)×List (List aj)×Unit→Bool} {f2:List (List aj)×List (List aj)×Unit→Bool×Unit} (hp2:∀a b,ShP a→p2 (a,b,())=true) (hf2:∀a b,ShP a→f2 (a,b,())=(bp (a=b),())) (a b:Ev) (ha:ShE a):aem (std 0).al p1 f1 p2 f2 (a,b,()) (fun y=>y=(bp (a=b),())):=by
 dsimp only [aem,Tup.q,Tup.o]
 simp (disch:=omega) only [RR,RB,hp1 _ _ ha.1,hf1 _ _ ha.1,hp1 _ _ ha.2.1,hf1 _ _ ha.2.1,hp2 _ _ ha.2.2,hf2 _ _ ha.2.2,iR]
 simp only [A8,←mK]
 refine Prod.ext (lJ ?_) rfl
 cases a;cases b;simp only [Ev.mk.injEq]
 constructor<;>(intro h;simp only [h,and_self])
theorem axh {p1:Ev×Ev×Unit→Bool} {f1:Ev×Ev×Unit→Bool×Unit} (hp1:∀a b,ShE a→p1 (a,b,())=true) (hf1:∀a b,ShE a→f1 (a,b,())=(bp (a=b),())) (a b:List Ev) (ha:abp a):aep (std 0).al p1 f1 (a,b,()) (fun y=>y=(bp (a=b),())):=by
 have hlen:=ha.1
 dsimp only [aep,Tup.q,Tup.o]
 simp (disch:=omega) only [RR]
 refine⟨fun h=> ?_,fun h=> ?_⟩
 ·rw [dD (fun e=>h (by rw [e]))]
 have hl:a.length=b.length:=by omega
 refine ak (fun(y:List Ev×List Ev×Int×Int×Unit)=>y.1=b∧y.2.1=a∧y.2.2.1=a.length∧0≤y.2.2.2.1∧y.2.2.2.1≤a.length∧All y.2.2.2.1 (fun i=>a.getD i.toNat default=b.getD i.toNat default)) (fun y=>(a.length-y.2.2.2.1).toNat) ⟨rfl,rfl,rfl,by simp,by simp,All.zero⟩ ?_
 rintro⟨(l1:List Ev),(l2:List Ev),(n:Int),(i:Int),⟨⟩⟩ hI
 dsimp only at hI ⊢
 obtain⟨rfl,rfl,rfl,h1,h2,h3⟩:=hI
 simp (disch:=omega) only [RR,hp1 _ _ (ha.at _),hf1 _ _ (ha.at _),aT,jv]
 refine⟨fun h4=>⟨by omega,by omega,by omega,by omega,fun h5=> ?_,fun h5=>⟨⟨by omega,by omega,h3.snoc h5⟩,by omega⟩⟩,fun h4=> ?_⟩
 ·rw [dD]
  intro e;rw [e]at h5;exact h5 rfl
 ·rw [dz (nJ hl (h3.le (by omega)))]
theorem axi {p1:List aj×List aj×Unit→Bool} {f1:List aj×List aj×Unit→Bool×Unit} (hp1:∀a b,Sh a→p1 (a,b,())=true) (hf1:∀a b,Sh a→f1 (a,b,())=(decide (fQ a b=0),())) {p2:List (List aj)×List (List aj)×Unit→Bool} {f2:List (List aj)×List (List aj)×Unit→Bool×Unit} (hp2:∀a b,ShP a→p2 (a,b,())=true) (hf2:∀a b,ShP a→f2 (a,b,())=(bp (a=b),())) {p3:List Ev×List Ev×Unit→Bool} {f3:List Ev×List Ev×Unit→Bool×Unit} (hp3:∀b a,abp b→p3 (b,a,())=true) (hf3:∀b a,abp b→f3 (b,a,())=(bp (b=a),())) (a b:Sym) (ha:ShY a):aer (std 0).al p1 f1 p2 f2 p3 f3 (a,b,()) (fun y=>y=(bp (a=b),())):=by
 dsimp only [aer,Tup.q,Tup.o]
 simp (disch:=omega) only [RR,RB,hp1 _ _ ha.x,hf1 _ _ ha.x,hp1 _ _ ha.y,hf1 _ _ ha.y,hp2 _ _ ha.r,hf2 _ _ ha.r,hp3 _ _ ha.e,hf3 _ _ ha.e,iR]
 simp only [A8,←mK]
 refine Prod.ext (lJ ?_) rfl
 cases a;cases b;simp only [Sym.mk.injEq]
 constructor<;>(intro h;simp only [h,and_self])
theorem axj {p1:Blk×Unit→Bool} {f1:Blk×Unit→Bool×Unit} (hp1:∀b,b.ops.length<1000000000→p1 (b,())=true) (hf1:∀b,b.ops.length<1000000000→f1 (b,())=(bp (gH b),())) {p2:Blk×Blk×Unit→Bool} {f2:Blk×Blk×Unit→Bool×Unit} (hp2:∀a b,a.ops.length<1000000000→p2 (a,b,())=true) (hf2:∀a b,a.ops.length<1000000000→f2 (a,b,())=(bp (a=b),())) {p3:Unit→Bool} {f3:Unit→List Atom×List (List aj)×Unit} (hp3:p3 ()=true) (hf3:(f3 ()).1=t4) {p4:List Atom×Blk×Unit→Bool} {f4:List Atom×Blk×Unit→List Atom×Sym×Unit} (hp4:∀t b,ShT t→b.ops.length<1000000000→p4 (t,b,())=true) (hf4:∀t b,ShT t→b.ops.length<1000000000→f4 (t,b,())=((dH t b).1,(dH t b).2,())) {p5:Sym×Sym×Unit→Bool} {f5:Sym×Sym×Unit→Bool×Unit} (hp5:∀a b,ShY a→p5 (a,b,())=true) (hf5:∀a b,ShY a→f5 (a,b,())=(bp (a=b),())) (b c:Blk) (hb:b.ops.length<1000000000) (hc:c.ops.length<1000000000):aes (std 0).al p1 f1 p2 f2 p3 f3 p4 f4 p5 f5 (b,c,()) (fun y=>y=(chk b c,())):=by
 have s4:ShT t4:=afm.1.sh
 have y1:=Ca t4 b
 dsimp only [aes,Tup.q,Tup.o]
 simp (disch:=omega) only [RR,RB,hp1 b hb,hf1 b hb,hp1 c hc,hf1 c hc,hp2 b c hb,hf2 b c hb,hp3,hf3,hp4 t4 b s4 hb,hf4 t4 b s4 hb,hp4 _ c y1.2 hc,hf4 _ c y1.2 hc,hp5 _ _ y1.1,hf5 _ _ y1.1,aT,jv]
 unfold chk
 refine⟨fun h=> ?_,fun h=>⟨fun e=> ?_,fun e=> ?_⟩⟩
 ·rw [dD];rintro⟨h1,h2,h3,h4,_⟩;simp_all
 ·rw [dz];exact⟨h.1.1.1,h.1.1.2,h.1.2,h.2,Or.inl e⟩
 ·refine Prod.ext (lJ ?_) rfl
  exact⟨fun g=>⟨h.1.1.1,h.1.1.2,h.1.2,h.2,Or.inr g⟩,fun g=>g.2.2.2.2.resolve_left e⟩
end Go.TX.F
namespace Go.TX.F
open Go Go.AE Go.TX
structure aAs (nm:List Int) (fin x y:Int) (ops:List IOp):Prop where
 op:∀i:Int,0≤i→i<ops.length→(hX ((ops).getD (i).toNat default)→0≤(((ops).getD (i).toNat default)).x∧(((ops).getD (i).toNat default)).x<nm.length)∧(hY ((ops).getD (i).toNat default)→0≤(((ops).getD (i).toNat default)).y∧(((ops).getD (i).toNat default)).y<nm.length)
 x:fin≠1→0≤x∧x<nm.length
 y:3≤fin→0≤y∧y<nm.length
 l:ops.length<1000000000
theorem aiT (b:Blk) (hb:b.ops.length<1000000000):aeG (std 0).al (b,()) (fun y=>y=bk7 b):=by
 dsimp only [aeG,Tup.q,Tup.o]
 simp (disch:=omega) only [RR,RB]
 omega
end Go.TX.F
namespace Go.TX.F
open Go Go.AE Go.TX
end Go.TX.F
namespace Go.TX.F
open Go Go.AE Go.TX
theorem aiU (a b:Blk) (ha:a.ops.length<1000000000):aeJ (std 0).al (a,b,()) (fun y=>y=(bp (a=b),())):=by
 dsimp only [aeJ,Tup.q,Tup.o]
 simp (disch:=omega) only [RR,RB]
 refine⟨fun h=> ?_,fun h=> ?_⟩
 ·rw [dD];rintro rfl;simp at h
 have hl:a.ops.length=b.ops.length:=by omega
 refine ak (fun(y:Int×Blk×Blk×Unit)=>y.2.1=a∧y.2.2.1=b∧0≤y.1∧y.1≤a.ops.length∧All y.1 (fun i=>a.ops.getD i.toNat default=b.ops.getD i.toNat default)) (fun y=>(a.ops.length-y.1).toNat) ⟨rfl,rfl,by simp,by simp,All.zero⟩ ?_
 rintro⟨(i:Int),(a':Blk),(b':Blk),⟨⟩⟩ hI
 dsimp only at hI ⊢
 obtain⟨rfl,rfl,h1,h2,h3⟩:=hI
 simp (disch:=omega) only [RR,RB,afD]
 refine⟨fun h4=>⟨by omega,by omega,by omega,by omega,fun h5=> ?_,fun h5=>⟨⟨by omega,by omega,h3.snoc h5⟩,by omega⟩⟩,fun h4=> ?_⟩
 ·rw [dD];rintro rfl;exact h5 rfl
 ·have e:=nJ hl (h3.le (by omega))
  rw [dz]
  cases a';cases b';simp_all
end Go.TX.F
namespace Go.TX.F
open Go Go.AE Go.TX
end Go.TX.F
namespace Go.TX.F
open Go Go.AE Go.TX
def ShC (l:List Cer):Prop:=l.length<1000∧∀q∈l,q.base.ops.length<1000000∧q.made.ops.length<1000000
def Tv (l:List Cer) (b c:Blk):Prop:=∃q∈l,q.base=b∧q.made=c
def Li (l:List Cer):Prop:=l.length≤3∧∀q∈l,chk q.base q.made=true
theorem ShC.at {l:List Cer} (h:ShC l) (i:Nat):(l.getD i default).base.ops.length<1000000∧(l.getD i default).made.ops.length<1000000:=by
 by_cases c:i<l.length
 ·rw [getD_lt c];exact h.2 _ (List.getElem_mem _)
 ·rw [List.getD_eq_getElem?_getD,List.getElem?_eq_none (by omega)];exact⟨by decide,by decide⟩
theorem ShC.add {l:List Cer} (h:ShC l) (n:l.length<999) {q:Cer} (h1:q.base.ops.length<1000000) (h2:q.made.ops.length<1000000):ShC (l++ [q]):=by
 refine⟨by rw [List.length_append,List.length_singleton];omega,fun c g=> ?_⟩
 rw [List.mem_append,List.mem_singleton]at g
 rcases g with g | rfl
 ·exact h.2 c g
 ·exact⟨h1,h2⟩
def ShD (l:List Cer):Prop:=l.length<1000000000∧∀q∈l,q.base.ops.length<1000000000∧q.made.ops.length<1000000000
theorem ShC.d {l:List Cer} (h:ShC l):ShD l:=⟨by have:=h.1;omega,fun q g=>by have:=h.2 q g;omega⟩
theorem ShD.at {l:List Cer} (h:ShD l) (i:Nat):(l.getD i default).base.ops.length<1000000000∧(l.getD i default).made.ops.length<1000000000:=by
 by_cases c:i<l.length
 ·rw [getD_lt c];exact h.2 _ (List.getElem_mem _)
 ·rw [List.getD_eq_getElem?_getD,List.getElem?_eq_none (by omega)];exact⟨by decide,by decide⟩
theorem CRB:(∀q:Cer,gW .cer 0 q=q.base.pc)∧(∀q:Cer,gW .cer 1 q=q.base.len)∧(∀q:Cer,nS .cer 2 .iop q=q.base.ops)∧(∀q:Cer,gW .cer 3 q=q.base.fin)∧(∀q:Cer,gW .cer 4 q=q.base.x)∧(∀q:Cer,gW .cer 5 q=q.base.y)∧(∀q:Cer,gW .cer 6 q=q.base.k)∧
  (∀q:Cer,gW .cer 7 q=q.made.pc)∧(∀q:Cer,gW .cer 8 q=q.made.len)∧(∀q:Cer,nS .cer 9 .iop q=q.made.ops)∧(∀q:Cer,gW .cer 10 q=q.made.fin)∧(∀q:Cer,gW .cer 11 q=q.made.x)∧(∀q:Cer,gW .cer 12 q=q.made.y)∧(∀q:Cer,gW .cer 13 q=q.made.k)∧
  (∀x,Co.mk .blk x=⟨x.1,x.2.1,x.2.2.1,x.2.2.2.1,x.2.2.2.2.1,x.2.2.2.2.2.1,x.2.2.2.2.2.2.1⟩):=
 ⟨fun _=>rfl,fun _=>rfl,fun _=>rfl,fun _=>rfl,fun _=>rfl,fun _=>rfl,fun _=>rfl,fun _=>rfl,fun _=>rfl,fun _=>rfl,fun _=>rfl,fun _=>rfl,fun _=>rfl,fun _=>rfl,fun _=>rfl⟩
theorem Oy {α:Type} {d:α} {l:List α} {i:Nat} {G:α→Prop} (h:i<l.length):(∃q∈l.take (i+1),G q)↔(∃q∈l.take i,G q)∨G (l.getD i d):=by
 rw [List.take_succ_eq_append_getElem h,getD_lt h]
 constructor
 ·rintro⟨q,h1,h2⟩
  rw [List.mem_append,List.mem_singleton]at h1
  rcases h1 with h1 | rfl
  ·exact Or.inl ⟨q,h1,h2⟩
  ·exact Or.inr h2
 ·rintro(⟨q,h1,h2⟩ | h)
  ·exact⟨q,List.mem_append_left _ h1,h2⟩
  ·exact⟨_,List.mem_append_right _ (List.mem_singleton.2 rfl),h⟩
theorem azT {p1:Blk×Blk×Unit→Bool} {f1:Blk×Blk×Unit→Bool×Unit} (hp1:∀a b,a.ops.length<1000000000→p1 (a,b,())=true) (hf1:∀a b,a.ops.length<1000000000→f1 (a,b,())=(bp (a=b),())) (q:Cer) (b c:Blk) (h1:q.base.ops.length<1000000000) (h2:q.made.ops.length<1000000000):alI (std 0).al p1 f1 (q,b,c,()) (fun y=>y=(bp (q.base=b∧q.made=c),b,c,())):=by
 have mE:∀c:Blk,Co.mk .blk (c.pc,c.len,c.ops,c.fin,c.x,c.y,c.k,())=c:=fun _=>rfl
 dsimp only [alI,Tup.q,Tup.o,C8]
 simp (disch:=omega) only [RR,CRB,mE,hp1 _ b h1,hf1 _ b h1,hp1 _ c h2,hf1 _ c h2,mK]
theorem azU {p1:Blk×Blk×Unit→Bool} {f1:Blk×Blk×Unit→Bool×Unit} (hp1:∀b c,b.ops.length<1000000000→c.ops.length<1000000000→p1 (b,c,())=true) (hf1:∀b c,b.ops.length<1000000000→c.ops.length<1000000000→f1 (b,c,())=(chk b c,())) (q:Cer) (h1:q.base.ops.length<1000000000) (h2:q.made.ops.length<1000000000):alH (std 0).al p1 f1 (q,()) (fun y=>y=(!chk q.base q.made,())):=by
 have mE:∀c:Blk,Co.mk .blk (c.pc,c.len,c.ops,c.fin,c.x,c.y,c.k,())=c:=fun _=>rfl
 dsimp only [alH,Tup.q,Tup.o,C8]
 simp (disch:=omega) only [RR,CRB,mE,hp1 _ _ h1 h2,hf1 _ _ h1 h2]
theorem apR {p1:Cer×Blk×Blk×Unit→Bool} {f1:Cer×Blk×Blk×Unit→Bool×Blk×Blk×Unit} (hp1:∀q b c,q.base.ops.length<1000000000→q.made.ops.length<1000000000→p1 (q,b,c,())=true) (hf1:∀q b c,q.base.ops.length<1000000000→q.made.ops.length<1000000000→f1 (q,b,c,())=(bp (q.base=b∧q.made=c),b,c,())) (l:List Cer) (b c:Blk) (h:ShC l):Wu (std 0).al p1 f1 (l,b,c,()) (fun y=>y.2=(b,c,())∧(0≤y.1↔Tv l b c)):=by
 have hl:=h.1
 dsimp only [Wu,Tup.q,Tup.o]
 simp (disch:=omega) only [RR]
 refine ak (fun(y:List Cer×Int×Int×Blk×Blk×Unit)=>y.1=l∧y.2.1=l.length∧0≤y.2.2.1∧y.2.2.1≤l.length∧y.2.2.2.1=b∧y.2.2.2.2.1=c∧¬Tv (l.take y.2.2.1.toNat) b c) (fun y=>(l.length-y.2.2.1).toNat) ⟨rfl,rfl,by simp,by simp,rfl,rfl,by rintro⟨q,h,_⟩;cases h⟩ ?_
 rintro⟨(l':List Cer),(n:Int),(i:Int),(b':Blk),(c':Blk),⟨⟩⟩ hI
 dsimp only at hI ⊢
 obtain⟨rfl,rfl,h1,h2,rfl,rfl,h3⟩:=hI
 have a:=h.at i.toNat
 simp (disch:=omega) only [RR,hp1 _ b' c' (show(((l').getD (i).toNat default)).base.ops.length<1000000000 by omega) (show(((l').getD (i).toNat default)).made.ops.length<1000000000 by omega),hf1 _ b' c' (show(((l').getD (i).toNat default)).base.ops.length<1000000000 by omega) (show(((l').getD (i).toNat default)).made.ops.length<1000000000 by omega),aT,jv]
 refine⟨fun g=>⟨h1,g,fun e=> ?_,fun e=>⟨⟨by omega,by omega,?_⟩,by omega⟩⟩,fun g=> ?_⟩
 ·exact⟨fun _=>⟨_,dJ h1 g,e⟩,fun _=>h1⟩
 ·rw [show(i+1).toNat=i.toNat+1 by omega]
  exact fun x=>((Oy (G:=fun q:Cer=>q.base=b'∧q.made=c') (by omega)).1 x).elim h3 e
 ·rw [List.take_of_length_le (by omega)]at h3
  exact⟨fun x=>absurd x (by decide),fun x=>absurd x h3⟩
theorem apS {p1:Cer×Unit→Bool} {f1:Cer×Unit→Bool×Unit} (hp1:∀q,q.base.ops.length<1000000000→q.made.ops.length<1000000000→p1 (q,())=true) (hf1:∀q,q.base.ops.length<1000000000→q.made.ops.length<1000000000→f1 (q,())=(!chk q.base q.made,())) (l:List Cer) (h:ShD l):Wv (std 0).al p1 f1 (l,()) (fun y=>0≤y.1↔∃q∈l,chk q.base q.made=false):=by
 have hl:=h.1
 dsimp only [Wv,Tup.q,Tup.o]
 simp (disch:=omega) only [RR]
 refine ak (fun(y:List Cer×Int×Int×Unit)=>y.1=l∧y.2.1=l.length∧0≤y.2.2.1∧y.2.2.1≤l.length∧¬∃q∈l.take y.2.2.1.toNat,chk q.base q.made=false) (fun y=>(l.length-y.2.2.1).toNat) ⟨rfl,rfl,by simp,by simp,by rintro⟨q,h,_⟩;cases h⟩ ?_
 rintro⟨(l':List Cer),(n:Int),(i:Int),⟨⟩⟩ hI
 dsimp only at hI ⊢
 obtain⟨rfl,rfl,h1,h2,h3⟩:=hI
 have a:=h.at i.toNat
 simp (disch:=omega) only [RR,hp1 _ (show(((l').getD (i).toNat default)).base.ops.length<1000000000 by omega) (show(((l').getD (i).toNat default)).made.ops.length<1000000000 by omega),hf1 _ (show(((l').getD (i).toNat default)).base.ops.length<1000000000 by omega) (show(((l').getD (i).toNat default)).made.ops.length<1000000000 by omega)]
 refine⟨fun g=>⟨h1,g,fun e=> ?_,fun e=>⟨⟨by omega,by omega,?_⟩,by omega⟩⟩,fun g=> ?_⟩
 ·exact⟨fun _=>⟨_,dJ h1 g,e⟩,fun _=>h1⟩
 ·rw [show(i+1).toNat=i.toNat+1 by omega]
  exact fun x=>((Oy (G:=fun q:Cer=>chk q.base q.made=false) (by omega)).1 x).elim h3 (fun z=>by rw [e]at z;cases z)
 ·rw [List.take_of_length_le (by omega)]at h3
  exact⟨fun x=>absurd x (by decide),fun x=>absurd x h3⟩
theorem axk {p1:List Cer×Blk×Blk×Unit→Bool} {f1:List Cer×Blk×Blk×Unit→Int×Blk×Blk×Unit} (hp1:∀l b c,ShC l→p1 (l,b,c,())=true) (hf1:∀l b c,ShC l→(f1 (l,b,c,())).2=(b,c,())∧(0≤(f1 (l,b,c,())).1↔Tv l b c)) (l:List Cer) (b c:Blk) (h:ShC l):aew (std 0).al p1 f1 (l,b,c,()) (fun y=>y=(bp (Tv l b c),b,c,())):=by
 obtain⟨a1,a2⟩:=hf1 l b c h
 have e1:(f1 (l,b,c,())).2.1=b:=congrArg Prod.fst a1
 have e2:(f1 (l,b,c,())).2.2.1=c:=congrArg (fun z=>z.2.1) a1
 dsimp only [aew,Tup.q,Tup.o]
 simp (disch:=omega) only [RR,hp1 l b c h,e1,e2,A8,lJ a2]
theorem axl {p1:List Cer×Unit→Bool} {f1:List Cer×Unit→Int×Unit} (hp1:∀l,ShD l→p1 (l,())=true) (hf1:∀l,ShD l→(0≤(f1 (l,())).1↔∃q∈l,chk q.base q.made=false)) (l:List Cer) (h:ShD l):aex (std 0).al p1 f1 (l,()) (fun y=>y=(bp (∃q∈l,chk q.base q.made=false),())):=by
 dsimp only [aex,Tup.q,Tup.o]
 simp (disch:=omega) only [RR,hp1 l h,A8,lJ (hf1 l h)]
theorem azV {p1:List Cer×Blk×Blk×Unit→Bool} {f1:List Cer×Blk×Blk×Unit→Bool×Blk×Blk×Unit} (hp1:∀l b c,ShC l→p1 (l,b,c,())=true) (hf1:∀l b c,ShC l→f1 (l,b,c,())=(bp (Tv l b c),b,c,())) (l:List Cer) (b c:Blk) (h:ShC l):amo (std 0).al p1 f1 (l,b,c,()) (fun y=>y=(bp (Tv l b c),())):=by
 dsimp only [amo,Tup.q,Tup.o]
 simp (disch:=omega) only [RR,hp1 l b c h,hf1 l b c h]
theorem azW {p1:List Cer×Unit→Bool} {f1:List Cer×Unit→Bool×Unit} (hp1:∀l,ShD l→p1 (l,())=true) (hf1:∀l,ShD l→f1 (l,())=(bp (∃q∈l,chk q.base q.made=false),())) (l:List Cer) (h:ShD l):alN (std 0).al p1 f1 (l,()) (fun y=>y=(bp (Li l),())):=by
 dsimp only [alN,Tup.q,Tup.o]
 simp (disch:=omega) only [RR,hp1 l h,hf1 l h]
 have e:(!bp (∃q∈l,chk q.base q.made=false))=bp (∀q∈l,chk q.base q.made=true):=by
  by_cases c:∃q∈l,chk q.base q.made=false
  ·rw [dz c,dD]; · rfl
   intro g;obtain⟨q,q1,q2⟩:=c;rw [g q q1]at q2;cases q2
  ·rw [dD c,dz]; · rfl
   intro q q1
   by_cases d:chk q.base q.made=true
   ·exact d
   ·exact absurd ⟨q,q1,by simpa using d⟩ c
 rw [e,A8,←mK]
 exact Prod.ext (lJ (by unfold Li;constructor<;>rintro⟨g1,g2⟩<;>exact⟨by omega,g2⟩)) rfl
theorem afE (a b:Blk) (ha:a.ops.length<1000000000):UR (std 0).al (a,b,()) (fun y=>y=(bp (a=b),())):=by
 dsimp only [UR,Tup.q,Tup.o]
 simp (disch:=omega) only [RR,RB]
 refine⟨fun h=> ?_,fun h=> ?_⟩
 ·rw [dD];rintro rfl;simp at h
 have hl:a.ops.length=b.ops.length:=by omega
 refine ak (fun(y:Int×Blk×Blk×Unit)=>y.2.1=a∧y.2.2.1=b∧0≤y.1∧y.1≤a.ops.length∧All y.1 (fun i=>a.ops.getD i.toNat default=b.ops.getD i.toNat default)) (fun y=>(a.ops.length-y.1).toNat) ⟨rfl,rfl,by simp,by simp,All.zero⟩ ?_
 rintro⟨(i:Int),(a':Blk),(b':Blk),⟨⟩⟩ hI
 dsimp only at hI ⊢
 obtain⟨rfl,rfl,h1,h2,h3⟩:=hI
 simp (disch:=omega) only [RR,RB,afD]
 refine⟨fun h4=>⟨by omega,by omega,by omega,by omega,fun h5=> ?_,fun h5=>⟨⟨by omega,by omega,h3.snoc h5⟩,by omega⟩⟩,fun h4=> ?_⟩
 ·rw [dD];rintro rfl;exact h5 rfl
 ·have e:=nJ hl (h3.le (by omega))
  rw [dz]
  cases a';cases b';simp_all
theorem apT {p1:Blk×Unit→Bool} {f1:Blk×Unit→Int×Int×Int×Int×Int×Int×List IOp×Unit} (hp1:∀b,b.ops.length<1000000→p1 (b,())=true) (hf1:∀b,b.ops.length<1000000→f1 (b,())=bk7 (Lh b)) {p2:Int×List Int×Int×Unit→Bool} {f2:Int×List Int×Int×Unit→Bool×List Int×Int×Unit} (hp2:∀n b p,Bt b→0≤p→p<1000000000→p2 (n,b,p,())=true) (hf2:∀n b p,Bt b→0≤p→p<1000000000→(f2 (n,b,p,())).2.1=b∧(f2 (n,b,p,())).2.2.1=p+1) {p3:Int×List Int×Int×Unit→Bool} {f3:Int×List Int×Int×Unit→Int×List Int×Int×Unit} (hp3:∀n b p,Bt b→0≤p→p<1000000000→p3 (n,b,p,())=true) (hf3:∀n b p,Bt b→0≤p→p<1000000000→Pk n b p (f3 (n,b,p,()))) {p4:Blk×List Int×Int×Unit→Bool} {f4:Blk×List Int×Int×Unit→Int×Int×Int×Int×Int×Int×List Int×Int×List IOp×Unit} (hp4:∀c b p,c.ops.length<1000000→Bt b→0≤p→p<900000000→p4 (c,b,p,())=true) (hf4:∀c b p,c.ops.length<1000000→Bt b→0≤p→p<900000000→BkD 20 c.ops.length b p (f4 (c,b,p,()))) {p5:List Int×Int×Unit→Bool} {f5:List Int×Int×Unit→Int×Int×Int×Int×Int×Int×List Int×Int×List IOp×Unit} (hp5:∀b p,Bt b→0≤p→p<600000000→p5 (b,p,())=true) (hf5:∀b p,Bt b→0≤p→p<600000000→BkD 2000 5000 b p (f5 (b,p,()))) (n:Int) (b:List Int) (p:Int) (hb:Bt b) (h1:0≤p) (h2:p<300000000):Xx (std 0).al p1 f1 p2 f2 p3 f3 p4 f4 p5 f5 (n,b,p,()) (fun(y:List Cer×List Int×Int×Unit)=>ShC y.1∧y.2.1=b∧p≤y.2.2.1∧y.2.2.1≤p+20000):=by
 replace hf1:=fun c h=>show(f1 (c,())).2.2.2.2.2.2.1.length≤c.ops.length by rw [hf1 c h];exact DN c
 obtain⟨q1,q2,q3,q4⟩:=hf3 4 b p hb h1 (by omega)
 dsimp only [Xx,Tup.q,Tup.o]
 simp (disch:=omega) only [RR,hp3 4 b p hb h1 (by omega),q1,q2]
 generalize (f3 (4,b,p,())).1=k at q3 q4 ⊢
 refine ak (fun(y:Int×Int×List Int×Int×List Cer×Unit)=>y.1=n∧0≤y.2.1∧y.2.1≤4∧y.2.2.1=b∧p≤y.2.2.2.1∧y.2.2.2.1≤p+1+(4-y.2.1)*2000∧ShC y.2.2.2.2.1∧(y.2.2.2.2.1.length:Int)≤4-y.2.1) (fun y=>y.2.1.toNat) ⟨rfl,q3,by dsimp only;omega,rfl,by dsimp only;omega,by dsimp only;omega,⟨by simp,fun q h=>by cases h⟩,by simp;omega⟩ ?_
 rintro⟨(n':Int),(i:Int),(b':List Int),(r:Int),(l:List Cer),⟨⟩⟩ hI
 dsimp only at hI ⊢
 obtain⟨rfl,i1,i2,rfl,i3,i4,i5,i6⟩:=hI
 obtain⟨a1,a2,a3,a4⟩:=hf5 b' r hb (by omega) (by omega)
 obtain⟨o1,o2⟩:=hf2 n' b' r hb (by omega) (by omega)
 obtain⟨c1,c2,c3,c4⟩:=hf5 b' (r+1) hb (by omega) (by omega)
 simp (disch:=omega) only [RR,hp5 b' r hb (show 0≤r by omega) (show r<600000000 by omega),hp5 b' (r+1) hb (show 0≤r+1 by omega) (show r+1<600000000 by omega),hp2 n' b' r hb (show 0≤r by omega) (show r<1000000000 by omega),o1,o2,a1,c1,List.length_append,List.length_cons,List.length_nil]
 generalize f5 (b',r,())=y at a1 a2 a3 a4 ⊢
 generalize f5 (b',r+1,())=z at c1 c2 c3 c4 ⊢
 have y1:(⟨y.1,y.2.1,y.2.2.2.2.2.2.2.2.1,y.2.2.1,y.2.2.2.1,y.2.2.2.2.1,y.2.2.2.2.2.1⟩:Blk).ops.length<1000000:=show y.2.2.2.2.2.2.2.2.1.length<1000000 by omega
 have z1:(⟨z.1,z.2.1,z.2.2.2.2.2.2.2.2.1,z.2.2.1,z.2.2.2.1,z.2.2.2.2.1,z.2.2.2.2.2.1⟩:Blk).ops.length<1000000:=show z.2.2.2.2.2.2.2.2.1.length<1000000 by omega
 obtain⟨d1,d2,d3,d4⟩:=hf4 _ b' z.2.2.2.2.2.2.2.1 z1 hb (by omega) (by omega)
 refine⟨fun g=>⟨hp1 _ y1,by omega,⟨by omega,by omega,by omega,by omega,i5.add (by omega) y1 (Nat.lt_of_le_of_lt (hf1 _ y1) y1),by omega⟩,by omega⟩,fun g=>⟨fun _=>⟨hp4 _ b' _ z1 hb (by omega) (by omega),by omega,i5.add (by omega) z1 (Nat.lt_of_le_of_lt d4 z1),d1,Int.le_trans (by omega) d2,Int.le_trans d3 (by omega)⟩,fun _=>⟨i5,by omega,by omega⟩⟩⟩
end Go.TX.F
namespace Go.TX.F
open Go Go.AE Go.TX
theorem apU {p1:List aj×Unit→Bool} {f1:List aj×Unit→List aj×Unit} (hp1:∀a,Sh a→p1 (a,())=true) (hf1:∀a,Sh a→f1 (a,())=(a,())) (a:List (List aj)) (ha:ShP a):VJ (std 0).al p1 f1 (a,()) (fun y=>y=(a,())):=by
 have hlen:=ha.1
 dsimp only [VJ,Tup.q,Tup.o]
 refine ak (fun(y:List (List aj)×Int×List (List aj)×Unit)=>y.1=a∧y.2.2.1=a.take y.2.1.toNat∧0≤y.2.1∧y.2.1≤a.length) (fun y=>(a.length-y.2.1).toNat) ⟨rfl,by simp,by simp,by simp⟩ ?_
 rintro⟨(l:List (List aj)),(i:Int),(o:List (List aj)),⟨⟩⟩ hI
 dsimp only at hI ⊢
 obtain⟨rfl,rfl,h1,h2⟩:=hI
 simp (disch:=omega) only [RR,hp1 _ (ha.at _),hf1 _ (ha.at _)]
 refine⟨fun h4=>⟨by omega,by omega,?_,⟨bL h1 h4 rfl,by omega,by omega⟩,by omega⟩,fun h4=>by rw [List.take_of_length_le (by omega)]⟩
 have:=List.length_take_le' i.toNat l
 simp only [List.length_cons,List.length_nil];omega
theorem afF (k:Int) (l:List (List aj)):Vi (std 0).al (k,l,()) (fun y=>y=(if k<0∨(l.length:Int)≤k then []else((l).getD (k).toNat default),l,())):=by
 dsimp only [Vi,Tup.q,Tup.o]
 simp (disch:=omega) only [RR]
 refine⟨fun h=>by rw [if_pos (by omega)],fun h=>⟨by omega,by omega,by omega,by omega,by rw [if_neg (by omega)]⟩⟩
def qW (l:List Ev) (k:Int):Int:=((l.filter fun e=>decide (e.kind=k)).length:Int)
theorem yH (l:List Ev) (e:Ev) (k:Int):qW (l++ [e]) k=if e.kind=k then qW l k+1 else qW l k:=by
 unfold qW
 rw [List.filter_append,List.length_append]
 by_cases c:e.kind=k
 ·rw [if_pos c,List.filter_cons_of_pos (by simpa using c)];simp
 ·rw [if_neg c,List.filter_cons_of_neg (by simpa using c)];simp
theorem afG (l:List Ev) (k:Int) (hl:l.length<1000000000):VH (std 0).al (l,k,()) (fun y=>y=(qW l k,())):=by
 dsimp only [VH,Tup.q,Tup.o]
 refine ak (fun(y:List Ev×Int×Int×Int×Unit)=>y.1=l∧y.2.1=k∧y.2.2.1=qW (l.take y.2.2.2.1.toNat) k∧0≤y.2.2.2.1∧y.2.2.2.1≤l.length) (fun y=>(l.length-y.2.2.2.1).toNat) ⟨rfl,rfl,by simp;rfl,by simp,by simp⟩ ?_
 rintro⟨(l:List Ev),(k:Int),(n:Int),(i:Int),⟨⟩⟩ hI
 dsimp only at hI ⊢
 obtain⟨rfl,rfl,rfl,h1,h2⟩:=hI
 have b:0≤qW (l.take i.toNat) k∧qW (l.take i.toNat) k≤i:=by
  unfold qW
  have:=List.length_filter_le (fun e:Ev=>decide (e.kind=k)) (l.take i.toNat)
  have:=List.length_take_le i.toNat l
  omega
 simp (disch:=omega) only [RR,RB]
 refine⟨fun h4=>⟨by omega,by omega,?_⟩,fun h4=>by rw [List.take_of_length_le (by omega)]⟩
 have e:l.take (i+1).toNat=l.take i.toNat++ [((l).getD (i).toNat default)]:=by rw [show(i+1).toNat=i.toNat+1 by omega,List.take_succ_eq_append_getElem (by omega),getD_lt (show i.toNat<l.length by omega)]
 refine⟨fun g=>⟨⟨?_,by omega,by omega⟩,by omega⟩,fun g=>⟨⟨?_,by omega,by omega⟩,by omega⟩⟩
 ·rw [e,yH,if_pos g]
 ·rw [e,yH,if_neg g]
theorem apV {p1:Int×Unit→Bool} {f1:Int×Unit→List aj×Unit} (hp1:∀n,p1 (n,())=true) (hf1:∀n,f1 (n,())=(gK n,())) {p2:Atom×List Atom×Unit→Bool} {f2:Atom×List Atom×Unit→Int×List Atom×Unit} (hp2:∀a t,ShA a→ShT t→aD t→p2 (a,t,())=true) (hf2:∀a t,ShA a→ShT t→aD t→f2 (a,t,())=((bG t a).2,(bG t a).1,())) {p3:List Ev×Int×Unit→Bool} {f3:List Ev×Int×Unit→Int×Unit} (hp3:∀l k,l.length<1000000000→p3 (l,k,())=true) (hf3:∀l k,l.length<1000000000→f3 (l,k,())=(qW l k,())) (l:List Ev) (k:Int) (t:List Atom) (hl:l.length<1000000000) (ht:ShT t) (hk:aD t):VI (std 0).al p1 f1 p2 f2 p3 f3 (l,k,t,()) (fun y=>y=((bG t ⟨if k=6 then 3 else 2,qW l k,[],[]⟩).1,gK (bG t ⟨if k=6 then 3 else 2,qW l k,[],[]⟩).2,())):=by
 have sh:∀n:Int,ShA ⟨n,qW l k,[],[]⟩:=fun n=>⟨⟨by simp,fun m hm=>absurd hm (by simp)⟩,⟨by simp,fun m hm=>absurd hm (by simp)⟩⟩
 dsimp only [VI,Tup.q,Tup.o]
 simp (disch:=omega) only [RR,hp3 l k hl,hf3 l k hl,hp2 _ t (sh _) ht hk,hf2 _ t (sh _) ht hk,hp1,hf1]
 exact⟨fun h=>by rw [if_pos h],fun h=>by rw [if_neg h]⟩
theorem apW {p1:List aj×Unit→Bool} {f1:List aj×Unit→List aj×Unit} (hp1:∀a,Sh a→p1 (a,())=true) (hf1:∀a,Sh a→f1 (a,())=(a,())) {p2:List (List aj)×Unit→Bool} {f2:List (List aj)×Unit→List (List aj)×Unit} (hp2:∀a,ShP a→p2 (a,())=true) (hf2:∀a,ShP a→f2 (a,())=(a,())) (o:IOp) (x y:List aj) (r:List (List aj)) (hx:Sh x) (hy:Sh y) (hr:ShP r):VK (std 0).al p1 f1 p2 f2 (o,x,y,r,()) (fun z=>z=(o.kind,o.at_,if o.kind=6 then []else x,if o.kind=5 then y else [],if o.kind=4∨o.kind=5 then r else [],())):=by
 dsimp only [VK,Tup.q,Tup.o]
 simp (disch:=omega) only [RR,RB,hp1 x hx,hf1 x hx,hp1 y hy,hf1 y hy,hp2 r hr,hf2 r hr]
 refine⟨fun h=>⟨fun g=> ?_,fun g=> ?_⟩,fun h=>⟨fun g=> ?_,fun g=> ?_⟩⟩
 all_goals refine⟨fun k=> ?_,fun k=> ?_⟩
 all_goals first | rw [if_pos h] | rw [if_neg h]
 all_goals first | rw [if_pos g] | rw [if_neg g]
 all_goals first | rw [if_pos k] | rw [if_neg (by omega)]
theorem afH (s:Sym) (k:Int):VO (std 0).al (s,k,()) (fun y=>y=(s.events,s.regs,1,k,())):=by
 dsimp only [VO,Tup.q,Tup.o]
 simp (disch:=omega) only [RR,RB]
theorem afI (b:Blk):VL (std 0).al (b,()) (fun y=>y=(if b.fin=1 then-1 else b.x,())):=by
 dsimp only [VL,Tup.q,Tup.o]
 simp (disch:=omega) only [RR,RB]
 exact⟨fun h=>by rw [if_pos h],fun h=>by rw [if_neg h]⟩
theorem afJ (b:Blk):VN (std 0).al (b,()) (fun y=>y=(if b.fin=1∨b.fin=2 then-1 else b.y,())):=by
 dsimp only [VN,Tup.q,Tup.o]
 simp (disch:=omega) only [RR,RB]
 exact⟨fun h=>by rw [if_pos h],fun h=>by rw [if_neg (by omega)]⟩
theorem apX {p1:List aj×Unit→Bool} {f1:List aj×Unit→Int×Bool×Unit} (hp1:∀a,Sh a→p1 (a,())=true) (hf1:∀a,Sh a→f1 (a,())=((bN a).1,(bN a).2,())) {p2:List aj×List aj×Unit→Bool} {f2:List aj×List aj×Unit→Int×Unit} (hp2:∀a b,Sh a→p2 (a,b,())=true) (hf2:∀a b,Sh a→f2 (a,b,())=(fQ a b,())) {p3:Sym×Int×Unit→Bool} {f3:Sym×Int×Unit→List Ev×List (List aj)×Int×Int×Unit} (hp3:∀s k,p3 (s,k,())=true) (hf3:∀s k,f3 (s,k,())=(s.events,s.regs,1,k,())) (s:Sym) (n:Int) (hs:ShY s) (hx:aI s.x) (hy:aI s.y) (hf:s.fin=3∨s.fin=4):VP (std 0).al p1 f1 p2 f2 p3 f3 (s,n,()) (fun y=>y=(symEnd s n,())):=by
 dsimp only [VP,Tup.q,Tup.o]
 simp (disch:=omega) only [RR,RB,hp1 _ hs.x,hf1 _ hs.x,hp1 _ hs.y,hf1 _ hs.y,hp2 _ _ hs.x,hf2 _ _ hs.x,hp3,hf3]
 have z:fQ s.x s.y=0↔s.x=s.y:=iR
 have key:(bN s.x).2=true→(bN s.y).2=true→(bN s.x).1=(bN s.y).1→s.x=s.y:=fun a b c=>(tN a).2.1.trans ((congrArg dG c).trans (tN b).2.1.symm)
 unfold symEnd
 rw [dz ⟨hx,hy⟩,if_neg (show¬(true=false) by decide),if_neg (show¬(s.fin=2∧(bN s.x).2=true) by omega),if_neg (show¬(s.fin≠3∧s.fin≠4) by omega)]
 simp only [z]
 by_cases c:s.x=s.y
 ·have l:¬(bN s.x).1< (bN s.y).1:=by rw [c];omega
  rcases hf with f | f<;>simp [c,f]
 ·rcases hf with f | f<;>by_cases nx:(bN s.x).2=true<;>by_cases ny:(bN s.y).2=true<;>by_cases l:(bN s.x).1< (bN s.y).1<;>by_cases g:0<fQ s.x s.y<;>simp [c,f,nx,ny,l,g]
  all_goals rw [if_neg fun e=>c (key nx ny e)]
theorem apY {p1:List aj×Unit→Bool} {f1:List aj×Unit→Int×Bool×Unit} (hp1:∀a,Sh a→p1 (a,())=true) (hf1:∀a,Sh a→f1 (a,())=((bN a).1,(bN a).2,())) {p2:List aj×Unit→Bool} {f2:List aj×Unit→Bool×Unit} (hp2:∀a,Sh a→p2 (a,())=true) (hf2:∀a,Sh a→f2 (a,())=(bp (aI a),())) {p3:List aj×Unit→Bool} {f3:List aj×Unit→List aj×Unit} (hp3:∀a,Sh a→p3 (a,())=true) (hf3:∀a,Sh a→f3 (a,())=(a,())) {p4:Sym×Int×Unit→Bool} {f4:Sym×Int×Unit→List Ev×List (List aj)×Int×Int×Unit} (hp4:∀s k,p4 (s,k,())=true) (hf4:∀s k,f4 (s,k,())=(s.events,s.regs,1,k,())) {p5:Sym×Int×Unit→Bool} {f5:Sym×Int×Unit→Sym×Unit} (hp5:∀s n,ShY s→aI s.x→aI s.y→(s.fin=3∨s.fin=4)→p5 (s,n,())=true) (hf5:∀s n,ShY s→aI s.x→aI s.y→(s.fin=3∨s.fin=4)→f5 (s,n,())=(symEnd s n,())) {p6:List (List aj)×Unit→Bool} {f6:List (List aj)×Unit→List (List aj)×Unit} (hp6:∀a,ShP a→p6 (a,())=true) (hf6:∀a,ShP a→f6 (a,())=(a,())) (s:Sym) (n:Int) (hs:ShY s):VQ (std 0).al p1 f1 p2 f2 p3 f3 p4 f4 p5 f5 p6 f6 (s,n,()) (fun y=>y=(symEnd s n,())):=by
 dsimp only [VQ,Tup.q,Tup.o]
 simp (disch:=omega) only [RR,RB,hp2 _ hs.x,hf2 _ hs.x,hp2 _ hs.y,hf2 _ hs.y]
 have le:=hs.e.1
 have no:(bp (aI s.x)=false∨bp (aI s.y)=false)→symEnd s n=abn:=fun h=>by
  unfold symEnd;rw [if_pos];rw [mK];rcases h with h | h<;>rw [h]<;>simp
 refine⟨fun h=>by rw [no h];rfl,fun h=> ?_⟩
 have hx:=aT.1 h.1
 have hy:=aT.1 h.2
 refine ak (fun(y:Int×Int×Sym×Int×Int×List (List aj)×Int×List aj×List aj×Int×List Ev×Unit)=>y.1=n∧y.2.2.1=s∧y.2.2.2.2.2.2.1=s.fin∧y.2.2.2.2.2.2.2.2.2.1=s.k∧0≤y.2.1∧y.2.1≤s.events.length∧y.2.2.2.2.2.2.2.2.2.2.1=s.events.take y.2.1.toNat) (fun y=>(s.events.length-y.2.1).toNat) ⟨rfl,rfl,rfl,rfl,by simp,by simp,by simp⟩ ?_
 rintro⟨(n':Int),(i:Int),(s':Sym),(z1:Int),(z2:Int),(z3:List (List aj)),(fin:Int),(z4:List aj),(z5:List aj),(k:Int),(ev:List Ev),⟨⟩⟩ hI
 dsimp only at hI ⊢
 obtain⟨rfl,rfl,rfl,rfl,h1,h2,rfl⟩:=hI
 have E:=hs.e.at i.toNat
 have tl:=List.length_take_le' i.toNat s'.events
 by_cases g:i<s'.events.length
 ·simp (disch:=omega) only [RR,RB,g,hp3 _ E.1,hf3 _ E.1,hp3 _ E.2.1,hf3 _ E.2.1,hp6 _ E.2.2,hf6 _ E.2.2]
  exact⟨h1,by simp only [List.length_cons,List.length_nil];omega,⟨by omega,by omega,bL h1 g rfl⟩,by omega⟩
 ·have ef:s'.events.take i.toNat=s'.events:=List.take_of_length_le (by omega)
  rw [ef]
  simp (disch:=omega) only [RR,RB,g,hp3 _ hs.x,hf3 _ hs.x,hp3 _ hs.y,hf3 _ hs.y,hp6 _ hs.r,hf6 _ hs.r,hp1 _ hs.x,hf1 _ hs.x,hp4,hf4]
  have b:¬bp (aI s'.x∧aI s'.y)=false:=by rw [dz ⟨hx,hy⟩];decide
  have P:=fun f=>hp5 s' n' hs hx hy f
  have F:=fun f=>hf5 s' n' hs hx hy f
  have pl:s'.fin≠3∧s'.fin≠4→¬(s'.fin=2∧(bN s'.x).2=true)→symEnd s' n'=s':=fun c d=>by unfold symEnd;rw [if_neg b,if_neg d,if_pos c]
  refine⟨fun f=>⟨fun g=> ?_,fun g=> ?_⟩,fun f=>⟨fun k=>⟨fun _=>⟨P (Or.inl k),?_⟩,fun e=>absurd k e⟩,fun k=>⟨fun l=>⟨P (Or.inr l),?_⟩,fun l=> ?_⟩⟩⟩
  ·unfold symEnd;rw [if_neg b,if_pos ⟨f,g⟩]
  ·rw [pl (by omega) (by rw [g];simp)]
  ·exact congrArg (fun z=>(z.1,())) (F (Or.inl k))
  ·exact congrArg (fun z=>(z.1,())) (F (Or.inr l))
  ·rw [pl ⟨k,l⟩ (fun h=>f h.1)]
end Go.TX.F
namespace Go.TX.F
open Go Go.AE Go.TX
structure Cn (s:SS):Prop where
 ld:s.ld=qW s.evs 4
 inn:s.inn=qW s.evs 6
theorem Cn.stp {s:SS} (h:Cn s) (o:IOp):Cn (stp s o):=by
 constructor
 ·show(if o.kind=4 then s.ld+1 else s.ld)=qW (nE s o) 4
  unfold nE
  by_cases c:evO o
  ·rw [if_pos c,yH,h.ld]
  ·rw [if_neg c,if_neg (fun e=>c (by unfold evO;omega)),h.ld]
 ·show(if o.kind=6 then s.inn+1 else s.inn)=qW (nE s o) 6
  unfold nE
  by_cases c:evO o
  ·rw [if_pos c,yH,h.inn]
  ·rw [if_neg c,if_neg (fun e=>c (by unfold evO;omega)),h.inn]
theorem Cn.run:∀(l:List IOp) (s:SS),Cn s→Cn (l.foldl Go.TX.F.stp s)
 | [],_,h=>h
 | o::r,s,h=>Cn.run r _ (h.stp o)
structure Pt2 (t:List Atom) (b:Blk) (i:Nat) (tb:List Atom) (V:List (List aj)) (ev:List Ev) (rg:List (List aj)):Prop where
 tb:tb=(SW t b i).t
 V:V=(SW t b i).vals
 ev:ev=(SW t b i).evs
 rg:rg=(SW t b i).regs
theorem Pt2.next {t:List Atom} {b:Blk} {i:Nat} {tb:List Atom} {V:List (List aj)} {ev:List Ev} {rg:List (List aj)} (h:Pt2 t b i tb V ev rg) (hi:i<b.ops.length) {o:IOp} (ho:b.ops.getD i default=o)
  {v:List aj} {tb':List Atom} {ev':List Ev} {rg':List (List aj)} (h3:tb'=nT (SW t b i) o) (h4:v=nV (SW t b i) o) (h5:ev'=nE (SW t b i) o) (h6:rg'=nR (SW t b i) o):Pt2 t b (i+1) tb' (V++ [v]) ev' rg':=by
 have e:=aaf (t:=t) hi
 rw [ho]at e
 refine⟨?_,?_,?_,?_⟩<;>rw [e]
 ·exact h3
 ·rw [h.V,h4];rfl
 ·exact h5
 ·exact h6
theorem L8 {α:Type} {l:List α} {i:Nat} (h:i<l.length) (v:α):(l.set i v).take (i+1)=l.take i++ [v]:=by
 rw [List.take_succ_eq_append_getElem (by rw [List.length_set];exact h),List.getElem_set_self,List.take_set_of_le (Nat.le_refl _)]
set_option maxHeartbeats 1000000 in
theorem apZ {p1:Blk×Unit→Bool} {f1:Blk×Unit→Bool×Unit} (hp1:∀b,b.ops.length<1000000000→p1 (b,())=true) (hf1:∀b,b.ops.length<1000000000→f1 (b,())=(bp (gH b),())) {p2:Int×Unit→Bool} {f2:Int×Unit→List aj×Unit} (hp2:∀n,p2 (n,())=true) (hf2:∀n,f2 (n,())=(gK n,())) {p3:Int×Unit→Bool} {f3:Int×Unit→List aj×Unit} (hp3:∀n,p3 (n,())=true) (hf3:∀n,f3 (n,())=(dG n,())) {p4:Sym×Int×Unit→Bool} {f4:Sym×Int×Unit→Sym×Unit} (hp4:∀s n,ShY s→p4 (s,n,())=true) (hf4:∀s n,ShY s→f4 (s,n,())=(symEnd s n,())) {p5:Unit→Bool} {f5:Unit→List Atom×List (List aj)×Unit} (hp5:p5 ()=true) (hf5:Tj 4 (f5 ()).1∧(f5 ()).2.1.length=4∧∀p∈(f5 ()).2.1,Sh p) {p6:List Atom×Unit→Bool} {f6:List Atom×Unit→Bool×Unit} (hp6:∀a,ShT a→p6 (a,())=true) (hf6:∀a,ShT a→f6 (a,())=(bp (aD a),())) {p7:List aj×Unit→Bool} {f7:List aj×Unit→List aj×Unit} (hp7:∀a,Sh a→p7 (a,())=true) (hf7:∀a,Sh a→f7 (a,())=(a,())) {p8:List Atom×Unit→Bool} {f8:List Atom×Unit→List Atom×Unit} (hp8:∀a,ShT a→p8 (a,())=true) (hf8:∀a,ShT a→f8 (a,())=(a,())) {p9:Int×List aj×List aj×List Atom×Unit→Bool} {f9:Int×List aj×List aj×List Atom×Unit→List Atom×List aj×Unit} (hp9:∀op x y t,(1≤op∧op≤5)→Sh x→Sh y→ShT t→aD t→p9 (op,x,y,t,())=true) (hf9:∀op x y t,(1≤op∧op≤5)→Sh x→Sh y→ShT t→aD t→f9 (op,x,y,t,())=((tDo t op x y).1,(tDo t op x y).2,())) {p10:Atom×List Atom×Unit→Bool} {f10:Atom×List Atom×Unit→Int×List Atom×Unit} (ah4:∀a t,ShA a→ShT t→aD t→p10 (a,t,())=true) (apm:∀a t,ShA a→ShT t→aD t→f10 (a,t,())=((bG t a).2,(bG t a).1,())) {p11:List Ev×Int×List Atom×Unit→Bool} {f11:List Ev×Int×List Atom×Unit→List Atom×List aj×Unit} (ah5:∀l k t,l.length<1000000000→ShT t→aD t→p11 (l,k,t,())=true) (ah6:∀l k t,l.length<1000000000→ShT t→aD t→f11 (l,k,t,())=((bG t ⟨if k=6 then 3 else 2,qW l k,[],[]⟩).1,gK (bG t ⟨if k=6 then 3 else 2,qW l k,[],[]⟩).2,())) {p12:IOp×List aj×List aj×List (List aj)×Unit→Bool} {f12:IOp×List aj×List aj×List (List aj)×Unit→Int×Int×List aj×List aj×List (List aj)×Unit} (XR:∀o x y r,Sh x→Sh y→ShP r→p12 (o,x,y,r,())=true) (XU:∀o x y r,Sh x→Sh y→ShP r→f12 (o,x,y,r,())=(o.kind,o.at_,if o.kind=6 then []else x,if o.kind=5 then y else [],if o.kind=4∨o.kind=5 then r else [],())) {p13:Int×List (List aj)×Unit→Bool} {f13:Int×List (List aj)×Unit→List aj×List (List aj)×Unit} (Oz:∀k l,p13 (k,l,())=true) (ah8:∀k l,f13 (k,l,())=(if k<0∨(l.length:Int)≤k then []else((l).getD (k).toNat default),l,())) {p14:List (List aj)×Unit→Bool} {f14:List (List aj)×Unit→List (List aj)×Unit} (azX:∀a,ShP a→p14 (a,())=true) (azY:∀a,ShP a→f14 (a,())=(a,())) {p15:Blk×Unit→Bool} {f15:Blk×Unit→Int×Unit} (azZ:∀b,p15 (b,())=true) (az0:∀b,f15 (b,())=(if b.fin=1 then-1 else b.x,())) {p16:Blk×Unit→Bool} {f16:Blk×Unit→Int×Unit} (az1:∀b,p16 (b,())=true) (az2:∀b,f16 (b,())=(if b.fin=1∨b.fin=2 then-1 else b.y,())) (t:List Atom) (b:Blk) (ht:ShT t) (hb:b.ops.length<1000000000):VR (std 0).al p1 f1 p2 f2 p3 f3 p4 f4 p5 f5 p6 f6 p7 f7 p8 f8 p9 f9 p10 f10 p11 f11 p12 f12 p13 f13 p14 f14 p15 f15 p16 f16 (t,b,()) (fun y=>y=((dH t b).1,(dH t b).2,())):=by
 have hlt:=ht.1
 dsimp only [VR,Tup.q,Tup.o]
 simp (disch:=omega) only [RR,RB,hp6 t ht,hf6 t ht,hp1 b hb,hf1 b hb,hp8 t ht,hf8 t ht,hp5]
 by_cases c:aD t∧t.length≤100∧gH b
 case neg=>
  refine⟨fun _=> ?_,fun h=> ?_⟩
  ·unfold dH;rw [dD c];rfl
  ·exact absurd ⟨aT.1 h.1.1,by omega,aT.1 h.1.2⟩ c
 obtain⟨c1,c2,c3⟩:=c
 simp (disch:=omega) only [RR,dz c1,dz c3]
 have sz:=c3.sz
 have hop:=c3.op
 have hk3:=c3.k3
 have i0:=Tm c1 (by omega)
 obtain⟨_,g5,_⟩:=hf5
 refine⟨fun h=>absurd h (by omega),fun _=> ?_⟩
 refine ak (fun(y:Int×Blk×Int×Int×Int×Int×List (List aj)×List Atom×Unit)=>0≤y.1∧y.1≤4∧y.2.1=b∧y.2.2.2.2.1=b.fin∧y.2.2.2.2.2.1=b.k∧y.2.2.2.2.2.2.1.length=4∧y.2.2.2.2.2.2.1.take y.1.toNat=(rN t y.1.toNat).2∧y.2.2.2.2.2.2.2.1=(rN t y.1.toNat).1) (fun y=>(4-y.1).toNat) ⟨by simp,by simp,rfl,rfl,rfl,g5,by simp;rfl,rfl⟩ ?_
 rintro⟨(r:Int),(b':Blk),(z1:Int),(z2:Int),(fin:Int),(kk:Int),(rg:List (List aj)),(tb:List Atom),⟨⟩⟩ hI
 dsimp only at hI ⊢
 obtain⟨r0,r1,rfl,rfl,rfl,r4,r5,rfl⟩:=hI
 have ok:=EI c1 (by omega) r.toNat (by omega)
 have okl:=ok.tl
 by_cases h:r<4
 ·have sA:ShA ⟨1,r,[],[]⟩:=⟨⟨by simp,fun m hm=>absurd hm (by simp)⟩,⟨by simp,fun m hm=>absurd hm (by simp)⟩⟩
  have er:((r.toNat:Nat):Int)=r:=by omega
  simp (disch:=omega) only [RR,h,ah4 _ _ sA ok.tok.sh ok.tok,apm _ _ sA ok.tok.sh ok.tok,hp2,hf2,r4,List.length_set]
  have es:rN t (r+1).toNat=((bG (rN t r.toNat).1 ⟨1,r,[],[]⟩).1,(rN t r.toNat).2++ [gK (bG (rN t r.toNat).1 ⟨1,r,[],[]⟩).2]):=by
   rw [show(r+1).toNat=r.toNat+1 by omega,Fv,er]
  refine⟨r0,by omega,r0,by omega,⟨by omega,by omega,?_,by rw [es]⟩,by omega⟩
  rw [es,show(r+1).toNat=r.toNat+1 by omega,L8 (by omega),r5]
 ·have e4:r.toNat=4:=by omega
  rw [e4]at r5 ok
  have eg:rg=(rN t 4).2:=by rw [←r5,List.take_of_length_le (by omega)]
  subst eg
  rw [e4]
  simp (disch:=omega) only [RR,h]
  refine ak (fun(y:Int×Blk×Int×Int×Int×Int×List (List aj)×List (List aj)×List Atom×List Ev×Unit)=>0≤y.1∧y.1≤b'.ops.length∧y.2.1=b'∧y.2.2.2.2.1=b'.fin∧y.2.2.2.2.2.1=b'.k∧Pt2 t b' y.1.toNat y.2.2.2.2.2.2.2.2.1 y.2.2.2.2.2.2.2.1 y.2.2.2.2.2.2.2.2.2.1 y.2.2.2.2.2.2.1) (fun y=>(b'.ops.length-y.1).toNat) ⟨by simp,by simp,rfl,rfl,rfl,⟨rfl,rfl,rfl,rfl⟩⟩ ?_
  have siw:∀j:Nat,j≤b'.ops.length→SI (t.length+4) j (SW t b' j):=fun j hj=>by
   have:=(Le (b'.ops.take j) 0 (s0 t) i0 (fun o ho=>hk3 o (List.mem_of_mem_take ho)) (by rw [List.length_take];omega) (by rw [List.length_take];omega)).1
   rw [List.length_take,Nat.min_eq_left hj,Nat.zero_add]at this;exact this
  rintro⟨(i:Int),(b:Blk),(z1:Int),(z2:Int),(fin:Int),(kk:Int),(rg:List (List aj)),(V:List (List aj)),(tb:List Atom),(ev:List Ev),⟨⟩⟩ hI
  dsimp only at hI ⊢
  obtain⟨h1,h2,rfl,rfl,rfl,hA⟩:=hI
  have si:=siw i.toNat (by omega)
  have evl:=afp (t:=t) (b:=b) i.toNat (by omega)
  have cn:=Cn.run (b.ops.take i.toNat) (s0 t) ⟨rfl,rfl⟩
  have cn:Cn (SW t b i.toNat):=cn
  by_cases h7:i<b.ops.length
  case neg=>
   have en:=c3.en
   have hf:=en.f
   have hpc:=c3.pc
   have hln:=c3.ln
   have ein:i.toNat=b.ops.length:=by omega
   have eS:SW t b i.toNat=iO t b:=by unfold SW iO;rw [ein,List.take_of_length_le (Nat.le_refl _)]
   obtain⟨a3,a4,a5,a6⟩:=hA
   rw [eS]at a3 a4 a5 a6 si
   subst a3 a4 a5 a6
   have pk:=Ou (b:=b) si
   have eR:=Lf c1 c2 c3
   have sh:ShY (BU b (iO t b)):=by
    have hs:=Oq b.ops 0 (s0 t) i0 hk3 (by omega) (by omega) ⟨by simp [s0],fun e he=>absurd he (by simp [s0])⟩
    exact⟨⟨by have:=hs.1;show(b.ops.foldl stp (s0 t)).evs.length<_;omega,hs.2⟩,si.regs,pk.1.sh,pk.2.sh⟩
   have sl:=si.vl
   have x1:=en.x1
   have y1:=en.y1
   have EX:f13 (if b.fin=1 then-1 else b.x,(iO t b).vals,())=((BU b (iO t b)).x,(iO t b).vals,()):=by
    rw [ah8]
    show _=(if b.fin=1 then []else(((iO t b).vals).getD (b.x).toNat default),_)
    by_cases c:b.fin=1
    ·rw [if_pos c,if_pos c,if_pos (by omega)]
    ·obtain⟨v1,v2,_⟩:=x1 c
     rw [if_neg c,if_neg c,if_neg (by omega)]
   have EY:f13 (if b.fin=1∨b.fin=2 then-1 else b.y,(iO t b).vals,())=((BU b (iO t b)).y,(iO t b).vals,()):=by
    rw [ah8]
    show _=(if 3≤b.fin then(((iO t b).vals).getD (b.y).toNat default)else [],_)
    by_cases c:b.fin=1∨b.fin=2
    ·rw [if_pos c,if_pos (Or.inl (by decide)),if_neg (show¬3≤b.fin by omega)]
    ·obtain⟨v1,v2,_⟩:=y1 (by omega)
     rw [if_neg c,if_neg (show¬(b.y<0∨((iO t b).vals.length:Int)≤b.y) by omega),if_pos (show 3≤b.fin by have:=hf;omega)]
   have shr:ShP (iO t b).regs:=sh.r
   simp (disch:=omega) only [RR,RB,h7,azX _ shr,azY _ shr,azZ,az0,az1,az2,Oz,EX,EY,hp7 _ sh.x,hf7 _ sh.x,hp7 _ sh.y,hf7 _ sh.y]
   exact⟨hp4 _ _ sh,by rw [eR];exact congrArg (fun z=>((iO t b).t,z.1,())) (hf4 (BU b (iO t b)) (b.pc+b.len) sh)⟩
  have hok:=hop i h1 h7
  have nxt:=fun {v:List aj} {tb':List Atom} {ev':List Ev} {rg':List (List aj)}=>Pt2.next (o:=((b.ops).getD (i).toNat default)) hA (by omega) rfl (v:=v) (tb':=tb') (ev':=ev') (rg':=rg')
  obtain⟨a3,a4,a5,a6⟩:=hA
  have ei:(i+1).toNat=i.toNat+1:=by omega
  obtain⟨sn,so⟩:=Om (o:=((b.ops).getD (i).toNat default)) si hok.k3 (by omega) (by omega)
  have vl:=si.vl
  have shv:∀k:Int,Sh (if k<0∨(V.length:Int)≤k then []else((V).getD (k).toNat default)):=fun k=>by
   split
   ·exact⟨by simp,fun m hm=>absurd hm (by simp)⟩
   ·rw [a4];exact(DK si.vok k).1.sh
  obtain⟨X,eX⟩:∃X,X=if(((b.ops).getD (i).toNat default)).x<0∨(V.length:Int)≤(((b.ops).getD (i).toNat default)).x then []else((V).getD ((((b.ops).getD (i).toNat default)).x).toNat default):=⟨_,rfl⟩
  obtain⟨Y,eY⟩:∃Y,Y=if(((b.ops).getD (i).toNat default)).y<0∨(V.length:Int)≤(((b.ops).getD (i).toNat default)).y then []else((V).getD ((((b.ops).getD (i).toNat default)).y).toNat default):=⟨_,rfl⟩
  have F1:f13 ((((b.ops).getD (i).toNat default)).x,V,())=(X,V,()):=by rw [ah8,eX]
  have F2:f13 ((((b.ops).getD (i).toNat default)).y,V,())=(Y,V,()):=by rw [ah8,eY]
  have shx:Sh X:=eX▸shv _
  have shy:Sh Y:=eY▸shv _
  have ex:hX ((b.ops).getD (i).toNat default)→X=xOf (SW t b i.toNat) ((b.ops).getD (i).toNat default):=fun h=>by
   have v:=hok.x1 h
   have v2:=v.2.1
   unfold xOf;rw [if_pos h,eX,if_neg (by rw [a4,vl];have:=v.1;omega),a4]
  have ey:hY ((b.ops).getD (i).toNat default)→Y=yOf (SW t b i.toNat) ((b.ops).getD (i).toNat default):=fun h=>by
   have v:=hok.y1 h
   have v2:=v.2.1
   unfold yOf;rw [if_pos h,eY,if_neg (by rw [a4,vl];have:=v.1;omega),a4]
  clear eX eY shv
  have vl':V.length=i.toNat:=by rw [a4];exact vl
  generalize hs:SW t b i.toNat=s at*
  generalize ho:((b.ops).getD (i).toNat default)=o at*
  have kd:=hok.kd
  subst a3 a5 a6
  have r4:s.regs.length=4:=si.r4
  have tsh:=si.tok.sh
  have cnl:=cn.ld
  have cni:=cn.inn
  have rsh:ShP s.regs:=si.regs
  have dn:=fun {v:List aj} {tb':List Atom} {ev':List Ev} {rg':List (List aj)} (h3:tb'=nT s o) (h4:v=nV s o) (h5:ev'=nE s o) (h6:rg'=nR s o)=>show((V.length:Int)+([v].length:Int)≤1073741824)∧(0≤i+1∧i+1≤b.ops.length∧Pt2 t b (i+1).toNat tb' (V++ [v]) ev' rg')∧(b.ops.length- (i+1)).toNat< (b.ops.length-i).toNat from⟨by simp only [List.length_cons,List.length_nil];omega,⟨by omega,by omega,by rw [ei];exact nxt h3 h4 h5 h6⟩,by omega⟩
  have el1:∀e:Ev,(s.evs.length:Int)+([e].length:Int)≤1073741824:=fun e=>by simp only [List.length_cons,List.length_nil];omega
  have T0:o.kind≠3→o.kind≠4→o.kind≠6→s.t=nT s o:=fun h3 h4 h6=>by unfold nT;rw [if_neg h3,if_neg (by omega)]
  have R0:o.kind≠8→s.regs=nR s o:=fun h=>by unfold nR;rw [if_neg h]
  have E0:¬evO o→s.evs=nE s o:=fun h=>by unfold nE;rw [if_neg h]
  have V0:o.kind=5∨o.kind=7∨o.kind=8→[]=nV s o:=fun h=>by unfold nV;rw [if_neg (by omega),if_neg (by omega),if_neg (by omega),if_neg (by omega)]
  rcases(by omega:o.kind=1∨o.kind=2∨o.kind=3∨o.kind=4∨o.kind=5∨o.kind=6∨o.kind=7∨o.kind=8)with c | c | c | c | c | c | c | c
  ·simp (disch:=omega) only [RR,RB,ho,h7,Oz,F1,F2,c,Int.reduceEq,hp3,hf3]
   exact⟨h1,dn (T0 (by omega) (by omega) (by omega)) (show dG o.k=nV s o by unfold nV;rw [if_pos c]) (E0 (by unfold evO;omega)) (R0 (by omega))⟩
  ·have k2:=hok.k2 (Or.inl c)
   simp (disch:=omega) only [RR,RB,ho,h7,Oz,F1,F2,c,Int.reduceEq,r4]
   exact⟨h1,k2.1,by omega,k2.1,by omega,dn (T0 (by omega) (by omega) (by omega)) (show((s.regs).getD (o.k).toNat default)=nV s o by unfold nV;rw [if_neg (by omega),if_pos c]) (E0 (by unfold evO;omega)) (R0 (by omega))⟩
  ·have d9:=hok.k3 c
   simp (disch:=omega) only [RR,RB,ho,h7,Oz,F1,F2,c,Int.reduceEq,hp9 o.k _ _ _ d9 shx shy tsh si.tok,hf9 o.k _ _ _ d9 shx shy tsh si.tok]
   have e1:=ex (by unfold hX;omega)
   have e2:=ey (by unfold hY;omega)
   exact⟨h1,dn (show(tDo s.t o.k X Y).1=nT s o by unfold nT;rw [if_pos c,e1,e2]) (show(tDo s.t o.k X Y).2=nV s o by unfold nV;rw [if_neg (by omega),if_neg (by omega),if_pos c,e1,e2]) (E0 (by unfold evO;omega)) (R0 (by omega))⟩
  ·have el:s.evs.length<1000000000:=by omega
   have ea:aOf s o=⟨2,qW s.evs 4,[],[]⟩:=by unfold aOf;rw [if_pos c,cnl]
   have e1:=ex (by unfold hX;omega)
   have e2:yOf s o=[]:=by unfold yOf;rw [if_neg (by unfold hY;omega)]
   simp (disch:=omega) only [RR,RB,ho,h7,Oz,F1,F2,c,Int.reduceEq,ah5 s.evs 4 s.t el tsh si.tok,ah6 s.evs 4 s.t el tsh si.tok,XR o X Y s.regs shx shy rsh,XU o X Y s.regs shx shy rsh,el1]
   exact⟨h1,dn (by unfold nT;rw [if_neg (by omega),if_pos (Or.inl c),ea]) (by unfold nV;rw [if_neg (by omega),if_neg (by omega),if_neg (by omega),if_pos (Or.inl c),ea]) (by unfold nE;rw [if_pos (by unfold evO;omega),if_pos (Or.inl c),c,e1,e2]) (R0 (by omega))⟩
  ·have e1:=ex (by unfold hX;omega)
   have e2:=ey (by unfold hY;omega)
   simp (disch:=omega) only [RR,RB,ho,h7,Oz,F1,F2,c,Int.reduceEq,XR o X Y s.regs shx shy rsh,XU o X Y s.regs shx shy rsh,el1]
   exact⟨h1,dn (T0 (by omega) (by omega) (by omega)) (V0 (by omega)) (by unfold nE;rw [if_pos (by unfold evO;omega),if_pos (Or.inr c),c,e1,e2]) (R0 (by omega))⟩
  ·have el:s.evs.length<1000000000:=by omega
   have ea:aOf s o=⟨3,qW s.evs 6,[],[]⟩:=by unfold aOf;rw [if_neg (by omega),cni]
   have e1:xOf s o=[]:=by unfold xOf;rw [if_neg (by unfold hX;omega)]
   have e2:yOf s o=[]:=by unfold yOf;rw [if_neg (by unfold hY;omega)]
   simp (disch:=omega) only [RR,RB,ho,h7,Oz,F1,F2,c,Int.reduceEq,ah5 s.evs 6 s.t el tsh si.tok,ah6 s.evs 6 s.t el tsh si.tok,XR o X Y s.regs shx shy rsh,XU o X Y s.regs shx shy rsh,el1]
   exact⟨h1,dn (by unfold nT;rw [if_neg (by omega),if_pos (Or.inr c),ea]) (by unfold nV;rw [if_neg (by omega),if_neg (by omega),if_neg (by omega),if_pos (Or.inr c),ea]) (by unfold nE;rw [if_pos (by unfold evO;omega),if_neg (by omega),c,e1,e2]) (R0 (by omega))⟩
  ·have e1:=ex (by unfold hX;omega)
   have e2:yOf s o=[]:=by unfold yOf;rw [if_neg (by unfold hY;omega)]
   simp (disch:=omega) only [RR,RB,ho,h7,Oz,F1,F2,c,Int.reduceEq,XR o X Y s.regs shx shy rsh,XU o X Y s.regs shx shy rsh,el1]
   exact⟨h1,dn (T0 (by omega) (by omega) (by omega)) (V0 (by omega)) (by unfold nE;rw [if_pos (by unfold evO;omega),if_neg (by omega),c,e1,e2]) (R0 (by omega))⟩
  ·have k2:=hok.k2 (Or.inr c)
   have e1:=ex (by unfold hX;omega)
   simp (disch:=omega) only [RR,RB,ho,h7,Oz,F1,F2,c,Int.reduceEq,r4]
   exact⟨h1,k2.1,by omega,k2.1,by omega,dn (T0 (by omega) (by omega) (by omega)) (V0 (by omega)) (E0 (by unfold evO;omega)) (by unfold nR;rw [if_pos c,e1])⟩
end Go.TX.F
namespace Go.TX.F
open Go Go.AE Go.TX
theorem ap0 {α:Type} [Inhabited α] (l:List α) (a:α) (i:Int) (h:0≤i):((l++ [a]).getD (i).toNat default)=if i=l.length then a else((l).getD (i).toNat default):=by
 by_cases c:i=l.length
 ·rw [if_pos c,c,List.getD_eq_getElem?_getD];simp
 ·rw [if_neg c,List.getD_eq_getElem?_getD,List.getD_eq_getElem?_getD]
  by_cases d:i.toNat<l.length
  ·rw [List.getElem?_append_left d]
  ·rw [List.getElem?_eq_none (by rw [List.length_append,List.length_singleton];omega),List.getElem?_eq_none (by omega)]
theorem abr {n:Int} {t u:List Atom} (h:Tj n t) (g:Tj n u):t=u:=by
 obtain⟨h1,h2⟩:=h
 obtain⟨g1,g2⟩:=g
 exact nJ (by omega) fun i i0 i1=>by
  have a:=h2 i i0 (by omega)
  have b:=g2 i i0 (by omega)
  exact a.trans b.symm
theorem aai:∀n:Nat,n≤4→Tj n (rN [] n).1
 | 0,_=>⟨rfl,All.zero⟩
 | n+1,hn=>by
  obtain⟨h1,h2⟩:=aai n (by omega)
  have ok:=EI yE (by simp) n (by omega)
  have e:bG (rN [] n).1 ⟨1,n,[],[]⟩=((rN [] n).1++ [⟨1,n,[],[]⟩],((rN [] n).1.length:Int)):=by
   rcases lK (rN [] n).1 ⟨1,n,[],[]⟩with⟨f1,f2⟩ | ⟨f1,f2,f3,_⟩
   ·unfold bG
    rw [if_neg (by omega),if_neg]
    rintro(g | g)
    ·exact g (by unfold iD;rw [if_neg (by simp)];exact⟨⟨rfl,rfl⟩,Or.inl ⟨rfl,by dsimp only;omega,by dsimp only;omega⟩⟩)
    ·omega
   ·exfalso
    have a:=h2 _ f1 (by omega)
    dsimp only at a f3
    rw [a]at f3
    injection f3 with _ g
    omega
  have e2:(rN [] (n+1)).1=(rN [] n).1++ [⟨1,n,[],[]⟩]:=by rw [Fv,e]
  rw [e2]
  refine⟨by rw [List.length_append,List.length_singleton];omega,fun i i0 i1=> ?_⟩
  dsimp only
  rw [ap0 _ _ _ i0]
  by_cases c:i=((rN [] n).1.length:Int)
  ·rw [if_pos c,c,h1]
  ·rw [if_neg c];exact h2 i i0 (by omega)
theorem axn {t:List Atom} (h:Tj 4 t):t=t4:=abr h (aai 4 (Nat.le_refl _))
end Go.TX.F
namespace Go.TX.F
open Go Go.AE Go.TX
theorem ap1 {p1:List aj×List aj×Unit→Bool} {f1:List aj×List aj×Unit→Int×Unit} (hp1:∀a b,Sh a→p1 (a,b,())=true) (hf1:∀a b,Sh a→f1 (a,b,())=(fQ a b,())) (a b:List (List aj)) (ha:ShP a):VW (std 0).al p1 f1 (a,b,()) (fun y=>y=(bp (a=b),())):=by
 have hlen:=ha.1
 dsimp only [VW,Tup.q,Tup.o]
 simp (disch:=omega) only [RR]
 refine⟨fun h=> ?_,fun h=> ?_⟩
 ·rw [dD (fun e=>h (by rw [e]))]
 have hl:a.length=b.length:=by omega
 refine ak (fun(y:List (List aj)×List (List aj)×Int×Unit)=>y.1=a∧y.2.1=b∧0≤y.2.2.1∧y.2.2.1≤a.length∧All y.2.2.1 (fun i=>a.getD i.toNat default=b.getD i.toNat default)) (fun y=>(a.length-y.2.2.1).toNat) ⟨rfl,rfl,by simp,by simp,All.zero⟩ ?_
 rintro⟨(l1:List (List aj)),(l2:List (List aj)),(i:Int),⟨⟩⟩ hI
 dsimp only at hI ⊢
 obtain⟨rfl,rfl,h1,h2,h3⟩:=hI
 simp (disch:=omega) only [RR,hp1 _ _ (ha.at _),hf1 _ _ (ha.at _),iR]
 refine⟨fun h4=>⟨by omega,by omega,by omega,by omega,fun h5=> ?_,fun h5=>⟨⟨by omega,by omega,h3.snoc h5⟩,by omega⟩⟩,fun h4=> ?_⟩
 ·rw [dD]
  intro e;rw [e]at h5;exact h5 rfl
 ·rw [dz (nJ hl (h3.le (by omega)))]
theorem ap2 {p1:List aj×List aj×Unit→Bool} {f1:List aj×List aj×Unit→Int×Unit} (hp1:∀a b,Sh a→p1 (a,b,())=true) (hf1:∀a b,Sh a→f1 (a,b,())=(fQ a b,())) {p2:List (List aj)×List (List aj)×Unit→Bool} {f2:List (List aj)×List (List aj)×Unit→Bool×Unit} (hp2:∀a b,ShP a→p2 (a,b,())=true) (hf2:∀a b,ShP a→f2 (a,b,())=(bp (a=b),())) (a b:Ev) (ha:ShE a):VX (std 0).al p1 f1 p2 f2 (a,b,()) (fun y=>y=(bp (a=b),())):=by
 dsimp only [VX,Tup.q,Tup.o]
 simp (disch:=omega) only [RR,RB,hp1 _ _ ha.1,hf1 _ _ ha.1,hp1 _ _ ha.2.1,hf1 _ _ ha.2.1,hp2 _ _ ha.2.2,hf2 _ _ ha.2.2,iR]
 simp only [A8,←mK]
 refine Prod.ext (lJ ?_) rfl
 cases a;cases b;simp only [Ev.mk.injEq]
 constructor<;>(intro h;simp only [h,and_self])
theorem ap3 {p1:List aj×List aj×Unit→Bool} {f1:List aj×List aj×Unit→Int×Unit} (hp1:∀a b,Sh a→p1 (a,b,())=true) (hf1:∀a b,Sh a→f1 (a,b,())=(fQ a b,())) {p2:Ev×Ev×Unit→Bool} {f2:Ev×Ev×Unit→Bool×Unit} (hp2:∀a b,ShE a→p2 (a,b,())=true) (hf2:∀a b,ShE a→f2 (a,b,())=(bp (a=b),())) {p3:List (List aj)×List (List aj)×Unit→Bool} {f3:List (List aj)×List (List aj)×Unit→Bool×Unit} (hp3:∀a b,ShP a→p3 (a,b,())=true) (hf3:∀a b,ShP a→f3 (a,b,())=(bp (a=b),())) (a b:Sym) (ha:ShY a):V3 (std 0).al p1 f1 p2 f2 p3 f3 (a,b,()) (fun y=>y=(bp (a=b),())):=by
 dsimp only [V3,Tup.q,Tup.o]
 simp (disch:=omega) only [RR,RB,hp1 _ _ ha.x,hf1 _ _ ha.x,hp1 _ _ ha.y,hf1 _ _ ha.y,hp3 _ _ ha.r,hf3 _ _ ha.r,iR,aT,jv]
 have hlen:=ha.e.1
 refine⟨fun h=> ?_,fun h=> ?_⟩
 ·rw [dD];rintro rfl
  revert h;simp
 refine ak (fun(y:Int×Sym×Sym×Unit)=>y.2.1=a∧y.2.2.1=b∧0≤y.1∧y.1≤a.events.length∧All y.1 (fun i=>a.events.getD i.toNat default=b.events.getD i.toNat default)) (fun y=>(a.events.length-y.1).toNat) ⟨rfl,rfl,by simp,by simp,All.zero⟩ ?_
 rintro⟨(i:Int),(a':Sym),(b':Sym),⟨⟩⟩ hI
 dsimp only at hI ⊢
 obtain⟨rfl,rfl,h1,h2,h3⟩:=hI
 have hl:a'.events.length=b'.events.length:=by
  have:=h.1.1.1.1.1;omega
 simp (disch:=omega) only [RR,RB,hp2 _ _ (ha.e.at _),hf2 _ _ (ha.e.at _),aT,jv]
 refine⟨fun h4=>⟨by omega,by omega,by omega,by omega,fun h5=> ?_,fun h5=>⟨⟨by omega,by omega,h3.snoc h5⟩,by omega⟩⟩,fun h4=> ?_⟩
 ·rw [dD]
  rintro rfl;exact h5 rfl
 ·rw [dz]
  obtain⟨⟨⟨⟨⟨g1,g2⟩,g3⟩,g4⟩,g5⟩,g6⟩:=h
  exact Sym.ext (nJ hl (h3.le (by omega))) g2 (by omega) g5 g6 (by omega)
theorem ap4 {p1:Blk×Unit→Bool} {f1:Blk×Unit→Bool×Unit} (hp1:∀b,b.ops.length<1000000000→p1 (b,())=true) (hf1:∀b,b.ops.length<1000000000→f1 (b,())=(bp (gH b),())) {p2:Blk×Blk×Unit→Bool} {f2:Blk×Blk×Unit→Bool×Unit} (hp2:∀a b,a.ops.length<1000000000→p2 (a,b,())=true) (hf2:∀a b,a.ops.length<1000000000→f2 (a,b,())=(bp (a=b),())) {p3:Unit→Bool} {f3:Unit→List Atom×List (List aj)×Unit} (hp3:p3 ()=true) (hf3:Tj 4 (f3 ()).1∧(f3 ()).2.1.length=4∧∀p∈(f3 ()).2.1,Sh p) {p4:List Atom×Blk×Unit→Bool} {f4:List Atom×Blk×Unit→List Atom×Sym×Unit} (hp4:∀t b,ShT t→b.ops.length<1000000000→p4 (t,b,())=true) (hf4:∀t b,ShT t→b.ops.length<1000000000→f4 (t,b,())=((dH t b).1,(dH t b).2,())) {p5:Sym×Sym×Unit→Bool} {f5:Sym×Sym×Unit→Bool×Unit} (hp5:∀a b,ShY a→p5 (a,b,())=true) (hf5:∀a b,ShY a→f5 (a,b,())=(bp (a=b),())) (b c:Blk) (hb:b.ops.length<1000000000) (hc:c.ops.length<1000000000):V4 (std 0).al p1 f1 p2 f2 p3 f3 p4 f4 p5 f5 (b,c,()) (fun y=>y=(chk b c,())):=by
 have s4:ShT t4:=afm.1.sh
 have y1:=Ca t4 b
 have hf3:=axn hf3.1
 dsimp only [V4,Tup.q,Tup.o]
 simp (disch:=omega) only [RR,RB,hp1 b hb,hf1 b hb,hp1 c hc,hf1 c hc,hp2 b c hb,hf2 b c hb,hp3,hf3,hp4 t4 b s4 hb,hf4 t4 b s4 hb,hp4 _ c y1.2 hc,hf4 _ c y1.2 hc,hp5 _ _ y1.1,hf5 _ _ y1.1,aT,jv]
 unfold chk
 refine⟨fun h=> ?_,fun h=>⟨fun e=> ?_,fun e=> ?_⟩⟩
 ·rw [dD];rintro⟨h1,h2,h3,h4,_⟩;simp_all
 ·rw [dz];exact⟨h.1.1.1,h.1.1.2,by simp_all,by simp_all,Or.inl e⟩
 ·refine Prod.ext (lJ ⟨fun g=>⟨h.1.1.1,h.1.1.2,by simp_all,by simp_all,Or.inr g⟩,fun g=>g.2.2.2.2.resolve_left e⟩) rfl
def tT (q:Cer):Int×Int×Int×Int×Int×Int×Int×Int×Int×Int×Int×Int×List IOp×List IOp×Unit:=(q.base.pc,q.base.len,q.base.fin,q.base.x,q.base.y,q.base.k,q.made.pc,q.made.len,q.made.fin,q.made.x,q.made.y,q.made.k,q.base.ops,q.made.ops,())
def yK (l:List Cer) (q:Cer):List Cer:=(l++ [q]).drop (l.length+1-3)
theorem ap5 {p1:Blk×Blk×Unit→Bool} {f1:Blk×Blk×Unit→Bool×Unit} (hp1:∀b c,b.ops.length<1000000000→c.ops.length<1000000000→p1 (b,c,())=true) (hf1:∀b c,b.ops.length<1000000000→c.ops.length<1000000000→f1 (b,c,())=(chk b c,())) (l:List Cer) (h:ShD l):Wt (std 0).al p1 f1 (l,()) (fun y=>y=(bp (Li l),())):=by
 have mE:∀c:Blk,Co.mk .blk (c.pc,c.len,c.ops,c.fin,c.x,c.y,c.k,())=c:=fun _=>rfl
 dsimp only [Wt,Tup.q,Tup.o,C8]
 have L:=h.1
 simp (disch:=omega) only [RR,CRB,mE]
 refine⟨fun g=>by rw [dD (fun e=>by have:=e.1;omega)],fun g=> ?_⟩
 refine ak (fun(y:List Cer×Int×Unit)=>y.1=l∧0≤y.2.1∧y.2.1≤l.length∧¬∃q∈l.take y.2.1.toNat,chk q.base q.made=false) (fun y=>(l.length-y.2.1).toNat) ⟨rfl,by simp,by simp,by rintro⟨q,h,_⟩;cases h⟩ ?_
 rintro⟨(l':List Cer),(i:Int),⟨⟩⟩ hI
 dsimp only at hI ⊢
 obtain⟨rfl,h1,h2,h3⟩:=hI
 have a:=h.at i.toNat
 simp (disch:=omega) only [RR,CRB,mE,hp1 (((l').getD (i).toNat default)).base (((l').getD (i).toNat default)).made (by omega) (by omega),hf1 (((l').getD (i).toNat default)).base (((l').getD (i).toNat default)).made (by omega) (by omega)]
 refine⟨fun g4=>⟨h1,g4,h1,g4,fun e=> ?_,fun e=>⟨⟨by omega,by omega,?_⟩,by omega⟩⟩,fun g4=> ?_⟩
 ·rw [dD];intro v;have:=v.2 _ (dJ h1 g4 (d:=default));rw [e]at this;cases this
 ·rw [show(i+1).toNat=i.toNat+1 by omega]
  exact fun x=>((Oy (G:=fun q:Cer=>chk q.base q.made=false) (by omega)).1 x).elim h3 (fun z=>by rw [e]at z;cases z)
 ·rw [List.take_of_length_le (by omega)]at h3
  rw [dz]
  exact⟨by omega,fun q hq=>by
   cases c:chk q.base q.made with
   | true=>rfl
   | false=>exact absurd ⟨q,hq,c⟩ h3⟩
theorem ap6 {p1:Blk×Unit→Bool} {f1:Blk×Unit→Int×Int×Int×Int×Int×Int×List IOp×Unit} (hp1:∀b,b.ops.length<1000000→p1 (b,())=true) (hf1:∀b,b.ops.length<1000000→f1 (b,())=(b.pc,b.len,b.fin,b.x,b.y,b.k,b.ops,())) (q:Cer) (h1:q.base.ops.length<1000000) (h2:q.made.ops.length<1000000):XE (std 0).al p1 f1 (q,()) (fun y=>y=tT q):=by
 have mE:∀c:Blk,Co.mk .blk (c.pc,c.len,c.ops,c.fin,c.x,c.y,c.k,())=c:=fun _=>rfl
 dsimp only [XE,Tup.q,Tup.o,C8]
 simp (disch:=omega) only [RR,CRB,mE,hp1 _ h1,hf1 _ h1,hp1 _ h2,hf1 _ h2];rfl
theorem az3 {p1:Blk×Unit→Bool} {f1:Blk×Unit→Int×Int×Int×Int×Int×Int×List IOp×Unit} (hp1:∀b,b.ops.length<1000000000→p1 (b,())=true) (hf1:∀b,b.ops.length<1000000000→f1 (b,())=bk7 b) (q:Cer) (h1:q.base.ops.length<1000000) (h2:q.made.ops.length<1000000):amm (std 0).al p1 f1 (q,()) (fun y=>y=tT q):=by
 have mE:∀c:Blk,Co.mk .blk (c.pc,c.len,c.ops,c.fin,c.x,c.y,c.k,())=c:=fun _=>rfl
 dsimp only [amm,Tup.q,Tup.o,C8]
 simp (disch:=omega) only [RR,CRB,mE,hp1 _ (show q.base.ops.length<1000000000 by omega),hf1 _ (show q.base.ops.length<1000000000 by omega),hp1 _ (show q.made.ops.length<1000000000 by omega),hf1 _ (show q.made.ops.length<1000000000 by omega)];rfl
theorem axo (q:Cer):Co.mk .cer ((tT q).1,(tT q).2.1,(tT q).2.2.2.2.2.2.2.2.2.2.2.2.1,(tT q).2.2.1,(tT q).2.2.2.1,(tT q).2.2.2.2.1,(tT q).2.2.2.2.2.1,(tT q).2.2.2.2.2.2.1,(tT q).2.2.2.2.2.2.2.1,(tT q).2.2.2.2.2.2.2.2.2.2.2.2.2.1,(tT q).2.2.2.2.2.2.2.2.1,(tT q).2.2.2.2.2.2.2.2.2.1,(tT q).2.2.2.2.2.2.2.2.2.2.1,(tT q).2.2.2.2.2.2.2.2.2.2.2.1,())=q:=rfl
theorem axp {p1:Cer×Unit→Bool} {f1:Cer×Unit→Int×Int×Int×Int×Int×Int×Int×Int×Int×Int×Int×Int×List IOp×List IOp×Unit} (hp1:∀q,q.base.ops.length<1000000→q.made.ops.length<1000000→p1 (q,())=true) (hf1:∀q,q.base.ops.length<1000000→q.made.ops.length<1000000→f1 (q,())=tT q) (l:List Cer) (h:ShC l):aeH (std 0).al p1 f1 (l,()) (fun y=>y=(l,())):=by
 have hlen:=h.1
 dsimp only [aeH,Tup.q,Tup.o,C8]
 refine ak (fun(y:List Cer×Int×Int×List Cer×Unit)=>y.1=l∧y.2.1=l.length∧y.2.2.2.1=l.take y.2.2.1.toNat∧0≤y.2.2.1∧y.2.2.1≤l.length) (fun y=>(l.length-y.2.2.1).toNat) ⟨rfl,rfl,by simp,by simp,by simp⟩ ?_
 rintro⟨(l:List Cer),(m:Int),(i:Int),(o:List Cer),⟨⟩⟩ hI
 dsimp only at hI ⊢
 obtain⟨rfl,rfl,rfl,h1,h2⟩:=hI
 have a:=h.at i.toNat
 simp (disch:=omega) only [RR,hp1 _ a.1 a.2,hf1 _ a.1 a.2,axo]
 refine⟨fun h4=>⟨by omega,by omega,?_,⟨bL h1 h4 rfl,by omega,by omega⟩,by omega⟩,fun h4=>by rw [List.take_of_length_le (by omega)]⟩
 have:=List.length_take_le' i.toNat l
 simp only [List.length_cons,List.length_nil];omega
theorem aiV (l:List Cer) (n:Int) (hl:l.length<1000000) (h0:0≤n) (h1:n<1000000):aeI (std 0).al (l,n,()) (fun y=>y=(l.drop (l.length-n.toNat),())):=by
 dsimp only [aeI,Tup.q,Tup.o]
 simp (disch:=omega) only [RR]
 rw [show((l.length:Int)).toNat=l.length by omega,List.take_of_length_le (Nat.le_refl _)]
 split
 ·rw [show((l.length:Int)-n).toNat=l.length-n.toNat by omega];exact⟨by omega,by omega,by omega,rfl⟩
 ·rw [show l.length-n.toNat=0 by omega];exact⟨by omega,by omega,by omega,rfl⟩
theorem az4 {p1:List Cer×Unit→Bool} {f1:List Cer×Unit→List Cer×Unit} (hp1:∀l,ShC l→p1 (l,())=true) (hf1:∀l,ShC l→f1 (l,())=(l,())) {p2:List Cer×Int×Unit→Bool} {f2:List Cer×Int×Unit→List Cer×Unit} (hp2:∀l n,l.length<1000000→0≤n→n<1000000→p2 (l,n,())=true) (hf2:∀l n,l.length<1000000→0≤n→n<1000000→f2 (l,n,())=(l.drop (l.length-n.toNat),())) (l:List Cer) (q:Cer) (h:ShC l) (h1:q.base.ops.length<1000000) (h2:q.made.ops.length<1000000):amn (std 0).al p1 f1 p2 f2 (l,q,()) (fun y=>y=(yK l q,())):=by
 have L:=h.1
 have e:(l++ [q]).length=l.length+1:=by rw [List.length_append,List.length_singleton]
 have sh:ShC (yK l q):=by
  unfold yK
  refine⟨by rw [List.length_drop];omega,fun c hc=> ?_⟩
  have:=List.mem_of_mem_drop hc
  rw [List.mem_append,List.mem_singleton]at this
  rcases this with g | rfl
  ·exact h.2 c g
  ·exact⟨h1,h2⟩
 have F:=hf2 (l++ [q]) 3 (by omega) (by omega) (by omega)
 rw [e]at F
 have F:f2 (l++ [q],3,())=(yK l q,()):=F
 dsimp only [amn,Tup.q,Tup.o]
 simp (disch:=omega) only [RR,hp1 l h,hf1 l h,hp2 (l++ [q]) 3 (by omega) (by omega) (by omega),F,hp1 _ sh,hf1 _ sh,List.length_cons,List.length_nil]
 omega
theorem ap7 {p1:Cer×Unit→Bool} {f1:Cer×Unit→Int×Int×Int×Int×Int×Int×Int×Int×Int×Int×Int×Int×List IOp×List IOp×Unit} (hp1:∀q,q.base.ops.length<1000000→q.made.ops.length<1000000→p1 (q,())=true) (hf1:∀q,q.base.ops.length<1000000→q.made.ops.length<1000000→f1 (q,())=tT q) (l:List Cer) (q:Cer) (h:ShC l) (h1:q.base.ops.length<1000000) (h2:q.made.ops.length<1000000):XF (std 0).al p1 f1 (l,q,()) (fun y=>y=(yK l q,())):=by
 have hlen:=h.1
 have mC:∀q:Cer,Co.mk .cer (q.base.pc,q.base.len,q.base.ops,q.base.fin,q.base.x,q.base.y,q.base.k,q.made.pc,q.made.len,q.made.ops,q.made.fin,q.made.x,q.made.y,q.made.k,())=q:=fun _=>rfl
 unfold tT at hf1
 dsimp only [XF,Tup.q,Tup.o,C8,List.cons_append,List.nil_append,List.map_cons,List.map_nil]at*
 refine ak (fun(y:List Cer×Int×Cer×List Cer×Unit)=>y.1=l∧y.2.2.1=q∧y.2.2.2.1=l.take y.2.1.toNat∧0≤y.2.1∧y.2.1≤l.length) (fun y=>(l.length-y.2.1).toNat) ⟨rfl,rfl,by simp,by simp,by simp⟩ ?_
 rintro⟨(l:List Cer),(i:Int),(q:Cer),(o:List Cer),⟨⟩⟩ hI
 dsimp only at hI ⊢
 obtain⟨rfl,rfl,rfl,i1,i2⟩:=hI
 have a:=h.at i.toNat
 simp (disch:=omega) only [RR,hp1 _ a.1 a.2,hf1 _ a.1 a.2,hp1 _ h1 h2,hf1 _ h1 h2,mC]
 have tl:=List.length_take_le' i.toNat l
 have lc:∀x:Cer,([x].length:Int)=1:=fun _=>rfl
 refine⟨fun g=>⟨i1,g,by rw [lc];omega,⟨bL i1 g rfl,by omega,by omega⟩,by omega⟩,fun g=> ?_⟩
 have et:l.take i.toNat=l:=List.take_of_length_le (by omega)
 have el:((l++ [q]).length:Int)=l.length+1:=by rw [List.length_append,List.length_singleton];omega
 rw [et]
 refine⟨by rw [lc];omega,?_⟩
 rw [el]
 have w:IntKind.i64.wrap ((l.length:Int)+1-3)=l.length+1-3:=w64 (by omega) (by omega)
 rw [w]
 unfold yK
 refine⟨fun g3=>⟨by omega,by omega,by omega,by omega,by omega,by omega,?_⟩,fun g3=>by rw [show l.length+1-3=0 by omega];rfl⟩
 rw [List.take_of_length_le (by omega),show((l.length:Int)+1-3).toNat=l.length+1-3 by omega]
theorem axq {p1:Blk×Blk×Unit→Bool} {f1:Blk×Blk×Unit→Bool×Unit} (hp1:∀a b,a.ops.length<1000000000→p1 (a,b,())=true) (hf1:∀a b,a.ops.length<1000000000→f1 (a,b,())=(bp (a=b),())) (a b:List Cer) (ha:ShC a):aeK (std 0).al p1 f1 (a,b,()) (fun y=>y=(bp (a=b),())):=by
 have mE:∀c:Blk,Co.mk .blk (c.pc,c.len,c.ops,c.fin,c.x,c.y,c.k,())=c:=fun _=>rfl
 have hlen:=ha.1
 dsimp only [aeK,Tup.q,Tup.o,C8]
 simp (disch:=omega) only [RR,CRB,mE]
 refine⟨fun h=> ?_,fun h=> ?_⟩
 ·rw [dD (fun e=>h (by rw [e]))]
 have hl:a.length=b.length:=by omega
 refine ak (fun(y:List Cer×List Cer×Int×Unit)=>y.1=a∧y.2.1=b∧0≤y.2.2.1∧y.2.2.1≤a.length∧All y.2.2.1 (fun i=>a.getD i.toNat default=b.getD i.toNat default)) (fun y=>(a.length-y.2.2.1).toNat) ⟨rfl,rfl,by simp,by simp,All.zero⟩ ?_
 rintro⟨(l1:List Cer),(l2:List Cer),(i:Int),⟨⟩⟩ hI
 dsimp only at hI ⊢
 obtain⟨rfl,rfl,h1,h2,h3⟩:=hI
 have A:=ha.at i.toNat
 simp (disch:=omega) only [RR,CRB,mE,hp1 (((l1).getD (i).toNat default)).base (((l2).getD (i).toNat default)).base (by omega),hf1 (((l1).getD (i).toNat default)).base (((l2).getD (i).toNat default)).base (by omega),hp1 (((l1).getD (i).toNat default)).made (((l2).getD (i).toNat default)).made (by omega),hf1 (((l1).getD (i).toNat default)).made (((l2).getD (i).toNat default)).made (by omega),aT,jv]
 refine⟨fun h4=>⟨h1,h4,h1,by omega,Or.inr h1,Or.inr h4,Or.inr h1,Or.inr (by omega),fun h5=> ?_,fun h5=>⟨⟨by omega,by omega,h3.snoc (Cer.ext h5.1 h5.2)⟩,by omega⟩⟩,fun h4=> ?_⟩
 ·rw [dD]
  intro e;rw [e]at h5;rcases h5 with h5 | h5<;>exact h5 rfl
 ·rw [dz (nJ hl (h3.le (by omega)))]
theorem ap8 {p1:List Int×Unit→Bool} {f1:List Int×Unit→List Int×Int×Unit} (hp1:∀b,By b→b.length<1000000000→p1 (b,())=true) (hf1:∀b,By b→b.length<1000000000→Bt (f1 (b,())).1∧(f1 (b,())).2.1=0) {p2:Int×List Int×Int×Unit→Bool} {f2:Int×List Int×Int×Unit→Blk×Blk×List Int×Int×Unit} (hp2:∀n b p,Bt b→0≤p→p<400000000→p2 (n,b,p,())=true) (hf2:∀n b p,Bt b→0≤p→p<400000000→(f2 (n,b,p,())).1.ops.length<100000∧(f2 (n,b,p,())).2.1.ops.length<100000∧(f2 (n,b,p,())).2.2.1=b∧p≤(f2 (n,b,p,())).2.2.2.1∧(f2 (n,b,p,())).2.2.2.1≤p+10000000) {p3:Int×List Int×Int×Unit→Bool} {f3:Int×List Int×Int×Unit→List Cer×List Int×Int×Unit} (hp3:∀n b p,Bt b→0≤p→p<300000000→p3 (n,b,p,())=true) (hf3:∀n b p,Bt b→0≤p→p<300000000→ShC (f3 (n,b,p,())).1∧(f3 (n,b,p,())).2.1=b∧p≤(f3 (n,b,p,())).2.2.1∧(f3 (n,b,p,())).2.2.1≤p+20000) (c:List Int) (hc:By c) (hl:c.length<1000000000):XD (std 0).al p1 f1 p2 f2 p3 f3 (c,()) (fun y=>ShC y.1∧y.2.2.2.1.length<1000000∧y.2.2.2.2.2.2.2.2.2.2.1.length<1000000):=by
 obtain⟨hb,e0⟩:=hf1 c hc hl
 generalize hbe:(f1 (c,())).1=b at hb
 obtain⟨a1,a2,a3,a4⟩:=hf3 9 b 0 hb (by omega) (by omega)
 obtain⟨x1,x2,_⟩:=hf2 9 b (f3 (9,b,0,())).2.2.1 hb (by omega) (by omega)
 dsimp only [XD,Tup.q,Tup.o]
 simp (disch:=omega) only [RR,RB,hp1 c hc hl,hbe,e0,hp3 9 b 0 hb (by omega) (by omega),a2,hp2 9 b (f3 (9,b,0,())).2.2.1 hb (by omega) (by omega)]
 exact⟨a1,by omega,by omega⟩
theorem afK (l:List Cer) (q:Cer):q∈yK l q∧(yK l q).length≤3∧0< (yK l q).length∧∀c∈yK l q,c∈l∨c=q:=by
 unfold yK
 have e:(l++ [q]).length=l.length+1:=by rw [List.length_append,List.length_singleton]
 refine⟨?_,by rw [List.length_drop];omega,by rw [List.length_drop];omega,fun c hc=>by
  have:=List.mem_of_mem_drop hc
  rwa [List.mem_append,List.mem_singleton]at this⟩
 have hl:l.length+1-3≤l.length:=by omega
 rw [List.drop_append_of_le_length hl]
 exact List.mem_append_right _ (List.mem_singleton.2 rfl)
theorem axr {p1:List Cer×Blk×Blk×Unit→Bool} {f1:List Cer×Blk×Blk×Unit→Bool×Unit} (hp1:∀l b c,ShC l→p1 (l,b,c,())=true) (hf1:∀l b c,ShC l→f1 (l,b,c,())=(bp (Tv l b c),())) {p2:List Cer×Unit→Bool} {f2:List Cer×Unit→Bool×Unit} (hp2:∀l,ShD l→p2 (l,())=true) (hf2:∀l,ShD l→f2 (l,())=(bp (Li l),())) {p3:List Cer×Cer×Unit→Bool} {f3:List Cer×Cer×Unit→List Cer×Unit} (hp3:∀l q,ShC l→q.base.ops.length<1000000→q.made.ops.length<1000000→p3 (l,q,())=true) (hf3:∀l q,ShC l→q.base.ops.length<1000000→q.made.ops.length<1000000→f3 (l,q,())=(yK l q,())) {p4:Blk×Blk×Unit→Bool} {f4:Blk×Blk×Unit→Bool×Unit} (hp4:∀b c,b.ops.length<1000000000→c.ops.length<1000000000→p4 (b,c,())=true) (hf4:∀b c,b.ops.length<1000000000→c.ops.length<1000000000→f4 (b,c,())=(chk b c,())) {p5:List Cer×List Cer×Unit→Bool} {f5:List Cer×List Cer×Unit→Bool×Unit} (hp5:∀a b,ShC a→p5 (a,b,())=true) (hf5:∀a b,ShC a→f5 (a,b,())=(bp (a=b),())) {p6:List Cer×Unit→Bool} {f6:List Cer×Unit→Bool×Unit} (hp6:∀l,ShD l→p6 (l,())=true) (hf6:∀l,ShD l→f6 (l,())=(bp (Li l),())) {p7:List Cer×Cer×Unit→Bool} {f7:List Cer×Cer×Unit→List Cer×Unit} (hp7:∀l q,ShC l→q.base.ops.length<1000000→q.made.ops.length<1000000→p7 (l,q,())=true) (hf7:∀l q,ShC l→q.base.ops.length<1000000→q.made.ops.length<1000000→f7 (l,q,())=(yK l q,())) {p8:List Int×Unit→Bool} {f8:List Int×Unit→List Cer×Int×Int×List IOp×Int×Int×Int×Int×Int×Int×List IOp×Int×Int×Int×Int×Unit} (hp8:∀c,By c→c.length<1000000000→p8 (c,())=true) (hf8:∀c,By c→c.length<1000000000→ShC (f8 (c,())).1∧(f8 (c,())).2.2.2.1.length<1000000∧(f8 (c,())).2.2.2.2.2.2.2.2.2.2.1.length<1000000) (c:List Int) (hc:By c):aeN (std 0).al p1 f1 p2 f2 p3 f3 p4 f4 p5 f5 p6 f6 p7 f7 p8 f8 (c,()) (fun y=>y=(true,())):=by
 have mC:∀(a1 a2:Int) (a3:List IOp) (a4 a5 a6 a7 a8 a9:Int) (a10:List IOp) (a11 a12 a13 a14:Int),Co.mk .cer (a1,a2,a3,a4,a5,a6,a7,a8,a9,a10,a11,a12,a13,a14,())=⟨⟨a1,a2,a3,a4,a5,a6,a7⟩,⟨a8,a9,a10,a11,a12,a13,a14⟩⟩:=fun _ _ _ _ _ _ _ _ _ _ _ _ _ _=>rfl
 have mB:∀(a1 a2:Int) (a3:List IOp) (a4 a5 a6 a7:Int),Co.mk .blk (a1,a2,a3,a4,a5,a6,a7,())=⟨a1,a2,a3,a4,a5,a6,a7⟩:=fun _ _ _ _ _ _ _=>rfl
 dsimp only [aeN,Tup.q,Tup.o,C8,List.cons_append,List.nil_append,List.map_cons,List.map_nil]at*
 simp (disch:=omega) only [RR]
 by_cases hl:1048576< (c.length:Int)
 ·simp (disch:=omega) only [RR,hl]
 ·obtain⟨D1,D2,D3⟩:=hf8 c hc (by omega)
  have P:=hp8 c hc (by omega)
  have P8:p8 (c,())=true:=P
  simp (disch:=omega) only [RR,hl,P8]
  generalize f8 (c,())=y at D1 D2 D3 ⊢
  obtain⟨B,eB⟩:∃B:Blk,B=⟨y.2.1,y.2.2.1,y.2.2.2.1,y.2.2.2.2.1,y.2.2.2.2.2.1,y.2.2.2.2.2.2.1,y.2.2.2.2.2.2.2.1⟩:=⟨_,rfl⟩
  obtain⟨M,eM⟩:∃M:Blk,M=⟨y.2.2.2.2.2.2.2.2.1,y.2.2.2.2.2.2.2.2.2.1,y.2.2.2.2.2.2.2.2.2.2.1,y.2.2.2.2.2.2.2.2.2.2.2.1,y.2.2.2.2.2.2.2.2.2.2.2.2.1,y.2.2.2.2.2.2.2.2.2.2.2.2.2.1,y.2.2.2.2.2.2.2.2.2.2.2.2.2.2.1⟩:=⟨_,rfl⟩
  have D2:B.ops.length<1000000:=by rw [eB];exact D2
  have D3:M.ops.length<1000000:=by rw [eM];exact D3
  simp only [mC,mB,←eB,←eM]
  clear eB eM
  generalize y.1=l at D1 ⊢
  obtain⟨m1,m2,m3,m4⟩:=afK l ⟨B,M⟩
  have shp:ShC (yK l ⟨B,M⟩):=⟨by omega,fun q hq=>by
   rcases m4 q hq with g | rfl
   ·exact D1.2 q g
   ·exact⟨D2,D3⟩⟩
  simp (disch:=omega) only [RR,hp3 l ⟨B,M⟩ D1 D2 D3,hf3 l ⟨B,M⟩ D1 D2 D3,hp7 l ⟨B,M⟩ D1 D2 D3,hf7 l ⟨B,M⟩ D1 D2 D3,hp5 _ _ shp,hf5 _ _ shp,hp1 _ B M shp,hf1 _ B M shp,hp2 l D1.d,hf2 l D1.d,hp6 l D1.d,hf6 l D1.d,hp2 _ shp.d,hf2 _ shp.d,hp4 B M (by omega) (by omega),hf4 B M (by omega) (by omega)]
  have hH:Tv (yK l ⟨B,M⟩) B M:=⟨⟨B,M⟩,m1,rfl,rfl⟩
  rw [dz hH]
  refine⟨fun h=> ?_,fun _=>⟨fun h=> ?_,fun _=> ?_⟩⟩
  ·rcases h with((h | h) | h) | h
   ·rw [dz True.intro]at h;cases h
   ·omega
   ·omega
   ·cases h
  ·simp at h
  ·by_cases o:Li l
   ·have e:bp (Li (yK l ⟨B,M⟩))=chk B M:=by
     by_cases k:chk B M=true
     ·rw [k,dz]
      exact⟨m2,fun q hq=>by
       rcases m4 q hq with g | rfl
       ·exact o.2 q g
       ·exact k⟩
     ·have k':chk B M=false:=by simpa using k
      rw [k'];exact dD fun g=>k (g.2 _ m1)
    rw [e];simp
   ·rw [dD o];rfl
end Go.TX.F
namespace Go.TX
open Go Go.AE
theorem enters_of {P:Program} {f:FuncId} {fn:Func} {c:Code} (hf:P.funcs[f]? =some fn) (hname:(fn.name== "runtime.NumGoroutine")=false) (hb:fn.body=some c):Enters P f:=by
 intro args w
 have h1:fn.name≠ "runtime.NumGoroutine" :=by simpa using hname
 simp [callFunc,hf,h1,hb,mark]
def aaj (P:Program):Nat→List Field→Bool
 | _,[]=>true
 | k,f::fs=> !(f.name== "_")&&f.offset==k&& (match P.underlying f.type with | some (.int _)=>true | _=>false)&&aaj P (k+1) fs
theorem aak {P:Program} (w:World) (d:Nat) (xs ys:List Int) (hl:xs.length=ys.length):∀(fs:List Field) (k:Nat),aaj P k fs=true→k+fs.length=xs.length→
  (Op.eqFields (d+1) (xs.map (Value.int .i64)).toArray (ys.map (Value.int .i64)).toArray fs).run P w= .ok (xs.drop k==ys.drop k) w
 | [],k,_,h2=>by
  rw [List.drop_eq_nil_of_le (show xs.length≤k by simp only [List.length_nil]at h2;omega),List.drop_eq_nil_of_le (show ys.length≤k by simp only [List.length_nil]at h2;omega)]
  simp [Op.eqFields]
 | f::fs,k,h1,h2=>by
  simp only [List.length_cons]at h2
  simp only [aaj,Bool.and_eq_true,Bool.not_eq_true',beq_eq_false_iff_ne,beq_iff_eq]at h1
  obtain⟨⟨⟨n1,n2⟩,n3⟩,n4⟩:=h1
  have hk:k<xs.length:=by omega
  have hk':k<ys.length:=by omega
  obtain⟨kd,hu⟩:∃kd,P.underlying f.type=some (.int kd):=by
   cases hu:P.underlying f.type with
   | none=>rw [hu]at n3;cases n3
   | some z=>cases z<;>(first | exact⟨_,rfl⟩ | (rw [hu]at n3;cases n3))
  have pk:P.plainKey f.type=true:=by unfold Program.plainKey;rw [hu]
  have p1:=run_part_plain w pk (xs:=(xs.map (Value.int .i64)).toArray) (off:=f.offset) (v:= .int .i64 xs[k]) (by rw [n2];simp [hk])
  have p2:=run_part_plain w pk (xs:=(ys.map (Value.int .i64)).toArray) (off:=f.offset) (v:= .int .i64 ys[k]) (by rw [n2];simp [hk'])
  have ih:=aak w d xs ys hl fs (k+1) n4 (by omega)
  simp only [Op.eqFields,if_pos n1,Sem.run_bind,p1,p2,Result.andThen_ok,run_equalIn_int w d f.type .i64 kd _ _ hu]
  have e:(xs.drop k==ys.drop k)=((xs[k]==ys[k])&& (xs.drop (k+1)==ys.drop (k+1))):=by rw [List.drop_eq_getElem_cons hk,List.drop_eq_getElem_cons hk'];rfl
  rw [e]
  by_cases c:(xs[k]==ys[k])=true
  ·rw [c]
   simp only [Bool.not_true,Bool.false_eq_true,if_false,ih,Bool.true_and]
  ·have c2:(xs[k]==ys[k])=false:=by simpa using c
   rw [c2]
   simp only [Bool.not_false,if_true,Sem.run_pure,Bool.false_and]
theorem ap9 {P:Program} {t:TypeId} {n:Nat} (hu:P.underlying t=some (.struct (P.fieldsOf t))) (hs:P.stoodInHeld t=false) (hg:P.eqGuardType P.depth t=false) (hf:aaj P 0 (P.fieldsOf t).toList=true) (hn:(P.fieldsOf t).size=n) (xs ys:List Int) (hx:xs.length=n) (hy:ys.length=n) (w:World):
  (Op.equal t (.agg (xs.map (Value.int .i64)).toArray) (.agg (ys.map (Value.int .i64)).toArray)).run P w= .ok (xs==ys) w∧
  (eqGuard .eql t (.tmp 0) (.tmp 0) (.agg (xs.map (Value.int .i64)).toArray) (.agg (ys.map (Value.int .i64)).toArray)).run P w= .ok () w:=by
 refine⟨?_,run_eqGuard_agg w _ _ _ _ _ _ hg⟩
 show(Op.equalIn (9999+1) t _ _).run P w=_
 rw [run_equalIn_struct w 9999 t _ _ hu hs,aak w 9998 xs ys (by omega) _ 0 hf (by rw [Array.length_toList];omega)]
 rfl
noncomputable def never (s:Sig):Ct aA s:={pre:=fun _=>false,fn:=fun _=>Classical.choice (vR _)}
theorem kU {E:Tab} {f:FuncId} {s:Sig} (h:Enters E.P f):dB E f (cu (never s)) where
 enters:=h
 calls:=by
  rintro args hh n K ⟨m,vs,h2,h3,h4,h5,cr,h6,h7,h8⟩
  exfalso
  unfold sS at h6
  split at h6
  ·split at h6
   ·split at h6
    ·split at h6
     ·cases h6
      have:=h7 false (List.mem_append_right _ (List.mem_singleton.2 rfl))
      cases this
     ·cases h6
    ·cases h6
   ·cases h6
  ·cases h6
abbrev az5:Sig:={args:=[.c (.rows true .u8)],objs:=[],res:=[.c .bool],eF:=[]}
def entry (W:World):Ctx:={K:=fun _ b=>b<W.heap.size,μ:=fun _=>none,n:=0}
theorem XV (W:World):bH (entry W) W []:=
 ⟨fun l o h=>(by cases h),fun l o l' o' b h=>(by cases h),fun f b ⟨l,o,h,_⟩=>(by cases h),fun f b h=>h,fun b h=>h⟩
theorem Tw {W W':World} {c':Ctx} {h':Heap} (g:Grow (entry W) W [] c' W' h'):RowKit.Below W.heap.size W W':=
 ⟨g.os,g.tape,g.output,g.size,fun k hk=>g.kept k hk fun⟨l,o,h,_⟩=>by cases h⟩
theorem ah9 {c:Ctx} {w:World} {v:Value} {r:PV} {N:NM} {b:Bool} (h1:bF c w v r) (h2:PVR N r (.c (.d true (.bool b)))):v= .bool b:=by
 cases h2 with
 | one h=>
  cases h with
  | c h=>
   cases h with
   | d h3 _=>
    subst h3
    cases h1 with
    | c _ _ h4=>cases h4 with
     | d _ _ _ h5=>cases h5;rfl
  | agg h=>cases h
theorem az6 {E:Tab} {f:FuncId} {c:Ct aA az5} (hc:dB E f (cu c)) {xs:List Int} {W:World} {v:Value} (hv:dU (fun b=>b<W.heap.size) W v (.rows 1 (aG .u8 xs)))
  (hg:sF E (entry W) W) (hp:c.pre (xs,())=true):Go.Calls E.P f #[v] W fun e W'=>e= .returned (.bool (c.fn (xs,())).1)∧RowKit.Below W.heap.size W W':=by
 refine(hc.calls [.c (.d true (.rows 1 (aG .u8 xs)))] [] 0 (fun r _ _=>PVR (nmh []) r (.c (.d true (.bool (c.fn (xs,())).1)))) ?_ (entry W) W [v] rfl (.cons (.c _ _ (.d true _ _ hv)) .nil) (XV W) hg).mono ?_
 ·refine⟨0,[.c (.d true (.rows .u8 xs))],[],.cons (.one (.c (.d rfl fun _=> .inl rfl))) .nil,⟨fun l o h=>(by cases h),fun _ _=>rfl⟩,rfl,_,rfl,?_,_,_,rfl,?_⟩
  ·intro b hb
   rcases List.mem_append.1 hb with h | h
   ·cases h
   ·rw [List.mem_singleton]at h;rw [h];exact hp
  ·intro r _ _ h _ _ _;exact h
 ·rintro e W' he
  cases e with
  | returned u=>
   obtain⟨c',r,h',j,g,_,_,h1,h2⟩:=he
   exact⟨by rw [ah9 h1 h2],Tw g⟩
  | outgrown=>exact he.elim
  | panicked _=>exact he.elim
open Go.RowKit Go.ChangeShapes Go.WideShapes Go.ChangeAt in
theorem afL {H:Type} {enc:TypeId×Value→H} {P:Program} {t e:TypeId} (ht:P.underlying t=some (.slice e)) (he:P.underlying e=some (.int .u8)) (hc:P.cellsOf e=1) {W:World} {base:Nat} {v:Value} {d:DataW H} {p:List MemPlace}
  (hval:Value.okWide P W .any base t v) (h:DataW.Trod enc P W 0 (fun _=>true) true t v d p) (hlt:∀x∈p,x.block<W.heap.size):
  ∃xs:List Int,dU (fun b=>b<W.heap.size) W v (.rows 1 (aG .u8 xs))∧∀z∈xs,0≤z∧z≤255:=by
 obtain⟨a0,len,cap,rfl⟩:=okWide_slice ht hval
 obtain⟨fuel,hf⟩:=h
 rcases open_ints ht he hc hf with⟨hcs,hx⟩ | ⟨a,len',cap',zs,hcs,_,hl,hm,hz,hx,hcell,hwz⟩
 ·simp [Value.cells]at hcs
  obtain⟨rfl,rfl,rfl⟩:=hcs
  exact⟨[],.none _ _ _,fun _ h=>by cases h⟩
 ·simp [Value.cells]at hcs
  obtain⟨rfl,rfl,rfl⟩:=hcs
  simp only [Prod.mk.injEq]at hx
  obtain⟨rfl,rfl⟩:=hx
  simp only [if_true]at hz
  have rng:∀z∈zs,0≤z∧z≤255:=fun z hz=>by
   obtain⟨i,hi,rfl⟩:=List.getElem_of_mem hz
   have:=range_u8 hwz i
   rwa [List.getElem?_eq_getElem hi]at this
  refine⟨zs.take len,?_,fun z h=>rng z (List.mem_of_mem_take h)⟩
  by_cases h0:len=0
  ·subst h0;exact .none _ _ _
  ·obtain⟨b,off,spot⟩:=a
   have hspot:spot=none:=by simpa [Addr.add]using World.cell?_spot (hcell 0 (by omega))
   subst hspot
   have hbW:b<W.heap.size:=hlt (.cell b off) (MemPlace.mem_row.2 ⟨0,by omega,by simp⟩)
   have hlen:(aG .u8 (zs.take len)).length=len:=by simp only [aG,List.length_map,List.length_take];omega
   have hget:∀i,i<len→(aG .u8 (zs.take len)).getD i []=[.int .u8 (zs.getD i 0)]:=fun i hi=>by
    simp only [aG,List.getD,List.getElem?_map,List.getElem?_take_of_lt hi,List.getElem?_eq_getElem (show i<zs.length by omega)]
    rfl
   refine .rows b off cap 1 len _ (fun i j=> .int .u8 (zs.getD i 0)) hbW hlen.symm hl (fun i j hi hj=> ?_) (fun i hi=> ?_) (fun i j hi hj=> ?_)
   ·rw [hlen]at hi
    have:=hcell i (by omega)
    rw [add_plain]at this
    rw [show off+i*1+j=off+i by omega]
    exact this
   ·rw [hlen]at hi;rw [hget i hi];rfl
   ·rw [hlen]at hi
    have hj0:j=0:=by omega
    subst hj0
    unfold gd;rw [hget i hi];exact .int _ _
end Go.TX
namespace Go.TX.Seat
open Go Go.AE Go.TX Go.TX.F Go.Proofs
set_option maxRecDepth 100000
theorem az7:∀t n,E.ieq t=some n→∀(xs ys:List Int),xs.length=n→ys.length=n→∀w,
  (Op.equal t (.agg (xs.map (Value.int .i64)).toArray) (.agg (ys.map (Value.int .i64)).toArray)).run E.P w= .ok (xs==ys) w∧
  (eqGuard .eql t (.tmp 0) (.tmp 0) (.agg (xs.map (Value.int .i64)).toArray) (.agg (ys.map (Value.int .i64)).toArray)).run E.P w= .ok () w:=by
 intro t n h
 obtain⟨c,hc,rfl⟩:∃c,ieq t=some c∧c.size=n:=by
  have h':(ieq t).map (fun c=>c.size)=some n:=h
  cases hi:ieq t with
  | none=>rw [hi]at h';cases h'
  | some c=>rw [hi]at h';cases h';exact⟨c,rfl,rfl⟩
 unfold ieq at hc
 split at hc
 all_goals first | (cases hc;exact ap9 (by kernel_rfl) (by kernel_rfl) (by kernel_rfl) (by kernel_rfl) (by kernel_rfl)) | cases hc
theorem hE:aD E:=⟨azE,az7⟩
theorem az8:∀t c,X.ieq t=some c→(c= .ins∧E.ieq t=some 4)∨(c= .iop∧E.ieq t=some 5):=by
 intro t c h
 have h:ieq t=some c:=h
 have e:E.ieq t=(ieq t).map fun c=>c.size:=rfl
 rw [e,h]
 unfold ieq at h
 split at h
 all_goals first | (cases h;first | exact Or.inl ⟨rfl,rfl⟩ | exact Or.inr ⟨rfl,rfl⟩) | cases h
theorem xok:XOK X E:=⟨rfl,fun g c h=>(by cases h),az8⟩
theorem hm:E.P.follows .mixedOrders=true:=by kernel_rfl
theorem hlN:∀p∈([]:List (FuncId×Sigma (Ct aA))),dB E p.1 (cu p.2.2):=fun _ h=>by cases h
theorem hlC {f:FuncId} {s:Sig} {c:Ct aA s} {l:List (FuncId×Sigma (Ct aA))} (h:dB E f (cu c)) (r:∀p∈l,dB E p.1 (cu p.2.2)):∀p∈(f,⟨s,c⟩)::l,dB E p.1 (cu p.2.2):=fun p hp=>by
 rcases List.mem_cons.1 hp with rfl | hp
 ·exact h
 ·exact r p hp
@[reducible] def _root_.Go.TX.Fn.c {E : Tab} {f : FuncId} {s : Sig} {F : iI s.inp → (iI s.out → Prop) → Prop} {c : Ct aA s} (_ : Fn E f F c) : Ct aA s := c
theorem mk {lk:ay} {f:FuncId} {fn:Func} (hf:E.P.funcs[f]? =some fn) {l:List (FuncId×Sigma (Ct aA))} (hl:∀p∈l,dB E p.1 (cu p.2.2)) {ord:List (Nat×List gy)} {s:Sig} {an:Ann}
 {F:iI s.inp→(iI s.out→Prop)→Prop} (h:Ru X E (std 0) ord an s fn l F) (hb:fn.body.isSome=true:=by rfl) (hn:(fn.name== "runtime.NumGoroutine")=false:=by kernel_rfl):Fn E f F (cn F):=azt hE xok hm hf hb (fun _=>enters_of hf hn) hl h
theorem afM {E:Tab} {f:FuncId} {c:Ct aA {args:=[.c (.int .u64)],objs:=[],res:=[.c (.int .i64)],eF:=[]}} {g:Int→Int} (hent:Enters E.P f) (hg:(fun x:Int=>(c.fn (x,())).1)=g)
  (h:∀(x:Int) (w:World),c.pre (x,())=true→Go.Calls E.P f #[.int .u64 x] w fun e w'=>e= .returned (.int .i64 (g x))∧w'=w):dB E f (cu c) where
 enters:=hent
 calls:=by
  rintro args hh n K ⟨m,qs,hs,hargs,HR,hlen,cr,hcall,ahA,v,kT,hvk,hK⟩ c1 w vs hcn rT Hh Gl
  have key:∀f0 (x:Int),qs=[.c (.d f0 (.int .u64 x))]→sS (std m) hs {args:=[.c (.int .u64)],objs:=[],res:=[.c (.int .i64)],eF:=[]} c qs=some {ck:=[c.pre (x,())],ts:=[.i],y:=c.fn (x,()),touched:=[],pure:=true,k:=fun y=>some (.c (.d true (.int .i64 y.1)),hs)}:=by
   intro f0 x e;subst e;rfl
  have hq:∃f0 x,qs=[.c (.d f0 (.int .u64 x))]:=by
   unfold sS at hcall
   cases qs with
   | nil=>simp [oV]at hcall
   | cons q r=>
    cases r with
    | cons q2 r2=>
     exfalso
     simp only [oV]at hcall
     cases hx:LY (std m) hs (.c (.int .u64)) q (es0 (std m) 0 [])with
     | none=>rw [hx]at hcall;simp at hcall
     | some s=>rw [hx]at hcall;simp [oV]at hcall
    | nil=>
     simp only [oV]at hcall
     cases q with
     | c y=>
      simp only [LY,extC]at hcall
      cases y with
      | d f0 y=>
       cases y with
       | int k x=>
        by_cases hk:IntKind.u64=k
        ·subst hk;exact⟨f0,x,rfl⟩
        ·simp [hk]at hcall
       | _=>simp at hcall
      | _=>simp at hcall
     | _=>simp [LY]at hcall
  obtain⟨f0,x,rfl⟩:=hq
  rw [key f0 x rfl]at hcall
  simp only [Option.some.injEq]at hcall
  subst hcall
  simp only [Option.some.injEq,Prod.mk.injEq]at hvk
  obtain⟨rfl,rfl⟩:=hvk
  have hpre:=ahA _ (List.mem_singleton.2 rfl)
  have hv:vs=[.int .u64 x]:=by
   cases hargs with
   | cons h1 h2=>
    cases h2
    cases rT with
    | cons h3 h4=>
     cases h4
     cases h1 with
     | one h1=>
      cases h1 with
      | c h1=>
       cases h1 with
       | d h5 _=>
        subst h5
        cases h3 with
        | c _ _ h6=>cases h6 with
         | d _ _ _ h7=>cases h7;rfl
      | agg h1=>cases h1
  subst hv
  refine(h x w hpre).mono ?_
  rintro e w' ⟨rfl,rfl⟩
  refine⟨c1,.c (.d true (.int .i64 (g x))),hh,0,.refl _ _ _,Hh,hcn,.c _ _ (.d _ _ _ (.int _ _)),hK _ _ _ ?_ HR (.refl _ _ _) hlen⟩
  rw [←hg]
  exact .one (.c (.d rfl fun _=> .inl rfl))
end Go.TX.Seat
namespace Go.TX.F
open Go Go.AE Go.TX Go.TX.Seat Go.Proofs
set_option maxRecDepth 100000
def kV:=mk Tryz.func47 hlN (amw (std 0))
noncomputable def aQ:=kV.c
def mP:=fun a b c=>(kV.cs (ae4 a b c)).1
def mQ:=fun a b c=>(kV.cs (ae4 a b c)).2
def A9:=mk Tryz.func99 hlN (amx (std 0))
noncomputable def iw:=A9.c
def OA:=fun a=>(A9.cs (ae5 a)).1
def OB:=fun a=>(A9.cs (ae5 a)).2
def XW:=mk Tryz.func136 (hlC kV.ok hlN) (amy (std 0) aQ)
noncomputable def JC:=XW.c
def wU:=fun k=>XW.cs (apg mP mQ k)
def aqa:=fun k=>(wU k).1
def aqb:=fun k=>(wU k).2
def OC:=mk Tryz.func100 (hlC XW.ok hlN) (amA (std 0) JC)
noncomputable def qx:=OC.c
def Ce:=fun ops x n h1=>OC.cs (aph aqa aqb ops x n h1)
def afN:=fun ops x n h1=>(Ce ops x n h1).1
def afO:=fun ops x n h1=>(Ce ops x n h1).2
def XY:=mk Tryz.func48 (hlC A9.ok (hlC kV.ok (hlC OC.ok hlN))) (amB (std 0) iw aQ qx)
noncomputable def JE:=XY.c
def EL:=fun ops i len h0 h1 h3=>XY.cs (apj OA OB mP mQ afN afO ops i len h0 h1 h3)
def aqc:=fun ops i len h0 h1 h3=>(EL ops i len h0 h1 h3).1
def aqd:=fun ops i len h0 h1 h3=>(EL ops i len h0 h1 h3).2
def XZ:=mk Tryz.func49 (hlC A9.ok (hlC OC.ok hlN)) (amC (std 0) iw qx)
noncomputable def JD:=XZ.c
def Cg:=fun b=>XZ.cs (apk OA OB afN afO b)
def aqe:=fun b=>(Cg b).1
def aqf:=fun b=>(Cg b).2
def qX:=mk Tryz.func22 (hlC kV.ok (hlC XZ.ok (hlC XY.ok hlN))) (amD (std 0) aQ JD JE)
noncomputable def bK:=qX.c
def EM:=fun b h2=>qX.cs (apl mP mQ aqe aqf aqc aqd b h2)
def wV:=fun b h2=>(EM b h2).1
def wW:=fun b h2=>(EM b h2).2
def OD:=mk Tryz.func23 hlN (amE (std 0))
noncomputable def J6:=OD.c
def aqg:=fun a b ha=>(OD.cs (afE a b ha)).1
def aqh:=fun a b ha=>(OD.cs (afE a b ha)).2
def DR:=mk Tryz.func50 (hlC kV.ok hlN) (amF (std 0) aQ)
noncomputable def iy:=DR.c
def wX:=fun a=>DR.cs (aoM mP mQ a)
def OE:=fun a=>(wX a).1
def OG:=fun a=>(wX a).2
def OH:=mk Tryz.func24 (hlC DR.ok hlN) (amG (std 0) iy)
noncomputable def qG:=OH.c
def zC:=OH.cs (ao9 OE OG)
def afP:=(zC).1
def afQ:=(zC).2
def DT:=mk Tryz.func111 hlN (amH (std 0))
noncomputable def jO:=DT.c
def X0:=fun a b ha=>(DT.cs (ae8 a b ha)).1
def X3:=fun a b ha=>(DT.cs (ae8 a b ha)).2
def X4:=mk Tryz.func144 (hlC kV.ok hlN) (amI (std 0) aQ)
noncomputable def JF:=X4.c
def zD:=fun m hm=>X4.cs (aoN mP mQ m hm)
def aqi:=fun m hm=>(zD m hm).1
def aqj:=fun m hm=>(zD m hm).2
def wY:=mk Tryz.func107 (hlC X4.ok (hlC DT.ok hlN)) (amJ (std 0) JF jO)
noncomputable def dN:=wY.c
def Ch:=fun a ha=>wY.cs (aoO aqi aqj X0 X3 a ha)
def DU:=fun a ha=>(Ch a ha).1
def DV:=fun a ha=>(Ch a ha).2
def OI:=mk Tryz.func137 hlN (amK (std 0))
noncomputable def JH:=OI.c
def aqk:=fun a=>(OI.cs (afa a)).1
def aql:=fun a=>(OI.cs (afa a)).2
def OJ:=mk Tryz.func138 hlN (amL (std 0))
noncomputable def JG:=OJ.c
def aqm:=fun a n ha=>(OJ.cs (ae9 a n ha)).1
def aqn:=fun a n ha=>(OJ.cs (ae9 a n ha)).2
def OL:=mk Tryz.func101 (hlC kV.ok (hlC wY.ok (hlC OJ.ok (hlC OI.ok hlN)))) (amM (std 0) aQ dN JG JH)
noncomputable def qy:=OL.c
def zF:=fun a n ha=>OL.cs (aoQ mP mQ DU DV aqm aqn aqk aql a n ha)
def afR:=fun a n ha=>(zF a n ha).1
def afS:=fun a n ha=>(zF a n ha).2
def tV:=mk Tryz.func65 (hlC DT.ok hlN) (amN (std 0) jO)
noncomputable def bR:=tV.c
def uE:=fun a b ha=>tV.cs (aoP X0 X3 a b ha)
def Ba:=fun a b ha=>(uE a b ha).1
def Bb:=fun a b ha=>(uE a b ha).2
def OM:=mk Tryz.func102 (hlC tV.ok hlN) (amO (std 0) bR)
noncomputable def qz:=OM.c
def zG:=fun a b ha=>OM.cs (aoR Ba Bb a b ha)
def afT:=fun a b ha=>(zG a b ha).1
def afU:=fun a b ha=>(zG a b ha).2
def X5:=mk Tryz.func51 (hlC OL.ok (hlC OM.ok hlN)) (amP (std 0) qy qz)
noncomputable def JV:=X5.c
def Ci:=fun a ha=>X5.cs (aoS afR afS afT afU a ha)
def aqo:=fun a ha=>(Ci a ha).1
def aqp:=fun a ha=>(Ci a ha).2
def mR:=mk Tryz.func60 hlN (amQ (std 0))
noncomputable def bA:=mR.c
def tX:=fun a ha=>(mR.cs (afc a ha)).1
def tY:=fun a ha=>(mR.cs (afc a ha)).2
def OO:=mk Tryz.func103 (hlC mR.ok hlN) (amR (std 0) bA)
noncomputable def qA:=OO.c
def zH:=fun a ha=>OO.cs (aoW tX tY a ha)
def afV:=fun a ha=>(zH a ha).1
def afW:=fun a ha=>(zH a ha).2
def X6:=mk Tryz.func52 (hlC OO.ok hlN) (amS (std 0) qA)
noncomputable def JW:=X6.c
def zI:=fun a ha=>X6.cs (aoX afV afW a ha)
def aqr:=fun a ha=>(zI a ha).1
def aqs:=fun a ha=>(zI a ha).2
def Lj:=mk Tryz.func53 (hlC OL.ok (hlC OM.ok (hlC OO.ok hlN))) (amT (std 0) qy qz qA)
noncomputable def jQ:=Lj.c
def Cj:=fun a t ha ht hok=>Lj.cs (aoY afR afS afT afU afV afW a t ha ht hok)
def X7:=fun a t ha ht hok=>(Cj a t ha ht hok).1
def X8:=fun a t ha ht hok=>(Cj a t ha ht hok).2
def OP:=mk Tryz.func54 hlN (amU (std 0))
noncomputable def J2:=OP.c
def aqt:=fun k l=>(OP.cs (afF k l)).1
def aqu:=fun k l=>(OP.cs (afF k l)).2
def OQ:=mk Tryz.func55 (hlC kV.ok hlN) (amV (std 0) aQ)
noncomputable def qE:=OQ.c
def uF:=fun a=>OQ.cs (aoL mP mQ a)
def afX:=fun a=>(uF a).1
def afY:=fun a=>(uF a).2
def Bc:=mk Tryz.func173 hlN (amW (std 0))
noncomputable def iA:=Bc.c
def OT:=fun a=>(Bc.cs (ae7 a)).1
def OU:=fun a=>(Bc.cs (ae7 a)).2
def OV:=mk Tryz.func171 (hlC DT.ok (hlC Bc.ok hlN)) (amX (std 0) jO iA)
noncomputable def qB:=OV.c
def zJ:=fun l m hl hn hm hma=>OV.cs (ao3 X0 X3 OT OU l m hl hn hm hma)
def afZ:=fun l m hl hn hm hma=>(zJ l m hl hn hm hma).1
def af0:=fun l m hl hn hm hma=>(zJ l m hl hn hm hma).2
def OW:=mk Tryz.func172 (hlC mR.ok hlN) (amY (std 0) bA)
noncomputable def qC:=OW.c
def Ck:=fun a ha=>OW.cs (aoV tX tY a ha)
def af2:=fun a ha=>(Ck a ha).1
def af3:=fun a ha=>(Ck a ha).2
def X9:=mk Tryz.func139 (hlC wY.ok (hlC OV.ok (hlC OW.ok hlN))) (amZ (std 0) dN qB qC)
noncomputable def JK:=X9.c
def zK:=fun a b ha hb=>X9.cs (ao4 DU DV afZ af0 af2 af3 a b ha hb)
def aqv:=fun a b ha hb=>(zK a b ha hb).1
def aqw:=fun a b ha hb=>(zK a b ha hb).2
def Ya:=mk Tryz.func140 (hlC wY.ok (hlC Bc.ok (hlC mR.ok (hlC A9.ok hlN)))) (am0 (std 0) dN iA bA iw)
noncomputable def JL:=Ya.c
def uG:=fun a n ha=>Ya.cs (ao6 DU DV OT OU tX tY OA OB a n ha)
def aqx:=fun a n ha=>(uG a n ha).1
def aqy:=fun a n ha=>(uG a n ha).2
def OX:=mk Tryz.func174 hlN (am1 (std 0))
noncomputable def JI:=OX.c
def aqz:=fun a b ha hb sa sb=>(OX.cs (aff a b ha hb sa sb)).1
def aqA:=fun a b ha hb sa sb=>(OX.cs (aff a b ha hb sa sb)).2
def Yb:=mk Tryz.func141 (hlC wY.ok (hlC Bc.ok (hlC OV.ok (hlC OX.ok (hlC OW.ok hlN))))) (am2 (std 0) dN iA qB JI qC)
noncomputable def JJ:=Yb.c
def zL:=fun a b ha hb=>Yb.cs (ao5 DU DV OT OU afZ af0 aqz aqA af2 af3 a b ha hb)
def aqB:=fun a b ha hb=>(zL a b ha hb).1
def aqC:=fun a b ha hb=>(zL a b ha hb).2
def Yc:=mk Tryz.func104 (hlC Yb.ok (hlC X9.ok (hlC Ya.ok hlN))) (am3 (std 0) JJ JK JL)
noncomputable def JN:=Yc.c
def zN:=fun op x y hx hy=>Yc.cs (ao1 aqB aqC aqv aqw aqx aqy op x y hx hy)
def aqD:=fun op x y hx hy=>(zN op x y hx hy).1
def aqE:=fun op x y hx hy=>(zN op x y hx hy).2
def Ll:=mk Tryz.func108 (hlC wY.ok hlN) (am4 (std 0) dN)
noncomputable def jP:=Ll.c
def zO:=fun a ha=>Ll.cs (aoU DU DV a ha)
def Yd:=fun a ha=>(zO a ha).1
def Ye:=fun a ha=>(zO a ha).2
def OY:=mk Tryz.func142 (hlC Bc.ok (hlC A9.ok hlN)) (am5 (std 0) iA iw)
noncomputable def qD:=OY.c
def Cm:=fun op a b=>OY.cs (aoT OA OB OT OU op a b)
def af4:=fun op a b=>(Cm op a b).1
def af5:=fun op a b=>(Cm op a b).2
def Yf:=mk Tryz.func143 (hlC mR.ok hlN) (am6 (std 0) bA)
noncomputable def JM:=Yf.c
def zP:=fun op n y hy=>Yf.cs (aoZ tX tY op n y hy)
def aqF:=fun op n y hy=>(zP op n y hy).1
def aqG:=fun op n y hy=>(zP op n y hy).2
def Yg:=mk Tryz.func105 (hlC tV.ok (hlC mR.ok (hlC OY.ok (hlC OQ.ok (hlC Ll.ok (hlC Yf.ok hlN)))))) (am7 (std 0) bR bA qD qE jP JM)
noncomputable def JO:=Yg.c
def zQ:=fun op x y hx hy=>Yg.cs (ao0 Ba Bb tX tY af4 af5 afX afY Yd Ye aqF aqG op x y hx hy)
def aqH:=fun op x y hx hy=>(zQ op x y hx hy).1
def aqI:=fun op x y hx hy=>(zQ op x y hx hy).2
def Yh:=mk Tryz.func56 (hlC DR.ok (hlC tV.ok (hlC Yc.ok (hlC Yg.ok (hlC Lj.ok hlN))))) (am8 (std 0) iy bR JN JO jQ)
noncomputable def JX:=Yh.c
def EN:=fun op x y t hop hx hy ht hok=>Yh.cs (ao2 OE OG Ba Bb aqD aqE aqH aqI X7 X8 op x y t hop hx hy ht hok)
def aqJ:=fun op x y t hop hx hy ht hok=>(EN op x y t hop hx hy ht hok).1
def aqK:=fun op x y t hop hx hy ht hok=>(EN op x y t hop hx hy ht hok).2
def OZ:=mk Tryz.func106 hlN (am9 (std 0))
noncomputable def JQ:=OZ.c
def aqL:=fun l k hl=>(OZ.cs (afG l k hl)).1
def aqM:=fun l k hl=>(OZ.cs (afG l k hl)).2
def Yi:=mk Tryz.func57 (hlC DR.ok (hlC Lj.ok (hlC OZ.ok hlN))) (ana (std 0) iy jQ JQ)
noncomputable def JY:=Yi.c
def wZ:=fun l k t hl ht hk=>Yi.cs (apV OE OG X7 X8 aqL aqM l k t hl ht hk)
def aqN:=fun l k t hl ht hk=>(wZ l k t hl ht hk).1
def aqO:=fun l k t hl ht hk=>(wZ l k t hl ht hk).2
def Lm:=mk Tryz.func59 (hlC mR.ok hlN) (anb (std 0) bA)
noncomputable def jR:=Lm.c
def w9:=fun a ha=>Lm.cs (apU tX tY a ha)
def Yj:=fun a ha=>(w9 a ha).1
def Yk:=fun a ha=>(w9 a ha).2
def Yl:=mk Tryz.func58 (hlC mR.ok (hlC Lm.ok hlN)) (ane (std 0) bA jR)
noncomputable def JZ:=Yl.c
def xg:=fun o x y r hx hy hr=>Yl.cs (apW tX tY Yj Yk o x y r hx hy hr)
def aqP:=fun o x y r hx hy hr=>(xg o x y r hx hy hr).1
def aqQ:=fun o x y r hx hy hr=>(xg o x y r hx hy hr).2
def O5:=mk Tryz.func61 hlN (anf (std 0))
noncomputable def J3:=O5.c
def aqR:=fun b=>(O5.cs (afI b)).1
def aqS:=fun b=>(O5.cs (afI b)).2
def O6:=mk Tryz.func62 hlN (ang (std 0))
noncomputable def J4:=O6.c
def aqT:=fun b=>(O6.cs (afJ b)).1
def aqU:=fun b=>(O6.cs (afJ b)).2
end Go.TX.F
namespace Go.TX.F
open Go Go.AE Go.TX Go.TX.Seat Go.Proofs
set_option maxRecDepth 100000
def Lp:=mk Tryz.func109 hlN (anh (std 0))
noncomputable def qF:=Lp.c
def af6:=fun s k=>(Lp.cs (afH s k)).1
def af7:=fun s k=>(Lp.cs (afH s k)).2
def Ym:=mk Tryz.func110 (hlC Ll.ok (hlC tV.ok (hlC Lp.ok hlN))) (ani (std 0) jP bR qF)
noncomputable def JR:=Ym.c
def EO:=fun s n hs hx hy hf=>Ym.cs (apX Yd Ye Ba Bb af6 af7 s n hs hx hy hf)
def aqV:=fun s n hs hx hy hf=>(EO s n hs hx hy hf).1
def aqW:=fun s n hs hx hy hf=>(EO s n hs hx hy hf).2
def Yn:=mk Tryz.func63 (hlC Ll.ok (hlC wY.ok (hlC mR.ok (hlC Lp.ok (hlC Ym.ok (hlC Lm.ok hlN)))))) (anj (std 0) jP dN bA qF JR jR)
noncomputable def JU:=Yn.c
def zR:=fun s n hs=>Yn.cs (apY Yd Ye DU DV tX tY af6 af7 aqV aqW Yj Yk s n hs)
def aqX:=fun s n hs=>(zR s n hs).1
def aqY:=fun s n hs=>(zR s n hs).2
def Yo:=mk Tryz.func25 (hlC qX.ok (hlC DR.ok (hlC OQ.ok (hlC Yn.ok (hlC OH.ok (hlC X5.ok (hlC mR.ok (hlC X6.ok (hlC Yh.ok (hlC Lj.ok (hlC Yi.ok (hlC Yl.ok (hlC OP.ok (hlC Lm.ok (hlC O5.ok (hlC O6.ok hlN)))))))))))))))) (ank (std 0) bK iy qE JU qG JV bA JW JX jQ JY JZ J2 jR J3 J4)
noncomputable def J7:=Yo.c
def zS:=fun t b ht hb=>Yo.cs (apZ wV wW OE OG afX afY aqX aqY afP afQ aqo aqp tX tY aqr aqs aqJ aqK X7 X8 aqN aqO aqP aqQ aqt aqu Yj Yk aqR aqS aqT aqU t b ht hb)
def aqZ:=fun t b ht hb=>(zS t b ht hb).1
def aq0:=fun t b ht hb=>(zS t b ht hb).2
def O7:=mk Tryz.func64 (hlC tV.ok hlN) (anl (std 0) bR)
noncomputable def qH:=O7.c
def xk:=fun a b ha=>O7.cs (ap1 Ba Bb a b ha)
def af8:=fun a b ha=>(xk a b ha).1
def af9:=fun a b ha=>(xk a b ha).2
def Yp:=mk Tryz.func66 (hlC tV.ok (hlC O7.ok hlN)) (anm (std 0) bR qH)
noncomputable def J5:=Yp.c
def xq:=fun a b ha=>Yp.cs (ap2 Ba Bb af8 af9 a b ha)
def aq1:=fun a b ha=>(xq a b ha).1
def aq2:=fun a b ha=>(xq a b ha).2
def Yq:=mk Tryz.func26 (hlC tV.ok (hlC Yp.ok (hlC O7.ok hlN))) (ano (std 0) bR J5 qH)
noncomputable def J8:=Yq.c
def xu:=fun a b ha=>Yq.cs (ap3 Ba Bb aq1 aq2 af8 af9 a b ha)
def aq3:=fun a b ha=>(xu a b ha).1
def aq4:=fun a b ha=>(xu a b ha).2
def Yr:=mk Tryz.func7 (hlC qX.ok (hlC OD.ok (hlC OH.ok (hlC Yo.ok (hlC Yq.ok hlN))))) (anp (std 0) bK J6 qG J7 J8)
noncomputable def Ko:=Yr.c
def xw:=fun b c hb hc=>Yr.cs (ap4 wV wW aqg aqh afP afQ aqZ aq0 aq3 aq4 b c hb hc)
def aq5:=fun b c hb hc=>(xw b c hb hc).1
def aq6:=fun b c hb hc=>(xw b c hb hc).2
def l9:=mk Tryz.func68 hlN (au2 (std 0))
noncomputable def aW:=l9.c
def mg:=fun a b c=>(l9.cs (aiI a b c)).1
def mh:=fun a b c=>(l9.cs (aiI a b c)).2
def aal:=mk Tryz.func75 (hlC l9.ok hlN) (au3 (std 0) aW)
noncomputable def yY:=aal.c
def uH:=fun o=>aal.cs (awV mg mh o)
def aiW:=fun o=>(uH o).1
def aiX:=fun o=>(uH o).2
def EP:=mk Tryz.func112 (hlC l9.ok hlN) (au4 (std 0) aW)
noncomputable def iN:=EP.c
def Tx:=fun a=>(EP.cs (aiJ mg mh a)).1
def Tz:=fun a=>(EP.cs (aiJ mg mh a)).2
def TA:=mk Tryz.func113 (hlC l9.ok hlN) (au5 (std 0) aW)
noncomputable def y7:=TA.c
def aiY:=fun a=>(TA.cs (aiL mg mh a)).1
def aiZ:=fun a=>(TA.cs (aiL mg mh a)).2
def TB:=mk Tryz.func114 (hlC l9.ok hlN) (au6 (std 0) aW)
noncomputable def yZ:=TB.c
def ai0:=fun a=>(TB.cs (aiK mg mh a)).1
def ai1:=fun a=>(TB.cs (aiK mg mh a)).2
def aga:=mk Tryz.func145 (hlC l9.ok hlN) (au7 (std 0) aW)
noncomputable def RY:=aga.c
def mq:=fun o=>aga.cs (awW mg mh o)
def axt:=fun o=>(mq o).1
def axu:=fun o=>(mq o).2
def aam:=mk Tryz.func115 (hlC aga.ok (hlC l9.ok hlN)) (au8 (std 0) RY aW)
noncomputable def yX:=aam.c
def mD:=fun b x n h0 h1 h2=>aam.cs (awY axt axu mg mh b x n h0 h1 h2)
def ai2:=fun b x n h0 h1 h2=>(mD b x n h0 h1 h2).1
def ai3:=fun b x n h0 h1 h2=>(mD b x n h0 h1 h2).2
def agb:=mk Tryz.func69 (hlC aam.ok (hlC aal.ok (hlC EP.ok (hlC l9.ok (hlC TB.ok (hlC TA.ok hlN)))))) (au9 (std 0) yX yY iN aW yZ y7)
noncomputable def R3:=agb.c
def mY:=fun b i h0 h1 h2 h3=>agb.cs (awZ ai2 ai3 aiW aiX Tx Tz mg mh ai0 ai1 aiY aiZ b i h0 h1 h2 h3)
def axv:=fun b i h0 h1 h2 h3=>(mY b i h0 h1 h2 h3).1
def axw:=fun b i h0 h1 h2 h3=>(mY b i h0 h1 h2 h3).2
def TD:=mk Tryz.func81 hlN (ava (std 0))
noncomputable def y8:=TD.c
def ai4:=fun b=>(TD.cs (aiR b)).1
def ai5:=fun b=>(TD.cs (aiR b)).2
def agc:=mk Tryz.func70 (hlC TD.ok (hlC aam.ok (hlC EP.ok (hlC l9.ok hlN)))) (avb (std 0) y8 yX iN aW)
noncomputable def RZ:=agc.c
def mF:=fun b h2=>agc.cs (aw0 ai4 ai5 ai2 ai3 Tx Tz mg mh b h2)
def axx:=fun b h2=>(mF b h2).1
def axy:=fun b h2=>(mF b h2).2
def aan:=mk Tryz.func28 (hlC agc.ok (hlC agb.ok (hlC l9.ok hlN))) (avc (std 0) RZ R3 aW)
noncomputable def zu:=aan.c
def ER:=fun b h2=>aan.cs (aw1 axx axy axv axw mg mh b h2)
def ai6:=fun b h2=>(ER b h2).1
def ai7:=fun b h2=>(ER b h2).2
def aao:=mk Tryz.func71 hlN (avd (std 0))
noncomputable def R4:=aao.c
def axz:=fun a b ha=>(aao.cs (aiS a b ha)).1
def axA:=fun a b ha=>(aao.cs (aiS a b ha)).2
def aap:=mk Tryz.func29 (hlC aao.ok hlN) (ave (std 0) R4)
noncomputable def zy:=aap.c
def zT:=fun a b ha=>aap.cs (axc axz axA a b ha)
def ai8:=fun a b ha=>(zT a b ha).1
def ai9:=fun a b ha=>(zT a b ha).2
def aaq:=mk Tryz.func176 hlN (avf (std 0))
noncomputable def R5:=aaq.c
def axB:=fun a n=>(aaq.cs (aiM a n)).1
def axC:=fun a n=>(aaq.cs (aiM a n)).2
def Yt:=mk Tryz.func198 (hlC aaq.ok hlN) (anq (std 0) R5)
noncomputable def J9:=Yt.c
def jh:=fun a n ha=>Yt.cs (aoD axB axC a n ha)
def aq7:=fun a n ha=>(jh a n ha).1
def aq8:=fun a n ha=>(jh a n ha).2
def agd:=mk Tryz.func175 (hlC Yt.ok hlN) (avg (std 0) J9)
noncomputable def R6:=agd.c
def iE:=fun a n ha=>agd.cs (awl aq7 aq8 a n ha)
def axD:=fun a n ha=>(iE a n ha).1
def axE:=fun a n ha=>(iE a n ha).2
def aar:=mk Tryz.func147 (hlC agd.ok hlN) (avh (std 0) R6)
noncomputable def y9:=aar.c
def uI:=fun a n ha=>aar.cs (awm axD axE a n ha)
def aja:=fun a n ha=>(uI a n ha).1
def ajb:=fun a n ha=>(uI a n ha).2
def agf:=mk Tryz.func182 hlN (azF (std 0))
noncomputable def LZ:=agf.c
def axF:=fun a=>(agf.cs (awh a)).1
def axG:=fun a=>(agf.cs (awh a)).2
def agh:=mk Tryz.func155 (hlC agf.ok hlN) (azG (std 0) LZ)
noncomputable def AU:=agh.c
def pG:=fun a b=>agh.cs (azQ axF axG a b)
def aq9:=fun a b=>(pG a b).1
def ara:=fun a b=>(pG a b).2
def agi:=mk Tryz.func156 hlN (azH (std 0))
noncomputable def L6:=agi.c
def axH:=fun a b=>(agi.cs (awi a b)).1
def axI:=fun a b=>(agi.cs (awi a b)).2
def agj:=mk Tryz.func183 (hlC agh.ok hlN) (avi (std 0) AU)
noncomputable def R7:=agj.c
def jF:=fun a b ha=>agj.cs (awj aq9 ara a b ha)
def axJ:=fun a b ha=>(jF a b ha).1
def axK:=fun a b ha=>(jF a b ha).2
def MX:=mk Tryz.func157 (hlC agi.ok (hlC agh.ok (hlC agj.ok hlN))) (avj (std 0) L6 AU R7)
noncomputable def ko:=MX.c
def pI:=fun a b ha=>MX.cs (awk aq9 ara axJ axK axH axI a b ha)
def aas:=fun a b ha=>(pI a b ha).1
def aat:=fun a b ha=>(pI a b ha).2
def agk:=mk Tryz.func184 (hlC agf.ok hlN) (azI (std 0) LZ)
noncomputable def AV:=agk.c
def xA:=fun a b=>agk.cs (azR axF axG a b)
def axL:=fun a b=>(xA a b).1
def axM:=fun a b=>(xA a b).2
def Yu:=mk Tryz.func159 (hlC agk.ok hlN) (anr (std 0) AV)
noncomputable def Kc:=Yu.c
def jy:=fun a ha=>Yu.cs (aoC axL axM a ha)
def arb:=fun a ha=>(jy a ha).1
def ard:=fun a ha=>(jy a ha).2
def aau:=mk Tryz.func161 hlN (avk (std 0))
noncomputable def R8:=aau.c
def axN:=fun m=>(aau.cs (aiN m)).1
def axO:=fun m=>(aau.cs (aiN m)).2
def Yv:=mk Tryz.func185 (hlC aau.ok hlN) (ant (std 0) R8)
noncomputable def Ka:=Yv.c
def dK:=fun a ha=>Yv.cs (aoE (G:=(fun m:aj=>0<m.atoms.length∧m.atoms.getD 0 default<0)) axN axO a ha)
def arf:=fun a ha=>(dK a ha).1
def arh:=fun a ha=>(dK a ha).2
def agl:=mk Tryz.func160 (hlC Yv.ok hlN) (avl (std 0) Ka)
noncomputable def R9:=agl.c
def cO:=fun a ha=>agl.cs (awn (G:=(fun m:aj=>0<m.atoms.length∧m.atoms.getD 0 default<0)) arf arh a ha)
def axP:=fun a ha=>(cO a ha).1
def axQ:=fun a ha=>(cO a ha).2
end Go.TX.F
namespace Go.TX.F
open Go Go.AE Go.TX Go.TX.Seat Go.Proofs
set_option maxRecDepth 100000
def Cq:=mk Tryz.func123 (hlC l9.ok (hlC aar.ok (hlC Yu.ok (hlC MX.ok (hlC agl.ok hlN))))) (avm (std 0) aW y9 Kc ko R9)
noncomputable def fF:=Cq.c
def Cr:=fun a ha=>Cq.cs (awo mg mh aja ajb arb ard aas aat axP axQ a ha)
def Lr:=fun a ha=>(Cr a ha).1
def Ls:=fun a ha=>(Cr a ha).2
def aav:=mk Tryz.func117 (hlC l9.ok (hlC TB.ok (hlC aar.ok (hlC Cq.ok (hlC TA.ok hlN))))) (avn (std 0) aW yZ y9 fF y7)
noncomputable def za:=aav.c
def kW:=fun a n ha=>aav.cs (awF mg mh ai0 ai1 aja ajb Lr Ls aiY aiZ a n ha)
def ajc:=fun a n ha=>(kW a n ha).1
def ajd:=fun a n ha=>(kW a n ha).2
def TF:=mk Tryz.func120 (hlC agi.ok (hlC agh.ok (hlC MX.ok hlN))) (avo (std 0) L6 AU ko)
noncomputable def oC:=TF.c
def uJ:=fun a b ha=>TF.cs (awp axH axI aq9 ara aas aat a b ha)
def agm:=fun a b ha=>(uJ a b ha).1
def agn:=fun a b ha=>(uJ a b ha).2
def ET:=mk Tryz.func85 (hlC TF.ok hlN) (avp (std 0) oC)
noncomputable def gJ:=ET.c
def mZ:=fun a b ha=>ET.cs (awq agm agn a b ha)
def MZ:=fun a b ha=>(mZ a b ha).1
def M0:=fun a b ha=>(mZ a b ha).2
def agp:=mk Tryz.func150 (hlC ET.ok hlN) (avq (std 0) gJ)
noncomputable def Sb:=agp.c
def ni:=fun a b ha=>agp.cs (awC MZ M0 a b ha)
def axR:=fun a b ha=>(ni a b ha).1
def axS:=fun a b ha=>(ni a b ha).2
def agq:=mk Tryz.func149 (hlC agp.ok hlN) (avr (std 0) Sb)
noncomputable def Sc:=agq.c
def mG:=fun a b hb=>agq.cs (awD axR axS a b hb)
def axT:=fun a b hb=>(mG a b hb).1
def axU:=fun a b hb=>(mG a b hb).2
def Yw:=mk Tryz.func148 (hlC agq.ok hlN) (anu (std 0) Sc)
noncomputable def Ke:=Yw.c
def dL:=fun a b ha hb=>Yw.cs (aoF axT axU a b ha hb)
def ari:=fun a b ha hb=>(dL a b ha hb).1
def arj:=fun a b ha hb=>(dL a b ha hb).2
def aaw:=mk Tryz.func118 (hlC Yw.ok hlN) (avs (std 0) Ke)
noncomputable def ze:=aaw.c
def oK:=fun a b ha hb=>aaw.cs (awE ari arj a b ha hb)
def aje:=fun a b ha hb=>(oK a b ha hb).1
def ajf:=fun a b ha hb=>(oK a b ha hb).2
def agr:=mk Tryz.func158 hlN (avt (std 0))
noncomputable def Sd:=agr.c
def eU:=fun a=>agr.cs (awz a)
def axV:=fun a=>(eU a).1
def axW:=fun a=>(eU a).2
def aax:=mk Tryz.func121 (hlC aav.ok (hlC aaw.ok (hlC agr.ok hlN))) (avu (std 0) za ze Sd)
noncomputable def zh:=aax.c
def pJ:=fun t a ht ha=>aax.cs (awH ajc ajd aje ajf axV axW t a ht ha)
def ajg:=fun t a ht ha=>(pJ t a ht ha).1
def ajh:=fun t a ht ha=>(pJ t a ht ha).2
def aay:=mk Tryz.func122 (hlC l9.ok hlN) (avv (std 0) aW)
noncomputable def zf:=aay.c
def xB:=fun a=>aay.cs (awu mg mh a)
def aji:=fun a=>(xB a).1
def ajj:=fun a=>(xB a).2
def aaz:=mk Tryz.func80 (hlC aay.ok (hlC aax.ok hlN)) (avw (std 0) zf zh)
noncomputable def zi:=aaz.c
def rZ:=fun kd k t fl ht=>aaz.cs (aw5 aji ajj ajg ajh kd k t fl ht)
def ajk:=fun kd k t fl ht=>(rZ kd k t fl ht).1
def ajl:=fun kd k t fl ht=>(rZ kd k t fl ht).2
def aaA:=mk Tryz.func72 (hlC aaz.ok hlN) (avx (std 0) zi)
noncomputable def zm:=aaA.c
def pK:=fun t fl ht hl=>aaA.cs (aw6 ajk ajl t fl ht hl)
def ajm:=fun t fl ht hl=>(pK t fl ht hl).1
def ajn:=fun t fl ht hl=>(pK t fl ht hl).2
def TG:=mk Tryz.func146 hlN (avy (std 0))
noncomputable def zk:=TG.c
def ajo:=fun a ha=>(TG.cs (aiP a ha)).1
def ajp:=fun a ha=>(TG.cs (aiP a ha)).2
def TH:=mk Tryz.func116 (hlC TG.ok hlN) (avz (std 0) zk)
noncomputable def oD:=TH.c
def mH:=fun a ha=>TH.cs (aww ajo ajp a ha)
def ags:=fun a ha=>(mH a ha).1
def agt:=fun a ha=>(mH a ha).2
def aaB:=mk Tryz.func73 (hlC TH.ok hlN) (avA (std 0) oD)
noncomputable def zl:=aaB.c
def nu:=fun a ha=>aaB.cs (awx ags agt a ha)
def ajq:=fun a ha=>(nu a ha).1
def ajr:=fun a ha=>(nu a ha).2
def agu:=mk Tryz.func30 (hlC aaB.ok (hlC aaA.ok hlN)) (avB (std 0) zl zm)
noncomputable def SL:=agu.c
def zU:=agu.cs (aw8 ajq ajr ajm ajn)
def axX:=(zU).1
def axY:=(zU).2
def agv:=mk Tryz.func74 (hlC aav.ok (hlC aaw.ok hlN)) (avC (std 0) za ze)
noncomputable def SA:=agv.c
def Cu:=fun a ha=>agv.cs (awG ajc ajd aje ajf a ha)
def axZ:=fun a ha=>(Cu a ha).1
def ax0:=fun a ha=>(Cu a ha).2
def agw:=mk Tryz.func76 (hlC l9.ok hlN) (avD (std 0) aW)
noncomputable def Sy:=agw.c
def pO:=fun o=>agw.cs (awX mg mh o)
def ax1:=fun o=>(pO o).1
def ax2:=fun o=>(pO o).2
def agx:=mk Tryz.func77 hlN (avE (std 0))
noncomputable def SE:=agx.c
def eO:=fun a h0 h1=>agx.cs (aw7 a h0 h1)
def ax3:=fun a h0 h1=>(eO a h0 h1).1
def ax4:=fun a h0 h1=>(eO a h0 h1).2
def TI:=mk Tryz.func78 (hlC l9.ok hlN) (avF (std 0) aW)
noncomputable def oG:=TI.c
def uK:=fun a=>TI.cs (awt mg mh a)
def agy:=fun a=>(uK a).1
def agz:=fun a=>(uK a).2
def aaC:=mk Tryz.func125 (hlC Cq.ok hlN) (avG (std 0) fF)
noncomputable def zq:=aaC.c
def zV:=fun a ha=>aaC.cs (awv Lr Ls a ha)
def ajs:=fun a ha=>(zV a ha).1
def ajt:=fun a ha=>(zV a ha).2
def M4:=mk Tryz.func181 hlN (avH (std 0))
noncomputable def oF:=M4.c
def agA:=fun a=>(M4.cs (aiO a)).1
def agB:=fun a=>(M4.cs (aiO a)).2
def aaD:=mk Tryz.func200 (hlC MX.ok hlN) (avI (std 0) ko)
noncomputable def o9:=aaD.c
def Cv:=fun a b ha=>aaD.cs (awy aas aat a b ha)
def aju:=fun a b ha=>(Cv a b ha).1
def ajv:=fun a b ha=>(Cv a b ha).2
def Yx:=mk Tryz.func217 (hlC aaD.ok hlN) (anv (std 0) o9)
noncomputable def Kh:=Yx.c
def dS:=fun a b d hd h1 h2 h3=>Yx.cs (aoH aju ajv a b d hd h1 h2 h3)
def ark:=fun a b d hd h1 h2 h3=>(dS a b d hd h1 h2 h3).1
def arl:=fun a b d hd h1 h2 h3=>(dS a b d hd h1 h2 h3).2
def O8:=mk Tryz.func226 hlN (anw (std 0))
noncomputable def Kg:=O8.c
def arn:=fun a b n d hl h1 h2 h3 h4=>(O8.cs (ae0 a b n d hl h1 h2 h3 h4)).1
def aro:=fun a b n d hl h1 h2 h3 h4=>(O8.cs (ae0 a b n d hl h1 h2 h3 h4)).2
def Yy:=mk Tryz.func224 (hlC O8.ok hlN) (anx (std 0) Kg)
noncomputable def tJ:=Yy.c
def gq:=fun a m b d hl h1 h2 h3 h4=>Yy.cs (aoG arn aro a m b d hl h1 h2 h3 h4)
def arp:=fun a m b d hl h1 h2 h3 h4=>(gq a m b d hl h1 h2 h3 h4).1
def arq:=fun a m b d hl h1 h2 h3 h4=>(gq a m b d hl h1 h2 h3 h4).2
noncomputable def cK:Nat→Ct aA om
 | 0=>never om
 | k+1=>cn (Js (std 0).al o9.pre o9.fn tJ.pre tJ.fn (cK k).pre (cK k).fn)
theorem kK:∀k:Nat,dB E 218 (cu (cK k))∧∀(a m b:Int) (d:List aj),DC a m b d→b-a<k→(cK k).pre (a,m,b,d,())=true∧Mrg d ((cK k).fn (a,m,b,d,())).1 a b
 | 0=>⟨kU (enters_of Tryz.func218 (by kernel_rfl) rfl),fun a m b d h1 h2=>(by have g1:=h1.h2;have g2:=h1.h3;omega)⟩
 | k+1=>by
  have ih:=kK k
  have t:Fn E 218 (Js (std 0).al o9.pre o9.fn tJ.pre tJ.fn (cK k).pre (cK k).fn) (cK (k+1)):=mk Tryz.func218 (hlC aaD.ok (hlC Yy.ok (hlC ih.1 hlN))) (anz (std 0) o9 tJ (cK k))
  exact⟨t.ok,fun a m b d h1 h2=>t.cs (aoI aju ajv arp arq (k:Int) (fun a m b d h1 h2=>(ih.2 a m b d h1 h2).1) (fun a m b d h1 h2=>(ih.2 a m b d h1 h2).2) a m b d h1 (by omega))⟩
noncomputable def qI:Ct aA om:=cK 1000000000
theorem ars:dB E 218 (cu qI):=(kK 1000000000).1
theorem ajw {a m b:Int} {d:List aj} (h:DC a m b d):b-a< ((1000000000:Nat):Int):=by have g0:=h.sh.1;have g1:=h.h1;have g2:=h.h4;omega
def aru:=fun a m b d h=>((kK 1000000000).2 a m b d h (ajw h)).1
def arv:=fun a m b d h=>((kK 1000000000).2 a m b d h (ajw h)).2
def Yz:=mk Tryz.func206 (hlC Yx.ok (hlC ars hlN)) (anA (std 0) Kh qI)
noncomputable def Ki:=Yz.c
def gu:=fun n d hd hn=>Yz.cs (aoJ ark arl aru arv n d hd hn)
def arw:=fun n d hd hn=>(gu n d hd hn).1
def arx:=fun n d hd hn=>(gu n d hd hn).2
def YA:=mk Tryz.func199 (hlC Yz.ok hlN) (anB (std 0) Ki)
noncomputable def Kj:=YA.c
def bV:=fun d hd=>YA.cs (aoK arw arx d hd)
def arz:=fun d hd=>(bV d hd).1
def arA:=fun d hd=>(bV d hd).2
def aaE:=mk Tryz.func177 (hlC MX.ok (hlC Cq.ok (hlC M4.ok (hlC TG.ok (hlC YA.ok hlN))))) (avJ (std 0) ko fF oF zk Kj)
noncomputable def zn:=aaE.c
def Lu:=fun l hl hc=>aaE.cs (awJ aas aat Lr Ls agA agB ajo ajp arz arA l hl hc)
def ajx:=fun l hl hc=>(Lu l hl hc).1
def ajy:=fun l hl hc=>(Lu l hl hc).2
end Go.TX.F
namespace Go.TX.F
open Go Go.AE Go.TX Go.TX.Seat Go.Proofs
set_option maxRecDepth 100000
def agC:=mk Tryz.func201 hlN (avK (std 0))
noncomputable def Sg:=agC.c
def eZ:=fun n h1 h2=>agC.cs (awK n h1 h2)
def ax5:=fun n h1 h2=>(eZ n h1 h2).1
def ax6:=fun n h1 h2=>(eZ n h1 h2).2
def agD:=mk Tryz.func178 (hlC agC.ok hlN) (avL (std 0) Sg)
noncomputable def Si:=agD.c
def dZ:=fun a b ha hb=>agD.cs (awL ax5 ax6 a b ha hb)
def ax7:=fun a b ha hb=>(dZ a b ha hb).1
def ax8:=fun a b ha hb=>(dZ a b ha hb).2
def agE:=mk Tryz.func151 (hlC Cq.ok (hlC aaE.ok (hlC agD.ok hlN))) (avM (std 0) fF zn Si)
noncomputable def Sl:=agE.c
def zW:=fun a b ha hb=>agE.cs (awN Lr Ls ajx ajy ax7 ax8 a b ha hb)
def ax9:=fun a b ha hb=>(zW a b ha hb).1
def aya:=fun a b ha hb=>(zW a b ha hb).2
def O9:=mk Tryz.func202 hlN (anC (std 0))
noncomputable def Kk:=O9.c
def arB:=fun n h1 h2=>(O9.cs (ae1 n h1 h2)).1
def arC:=fun n h1 h2=>(O9.cs (ae1 n h1 h2)).2
def agF:=mk Tryz.func179 (hlC O9.ok hlN) (avN (std 0) Kk)
noncomputable def Sj:=agF.c
def kC:=fun a b ha hb=>agF.cs (awM arB arC a b ha hb)
def ayb:=fun a b ha hb=>(kC a b ha hb).1
def ayc:=fun a b ha hb=>(kC a b ha hb).2
def YB:=mk Tryz.func207 (hlC agk.ok hlN) (anD (std 0) AV)
noncomputable def Kl:=YB.c
def gL:=fun a b d hd h1 h2=>YB.cs (apa axL axM a b d hd h1 h2)
def arD:=fun a b d hd h1 h2=>(gL a b d hd h1 h2).1
def arE:=fun a b d hd h1 h2=>(gL a b d hd h1 h2).2
noncomputable def Dp:Ct aA Iu:=never Iu
theorem arF:dB E 208 (cu Dp):=kU (enters_of Tryz.func208 (by kernel_rfl) rfl)
noncomputable def Dq:Ct aA Iw:=never Iw
theorem arG:dB E 209 (cu Dq):=kU (enters_of Tryz.func209 (by kernel_rfl) rfl)
noncomputable def Dr:Ct aA Iy:=never Iy
theorem arH:dB E 210 (cu Dr):=kU (enters_of Tryz.func210 (by kernel_rfl) rfl)
noncomputable def Dt:Ct aA Iz:=never Iz
theorem arI:dB E 211 (cu Dt):=kU (enters_of Tryz.func211 (by kernel_rfl) rfl)
noncomputable def Du:Ct aA IB:=never IB
theorem arJ:dB E 212 (cu Du):=kU (enters_of Tryz.func212 (by kernel_rfl) rfl)
noncomputable def Dv:Ct aA IC:=never IC
theorem arK:dB E 213 (cu Dv):=kU (enters_of Tryz.func213 (by kernel_rfl) rfl)
noncomputable def Dw:Ct aA IE:=never IE
theorem arL:dB E 214 (cu Dw):=kU (enters_of Tryz.func214 (by kernel_rfl) rfl)
noncomputable def iP:Ct aA qg:=never qg
theorem mU:dB E 203 (cu iP):=kU (enters_of Tryz.func203 (by kernel_rfl) rfl)
def YC:=mk Tryz.func203 (hlC agk.ok (hlC YB.ok (hlC arF (hlC arG (hlC arH (hlC arI (hlC arJ (hlC arK (hlC arL (hlC mU hlN)))))))))) (anE (std 0) AV Kl Dp Dq Dr Dt Du Dv Dw iP)
noncomputable def tK:=YC.c
def iW:=fun a b k d hd h1 h2=>YC.cs (apb arD arE _ _ _ _ _ _ _ _ _ _ _ _ _ _ _ _ a b k d hd h1 h2)
def arM:=fun a b k d hd h1 h2=>(iW a b k d hd h1 h2).1
def arN:=fun a b k d hd h1 h2=>(iW a b k d hd h1 h2).2
noncomputable def Km:Ct aA ZK:={pre:=fun x=>decide ((0:Int)≤x.1)&&decide ((x.1:Int)≤18446744073709551615),fn:=fun x=>((Lib.bitLen (x.1:Int).toNat:Int),())}
theorem ayd (n:Int) (h1:0≤n) (h2:n≤18446744073709551615):Km.pre (n,())=true:=by
 show(decide _&&decide _)=true;simp only [Bool.and_eq_true,decide_eq_true_eq];exact⟨h1,h2⟩
theorem aye:dB E 204 (cu Km):=
 afM (enters_of Tryz.func204 (by kernel_rfl) rfl) rfl fun x w h=>by
  have h':(decide ((0:Int)≤x)&&decide (x≤18446744073709551615))=true:=h
  simp only [Bool.and_eq_true,decide_eq_true_eq]at h'
  exact bits_Len x w h'.1 h'.2
def YD:=mk Tryz.func180 (hlC YC.ok (hlC aye hlN)) (anF (std 0) tK Km)
noncomputable def Kn:=YD.c
def lg:=fun a ha=>YD.cs (apc arM arN ayd a ha)
def arO:=fun a ha=>(lg a ha).1
def arP:=fun a ha=>(lg a ha).2
def aaF:=mk Tryz.func153 (hlC Cq.ok (hlC M4.ok (hlC aaE.ok (hlC agF.ok (hlC YD.ok hlN))))) (avO (std 0) fF oF zn Sj Kn)
noncomputable def zo:=aaF.c
def zY:=fun a b ha hb=>aaF.cs (awO Lr Ls agA agB ajx ajy ayb ayc arO arP a b ha hb)
def ajz:=fun a b ha hb=>(zY a b ha hb).1
def ajA:=fun a b ha hb=>(zY a b ha hb).2
def agG:=mk Tryz.func152 (hlC Cq.ok (hlC TI.ok (hlC EP.ok (hlC aaF.ok hlN)))) (avP (std 0) fF oG iN zo)
noncomputable def Sn:=agG.c
def uL:=fun a n ha=>agG.cs (awP Lr Ls agy agz Tx Tz ajz ajA a n ha)
def ayf:=fun a n ha=>(uL a n ha).1
def ayg:=fun a n ha=>(uL a n ha).2
def agH:=mk Tryz.func154 (hlC EP.ok (hlC M4.ok hlN)) (avQ (std 0) iN oF)
noncomputable def Sk:=agH.c
def Cw:=fun op a b=>agH.cs (awr Tx Tz agA agB op a b)
def ayh:=fun op a b=>(Cw op a b).1
def ayi:=fun op a b=>(Cw op a b).2
def agI:=mk Tryz.func119 (hlC ET.ok (hlC TI.ok (hlC agH.ok (hlC agE.ok (hlC aaF.ok (hlC agG.ok (hlC aaC.ok hlN))))))) (avR (std 0) gJ oG Sk Sl zo Sn zq)
noncomputable def Sq:=agI.c
def zZ:=fun op x y hx hy=>agI.cs (awQ MZ M0 agy agz ayh ayi ax9 aya ajz ajA ayf ayg ajs ajt op x y hx hy)
def ayj:=fun op x y hx hy=>(zZ op x y hx hy).1
def ayk:=fun op x y hx hy=>(zZ op x y hx hy).2
def agJ:=mk Tryz.func79 (hlC TF.ok (hlC agI.ok (hlC aax.ok (hlC aay.ok hlN)))) (avS (std 0) oC Sq zh zf)
noncomputable def SB:=agJ.c
def r9:=fun t op x y ht hx hy=>agJ.cs (awR agm agn ayj ayk ajg ajh aji ajj t op x y ht hx hy)
def ayl:=fun t op x y ht hx hy=>(r9 t op x y ht hx hy).1
def aym:=fun t op x y ht hx hy=>(r9 t op x y ht hx hy).2
def agK:=mk Tryz.func162 (hlC TH.ok hlN) (avT (std 0) oD)
noncomputable def Sr:=agK.c
def pQ:=fun a ha=>agK.cs (aw3 ags agt a ha)
def ayn:=fun a ha=>(pQ a ha).1
def ayo:=fun a ha=>(pQ a ha).2
def agL:=mk Tryz.func124 (hlC TH.ok (hlC agK.ok hlN)) (avU (std 0) oD Sr)
noncomputable def Sv:=agL.c
def nA:=fun s hs=>agL.cs (aw4 ags agt ayn ayo s hs)
def ayp:=fun s hs=>(nA s hs).1
def ayq:=fun s hs=>(nA s hs).2
def agM:=mk Tryz.func126 (hlC EP.ok hlN) (avV (std 0) iN)
noncomputable def Sw:=agM.c
def z8:=fun r a b=>agM.cs (aw2 Tx Tz r a b)
def ayr:=fun r a b=>(z8 r a b).1
def ays:=fun r a b=>(z8 r a b).2
def agN:=mk Tryz.func82 (hlC aaC.ok (hlC Cq.ok (hlC TF.ok (hlC agL.ok (hlC ET.ok (hlC agM.ok hlN)))))) (avW (std 0) zq fF oC Sv gJ Sw)
noncomputable def Sz:=agN.c
def Aa:=fun s n hs h0 h1=>agN.cs (aw9 ajs ajt Lr Ls agm agn ayp ayq MZ M0 ayr ays s n hs h0 h1)
def ayt:=fun s n hs h0 h1=>(Aa s n hs h0 h1).1
def ayu:=fun s n hs h0 h1=>(Aa s n hs h0 h1).2
def agO:=mk Tryz.func31 (hlC TD.ok (hlC aan.ok (hlC agw.ok (hlC aal.ok (hlC TI.ok (hlC agN.ok (hlC agv.ok (hlC aaB.ok (hlC agJ.ok (hlC aaz.ok (hlC aaA.ok (hlC agx.ok hlN)))))))))))) (avX (std 0) y8 zu Sy yY oG Sz SA zl SB zi zm SE)
noncomputable def SN:=agO.c
def Ab:=fun t b ht hb=>agO.cs (axa ai4 ai5 ai6 ai7 ax1 ax2 aiW aiX agy agz ayt ayu axZ ax0 ajq ajr ayl aym ajk ajl ajm ajn ax3 ax4 t b ht hb)
def ayv:=fun t b ht hb=>(Ab t b ht hb).1
def ayw:=fun t b ht hb=>(Ab t b ht hb).2
def agP:=mk Tryz.func128 (hlC ET.ok hlN) (avY (std 0) gJ)
noncomputable def SF:=agP.c
def oL:=fun a b ha=>agP.cs (axd MZ M0 a b ha)
def ayx:=fun a b ha=>(oL a b ha).1
def ayy:=fun a b ha=>(oL a b ha).2
def agQ:=mk Tryz.func127 (hlC agP.ok hlN) (avZ (std 0) SF)
noncomputable def SG:=agQ.c
def aZ:=fun a b ha=>agQ.cs (axe ayx ayy a b ha)
def ayz:=fun a b ha=>(aZ a b ha).1
def ayA:=fun a b ha=>(aZ a b ha).2
def aaG:=mk Tryz.func86 (hlC agQ.ok hlN) (av0 (std 0) SG)
noncomputable def zw:=aaG.c
def sj:=fun a b ha=>aaG.cs (axf ayz ayA a b ha)
def ajB:=fun a b ha=>(sj a b ha).1
def ajC:=fun a b ha=>(sj a b ha).2
def agR:=mk Tryz.func84 (hlC ET.ok (hlC aaG.ok hlN)) (av1 (std 0) gJ zw)
noncomputable def SH:=agR.c
def su:=fun a b ha=>agR.cs (axg MZ M0 ajB ajC a b ha)
def ayB:=fun a b ha=>(su a b ha).1
def ayC:=fun a b ha=>(su a b ha).2
def agS:=mk Tryz.func83 (hlC agR.ok hlN) (av2 (std 0) SH)
noncomputable def SK:=agS.c
def aU:=fun a b ha=>agS.cs (axh ayB ayC a b ha)
def ayD:=fun a b ha=>(aU a b ha).1
def ayE:=fun a b ha=>(aU a b ha).2
end Go.TX.F
namespace Go.TX.F
open Go Go.AE Go.TX Go.TX.Seat Go.Proofs
set_option maxRecDepth 100000
def agT:=mk Tryz.func32 (hlC ET.ok (hlC aaG.ok (hlC agS.ok hlN))) (av3 (std 0) gJ zw SK)
noncomputable def SQ:=agT.c
def xC:=fun a b ha=>agT.cs (axi MZ M0 ajB ajC ayD ayE a b ha)
def ayF:=fun a b ha=>(xC a b ha).1
def ayG:=fun a b ha=>(xC a b ha).2
def aaH:=mk Tryz.func9 (hlC aan.ok (hlC aap.ok (hlC agu.ok (hlC agO.ok (hlC agT.ok hlN))))) (av4 (std 0) zu zy SL SN SQ)
noncomputable def zB:=aaH.c
def xD:=fun b c hb hc=>aaH.cs (axj ai6 ai7 ai8 ai9 axX axY ayv ayw ayF ayG b c hb hc)
def ajD:=fun b c hb hc=>(xD b c hb hc).1
def ajE:=fun b c hb hc=>(xD b c hb hc).2
def YE:=mk Tryz.func12 (hlC Yr.ok hlN) (anG (std 0) Ko)
noncomputable def KV:=YE.c
def Cx:=fun l h=>YE.cs (ap5 aq5 aq6 l h)
def arQ:=fun l h=>(Cx l h).1
def arR:=fun l h=>(Cx l h).2
def arS:=mk Tryz.func37 (hlC aaH.ok hlN) (azJ (std 0) zB)
noncomputable def aeP:=arS.c
def xE:=fun q h1 h2=>arS.cs (azU ajD ajE q h1 h2)
def az9:=fun q h1 h2=>(xE q h1 h2).1
def aAa:=fun q h1 h2=>(xE q h1 h2).2
def arT:=mk Tryz.func46 (hlC aap.ok hlN) (azK (std 0) zy)
noncomputable def aeO:=arT.c
def uM:=fun q b c h1 h2=>arT.cs (azT ai8 ai9 q b c h1 h2)
def aAb:=fun q b c h1 h2=>(uM q b c h1 h2).1
def aAc:=fun q b c h1 h2=>(uM q b c h1 h2).2
def YF:=mk Tryz.func88 (hlC arT.ok hlN) (anH (std 0) aeO)
noncomputable def Kq:=YF.c
def dM:=fun l b c h=>YF.cs (apR aAb aAc l b c h)
def arU:=fun l b c h=>(dM l b c h).1
def arV:=fun l b c h=>(dM l b c h).2
def YG:=mk Tryz.func88 (hlC arS.ok hlN) (anI (std 0) aeP)
noncomputable def Kr:=YG.c
def cZ:=fun l h=>YG.cs (apS az9 aAa l h)
def arW:=fun l h=>(cZ l h).1
def arX:=fun l h=>(cZ l h).2
def agU:=mk Tryz.func36 (hlC YF.ok hlN) (av5 (std 0) Kq)
noncomputable def Td:=agU.c
def dh:=fun l b c h=>agU.cs (axk arU arV l b c h)
def ayH:=fun l b c h=>(dh l b c h).1
def ayI:=fun l b c h=>(dh l b c h).2
def agV:=mk Tryz.func36 (hlC YG.ok hlN) (av6 (std 0) Kr)
noncomputable def SX:=agV.c
def bS:=fun l h=>agV.cs (axl arW arX l h)
def ayJ:=fun l h=>(bS l h).1
def ayK:=fun l h=>(bS l h).2
def arY:=mk Tryz.func14 (hlC agV.ok hlN) (azL (std 0) SX)
noncomputable def aeS:=arY.c
def Cy:=fun l h=>arY.cs (azW ayJ ayK l h)
def aAd:=fun l h=>(Cy l h).1
def aAe:=fun l h=>(Cy l h).2
def Pb:=mk Tryz.func39 hlN (anJ (std 0))
noncomputable def KR:=Pb.c
def arZ:=fun b hb hl=>(Pb.cs (afj b hb hl)).1
def ar0:=fun b hb hl=>(Pb.cs (afj b hb hl)).2
def lM:=mk Tryz.func89 hlN (anK (std 0))
noncomputable def aY:=lM.c
def qY:=fun n b p hb h1 h2=>(lM.cs (afk n b p hb h1 h2)).1
def qZ:=fun n b p hb h1 h2=>(lM.cs (afk n b p hb h1 h2)).2
def xG:=mk Tryz.func98 hlN (anL (std 0))
noncomputable def fO:=xG.c
def Lv:=fun b hb=>(xG.cs (afv b hb)).1
def Lx:=fun b hb=>(xG.cs (afv b hb)).2
def LA:=mk Tryz.func134 (hlC kV.ok hlN) (anM (std 0) aQ)
noncomputable def qJ:=LA.c
def agW:=fun o al hk hx hy=>(LA.cs (afy mP mQ o al hk hx hy)).1
def agX:=fun o al hk hx hy=>(LA.cs (afy mP mQ o al hk hx hy)).2
def LB:=mk Tryz.func96 (hlC qX.ok (hlC LA.ok (hlC xG.ok hlN))) (anN (std 0) bK qJ fO)
noncomputable def jS:=LB.c
def xH:=fun b hb=>LB.cs (apL wV wW agW agX Lv Lx b hb)
def YH:=fun b hb=>(xH b hb).1
def YI:=fun b hb=>(xH b hb).2
def Pf:=mk Tryz.func166 (hlC LA.ok hlN) (anO (std 0) qJ)
noncomputable def qK:=Pf.c
def xI:=fun b kp ok hk=>Pf.cs (apH agW agX b kp ok hk)
def agY:=fun b kp ok hk=>(xI b kp ok hk).1
def agZ:=fun b kp ok hk=>(xI b kp ok hk).2
def YJ:=mk Tryz.func167 (hlC qX.ok (hlC kV.ok hlN)) (anP (std 0) bK aQ)
noncomputable def Kt:=YJ.c
def xJ:=fun b hb=>YJ.cs (apG wV wW mP mQ b hb)
def ar1:=fun b hb=>(xJ b hb).1
def ar2:=fun b hb=>(xJ b hb).2
def YK:=mk Tryz.func131 (hlC qX.ok (hlC YJ.ok (hlC Pf.ok hlN))) (anQ (std 0) bK Kt qK)
noncomputable def Kz:=YK.c
def xK:=fun b hb=>YK.cs (apI wV wW ar1 ar2 agY agZ b hb)
def ar3:=fun b hb=>(xK b hb).1
def ar4:=fun b hb=>(xK b hb).2
def Pg:=mk Tryz.func168 hlN (anR (std 0))
noncomputable def Ku:=Pg.c
def ar5:=fun ops k h0 h1 h2=>(Pg.cs (afz ops k h0 h1 h2)).1
def ar6:=fun ops k h0 h1 h2=>(Pg.cs (afz ops k h0 h1 h2)).2
def YL:=mk Tryz.func132 (hlC qX.ok (hlC Pf.ok (hlC Pg.ok hlN))) (anS (std 0) bK qK Ku)
noncomputable def KA:=YL.c
def xL:=fun b hb=>YL.cs (apJ wV wW agY agZ ar5 ar6 b hb)
def ar7:=fun b hb=>(xL b hb).1
def ar8:=fun b hb=>(xL b hb).2
def LC:=mk Tryz.func169 hlN (anT (std 0))
noncomputable def qL:=LC.c
def ag0:=fun ops k=>(LC.cs (afw ops k)).1
def ag1:=fun ops k=>(LC.cs (afw ops k)).2
def Ph:=mk Tryz.func197 hlN (anU (std 0))
noncomputable def Kv:=Ph.c
def ar9:=fun b k=>(Ph.cs (afx b k)).1
def asa:=fun b k=>(Ph.cs (afx b k)).2
def YM:=mk Tryz.func170 (hlC Ph.ok (hlC LC.ok hlN)) (anV (std 0) Kv qL)
noncomputable def Kw:=YM.c
def xM:=fun b h=>YM.cs (apC ar9 asa ag0 ag1 b h)
def asb:=fun b h=>(xM b h).1
def asc:=fun b h=>(xM b h).2
def YN:=mk Tryz.func133 (hlC qX.ok (hlC OY.ok (hlC YM.ok (hlC LC.ok (hlC xG.ok hlN))))) (anW (std 0) bK qD Kw qL fO)
noncomputable def Ky:=YN.c
def uN:=fun b hb=>YN.cs (apF wV wW af4 af5 asb asc ag0 ag1 Lv Lx b hb)
def ase:=fun b hb=>(uN b hb).1
def asf:=fun b hb=>(uN b hb).2
def LD:=mk Tryz.func91 (hlC YN.ok (hlC LB.ok (hlC YK.ok (hlC YL.ok hlN)))) (anX (std 0) Ky jS Kz KA)
noncomputable def jT:=LD.c
def Ac:=fun b hb=>LD.cs (apD ase asf YH YI ar3 ar4 ar7 ar8 b hb)
def YO:=fun b hb=>(Ac b hb).1
def YP:=fun b hb=>(Ac b hb).2
def YQ:=mk Tryz.func186 (hlC lM.ok hlN) (anY (std 0) aY)
noncomputable def KD:=YQ.c
def Ad:=fun b p hb h1 h2=>YQ.cs (apz qY qZ b p hb h1 h2)
def asg:=fun b p hb h1 h2=>(Ad b p hb h1 h2).1
def ash:=fun b p hb h1 h2=>(Ad b p hb h1 h2).2
def YR:=mk Tryz.func205 hlN (anZ (std 0))
noncomputable def KC:=YR.c
def asi:=fun i=>(YR.cs (apn i)).1
end Go.TX.F
namespace Go.TX.F
open Go Go.AE Go.TX Go.TX.Seat Go.Proofs
set_option maxRecDepth 100000
def Pj:=mk Tryz.func188 (hlC kV.ok (hlC YR.ok hlN)) (an0 (std 0) aQ KC)
noncomputable def qN:=Pj.c
def Pm:=fun i=>Pj.cs (apo mP mQ asi i)
def ag2:=fun i=>(Pm i).1
def Pn:=mk Tryz.func189 hlN (an1 (std 0))
noncomputable def qM:=Pn.c
def ag3:=fun i=>(Pn.cs (apq i)).1
def Po:=mk Tryz.func187 (hlC Pn.ok (hlC Pj.ok hlN)) (an2 (std 0) qM qN)
noncomputable def qO:=Po.c
def LG:=fun i=>Po.cs (apr ag3 ag2 i)
def ag4:=fun i=>(LG i).1
def YS:=mk Tryz.func163 (hlC YQ.ok (hlC lM.ok (hlC Po.ok hlN))) (an3 (std 0) KD aY qO)
noncomputable def KE:=YS.c
def xO:=fun b p hb h1 h2=>YS.cs (apA asg ash qY qZ ag4 b p hb h1 h2)
def asj:=fun b p hb h1 h2=>(xO b p hb h1 h2).1
def asl:=fun b p hb h1 h2=>(xO b p hb h1 h2).2
def YT:=mk Tryz.func129 (hlC YS.ok (hlC lM.ok hlN)) (an4 (std 0) KE aY)
noncomputable def KN:=YT.c
def xP:=fun b p hb h1 h2=>YT.cs (apB asj asl qY qZ b p hb h1 h2)
def asn:=fun b p hb h1 h2=>(xP b p hb h1 h2).1
def aso:=fun b p hb h1 h2=>(xP b p hb h1 h2).2
def YU:=mk Tryz.func164 (hlC Pn.ok (hlC Pj.ok (hlC kV.ok (hlC Po.ok hlN)))) (an5 (std 0) qM qN aQ qO)
noncomputable def KJ:=YU.c
def Pp:=fun pc l hl=>YU.cs (aps ag3 ag2 mP mQ ag4 pc l hl)
def asq:=fun pc l hl=>(Pp pc l hl).1
def xQ:=mk Tryz.func190 hlN (an6 (std 0))
noncomputable def fP:=xQ.c
def Bd:=fun a1 a2 a3 a4 a5 a6 o ops hl=>(xQ.cs (afr a1 a2 a3 a4 a5 a6 o ops hl)).1
def Bf:=fun a1 a2 a3 a4 a5 a6 o ops hl=>(xQ.cs (afr a1 a2 a3 a4 a5 a6 o ops hl)).2
def LH:=mk Tryz.func191 (hlC xQ.ok hlN) (an7 (std 0) fP)
noncomputable def qQ:=LH.c
def ag5:=fun a1 a2 a3 a4 a5 a6 k x ops hl=>(LH.cs (aft Bd Bf a1 a2 a3 a4 a5 a6 k x ops hl)).1
def ag6:=fun a1 a2 a3 a4 a5 a6 k x ops hl=>(LH.cs (aft Bd Bf a1 a2 a3 a4 a5 a6 k x ops hl)).2
def Bg:=mk Tryz.func192 (hlC xQ.ok hlN) (an8 (std 0) fP)
noncomputable def iB:=Bg.c
def LJ:=fun a1 a2 a3 a4 a5 a6 k ops hl=>(Bg.cs (afs Bd Bf a1 a2 a3 a4 a5 a6 k ops hl)).1
def LK:=fun a1 a2 a3 a4 a5 a6 k ops hl=>(Bg.cs (afs Bd Bf a1 a2 a3 a4 a5 a6 k ops hl)).2
def Pq:=mk Tryz.func193 (hlC Bg.ok (hlC xQ.ok hlN)) (an9 (std 0) iB fP)
noncomputable def qP:=Pq.c
def uO:=fun a1 a2 a3 a4 a5 a6 k a o ops hl=>Pq.cs (apt LJ LK Bd Bf a1 a2 a3 a4 a5 a6 k a o ops hl)
def ag7:=fun a1 a2 a3 a4 a5 a6 k a o ops hl=>(uO a1 a2 a3 a4 a5 a6 k a o ops hl).1
def ag8:=fun a1 a2 a3 a4 a5 a6 k a o ops hl=>(uO a1 a2 a3 a4 a5 a6 k a o ops hl).2
def YV:=mk Tryz.func194 hlN (aoa (std 0))
noncomputable def KH:=YV.c
def asr:=fun k hk=>(YV.cs (apv k hk)).1
def YW:=mk Tryz.func195 (hlC Bg.ok (hlC xQ.ok (hlC Pq.ok (hlC LH.ok hlN)))) (aob (std 0) iB fP qP qQ)
noncomputable def KG:=YW.c
def xR:=fun a1 a2 a3 a4 a5 a6 i k ops hl=>YW.cs (apu LJ LK Bd Bf ag7 ag8 ag5 ag6 a1 a2 a3 a4 a5 a6 i k ops hl)
def asu:=fun a1 a2 a3 a4 a5 a6 i k ops hl=>(xR a1 a2 a3 a4 a5 a6 i k ops hl).1
def asv:=fun a1 a2 a3 a4 a5 a6 i k ops hl=>(xR a1 a2 a3 a4 a5 a6 i k ops hl).2
def Pv:=mk Tryz.func196 (hlC Bg.ok hlN) (aoc (std 0) iB)
noncomputable def KF:=Pv.c
def asw:=fun a1 a2 a3 a4 a5 a6 i ops hl=>(Pv.cs (afu LJ LK a1 a2 a3 a4 a5 a6 i ops hl)).1
def asx:=fun a1 a2 a3 a4 a5 a6 i ops hl=>(Pv.cs (afu LJ LK a1 a2 a3 a4 a5 a6 i ops hl)).2
def YX:=mk Tryz.func165 (hlC Bg.ok (hlC Pv.ok (hlC xQ.ok (hlC YW.ok (hlC Pq.ok (hlC LH.ok (hlC YV.ok hlN))))))) (aod (std 0) iB KF fP KG qP qQ KH)
noncomputable def KL:=YX.c
def Cz:=fun a1 a2 a3 a4 a5 a6 i k ops hk hl=>YX.cs (apw LJ LK asw asx Bd Bf asu asv ag7 ag8 ag5 ag6 asr a1 a2 a3 a4 a5 a6 i k ops hk hl)
def asy:=fun a1 a2 a3 a4 a5 a6 i k ops hk hl=>(Cz a1 a2 a3 a4 a5 a6 i k ops hk hl).1
def asz:=fun a1 a2 a3 a4 a5 a6 i k ops hk hl=>(Cz a1 a2 a3 a4 a5 a6 i k ops hk hl).2
def YZ:=mk Tryz.func130 (hlC YU.ok (hlC YX.ok hlN)) (aoe (std 0) KJ KL)
noncomputable def KM:=YZ.c
def uP:=fun pc l hl hk=>YZ.cs (apx asq asy asz pc l hl hk)
def asA:=fun pc l hl hk=>(uP pc l hl hk).1
def asB:=fun pc l hl hk=>(uP pc l hl hk).2
def Pw:=mk Tryz.func90 (hlC YZ.ok (hlC LD.ok (hlC LB.ok (hlC lM.ok (hlC YT.ok hlN))))) (aof (std 0) KM jT jS aY KN)
noncomputable def qU:=Pw.c
def uQ:=fun b p hb h1 h2=>Pw.cs (apM asA asB YO YP YH YI qY qZ asn aso b p hb h1 h2)
def ag9:=fun b p hb h1 h2=>(uQ b p hb h1 h2).1
def aha:=fun b p hb h1 h2=>(uQ b p hb h1 h2).2
def Px:=mk Tryz.func92 (hlC lM.ok hlN) (aog (std 0) aY)
noncomputable def qR:=Px.c
def sw:=fun n b p hb h1 h2=>Px.cs (ao8 qY qZ n b p hb h1 h2)
def ahb:=fun n b p hb h1 h2=>(sw n b p hb h1 h2).1
def ahc:=fun n b p hb h1 h2=>(sw n b p hb h1 h2).2
def LM:=mk Tryz.func93 (hlC lM.ok (hlC xG.ok hlN)) (aoh (std 0) aY fO)
noncomputable def jU:=LM.c
def xS:=fun c b p hc hb h1 h2=>LM.cs (apO qY qZ Lv Lx c b p hc hb h1 h2)
def Y0:=fun c b p hc hb h1 h2=>(xS c b p hc hb h1 h2).1
def Y1:=fun c b p hc hb h1 h2=>(xS c b p hc hb h1 h2).2
def Y2:=mk Tryz.func40 (hlC LD.ok (hlC Px.ok (hlC lM.ok (hlC LM.ok (hlC Pw.ok hlN))))) (aoi (std 0) jT qR aY jU qU)
noncomputable def KT:=Y2.c
def uR:=fun n b p hb h1 h2=>Y2.cs (apT YO YP ahb ahc qY qZ Y0 Y1 ag9 aha n b p hb h1 h2)
def asC:=fun n b p hb h1 h2=>(uR n b p hb h1 h2).1
def asD:=fun n b p hb h1 h2=>(uR n b p hb h1 h2).2
def Y3:=mk Tryz.func94 (hlC Px.ok (hlC lM.ok (hlC LM.ok (hlC Pw.ok hlN)))) (aoj (std 0) qR aY jU qU)
noncomputable def KO:=Y3.c
def pR:=fun n b p hb h1 h2=>Y3.cs (apP ahb ahc qY qZ Y0 Y1 ag9 aha n b p hb h1 h2)
def asE:=fun n b p hb h1 h2=>(pR n b p hb h1 h2).1
def asF:=fun n b p hb h1 h2=>(pR n b p hb h1 h2).2
def Y4:=mk Tryz.func95 (hlC lM.ok (hlC xG.ok hlN)) (aol (std 0) aY fO)
noncomputable def KQ:=Y4.c
def sD:=fun c b p ok hc hb h1 h2=>Y4.cs (apN qY qZ Lv Lx c b p ok hc hb h1 h2)
def asG:=fun c b p ok hc hb h1 h2=>(sD c b p ok hc hb h1 h2).1
def asH:=fun c b p ok hc hb h1 h2=>(sD c b p ok hc hb h1 h2).2
def Y5:=mk Tryz.func41 (hlC qX.ok (hlC LD.ok (hlC LB.ok (hlC lM.ok (hlC LM.ok (hlC Y3.ok (hlC Y4.ok hlN))))))) (aom (std 0) bK jT jS aY jU KO KQ)
noncomputable def KS:=Y5.c
def xU:=fun n b p hb h1 h2=>Y5.cs (apQ wV wW YO YP YH YI qY qZ Y0 Y1 asE asF asG asH n b p hb h1 h2)
def asI:=fun n b p hb h1 h2=>(xU n b p hb h1 h2).1
def asJ:=fun n b p hb h1 h2=>(xU n b p hb h1 h2).2
def Y6:=mk Tryz.func16 (hlC Pb.ok (hlC Y5.ok (hlC Y2.ok hlN))) (aon (std 0) KR KS KT)
noncomputable def KY:=Y6.c
def pU:=fun c hc hl=>Y6.cs (ap8 arZ ar0 asI asJ asC asD c hc hl)
def asK:=fun c hc hl=>(pU c hc hl).1
def asL:=fun c hc hl=>(pU c hc hl).2
def aaI:=mk Tryz.func135 hlN (av7 (std 0))
noncomputable def SY:=aaI.c
def ayL:=fun b hb=>(aaI.cs (aiT b hb)).1
def ayM:=fun b hb=>(aaI.cs (aiT b hb)).2
def asM:=mk Tryz.func97 (hlC aaI.ok hlN) (azM (std 0) SY)
noncomputable def aeQ:=asM.c
def mI:=fun q h1 h2=>asM.cs (az3 ayL ayM q h1 h2)
def aAf:=fun q h1 h2=>(mI q h1 h2).1
def aAg:=fun q h1 h2=>(mI q h1 h2).2
def ahd:=mk Tryz.func42 (hlC asM.ok hlN) (av8 (std 0) aeQ)
noncomputable def S9:=ahd.c
def pV:=fun l h=>ahd.cs (axp aAf aAg l h)
def ayN:=fun l h=>(pV l h).1
def ayO:=fun l h=>(pV l h).2
def aaJ:=mk Tryz.func43 hlN (av9 (std 0))
noncomputable def Ta:=aaJ.c
def ayP:=fun l n hl h0 h1=>(aaJ.cs (aiV l n hl h0 h1)).1
def ayQ:=fun l n hl h0 h1=>(aaJ.cs (aiV l n hl h0 h1)).2
def asN:=mk Tryz.func17 (hlC ahd.ok (hlC aaJ.ok hlN)) (azN (std 0) S9 Ta)
noncomputable def aeT:=asN.c
def Ae:=fun l q h h1 h2=>asN.cs (az4 ayN ayO ayP ayQ l q h h1 h2)
def aAh:=fun l q h h1 h2=>(Ae l q h h1 h2).1
def aAi:=fun l q h h1 h2=>(Ae l q h h1 h2).2
def aaK:=mk Tryz.func44 hlN (awc (std 0))
noncomputable def Tc:=aaK.c
def ayR:=fun a b ha=>(aaK.cs (aiU a b ha)).1
def ayS:=fun a b ha=>(aaK.cs (aiU a b ha)).2
def ahe:=mk Tryz.func18 (hlC aaK.ok hlN) (awd (std 0) Tc)
noncomputable def Te:=ahe.c
def xV:=fun a b ha=>ahe.cs (axq ayR ayS a b ha)
def ayT:=fun a b ha=>(xV a b ha).1
def ayU:=fun a b ha=>(xV a b ha).2
def Y7:=mk Tryz.func45 (hlC xG.ok hlN) (aoo (std 0) fO)
noncomputable def KU:=Y7.c
def xW:=fun q h1 h2=>Y7.cs (ap6 Lv Lx q h1 h2)
def asO:=fun q h1 h2=>(xW q h1 h2).1
def asP:=fun q h1 h2=>(xW q h1 h2).2
def Y8:=mk Tryz.func19 (hlC Y7.ok hlN) (aop (std 0) KU)
noncomputable def KW:=Y8.c
def Af:=fun l q h h1 h2=>Y8.cs (ap7 asO asP l q h h1 h2)
def asQ:=fun l q h h1 h2=>(Af l q h h1 h2).1
def asR:=fun l q h h1 h2=>(Af l q h h1 h2).2
def asS:=mk Tryz.func20 (hlC agU.ok hlN) (azO (std 0) Td)
noncomputable def aeR:=asS.c
def Ag:=fun l b c h=>asS.cs (azV ayH ayI l b c h)
def aAj:=fun l b c h=>(Ag l b c h).1
def aAk:=fun l b c h=>(Ag l b c h).2
def ajF:=mk Tryz.func5 (hlC asS.ok (hlC arY.ok (hlC asN.ok (hlC aaH.ok (hlC ahe.ok (hlC YE.ok (hlC Y8.ok (hlC Y6.ok hlN)))))))) (awe (std 0) aeR aeS aeT zB Te KV KW KY)
def uS:=fun c hc=>ajF.cs (axr aAj aAk aAd aAe aAh aAi ajD ajE ayT ayU arQ arR asQ asR asK asL c hc)
def ayV:=fun c hc=>(uS c hc).1
def ayW:=fun c hc=>(uS c hc).2
end Go.TX.F
namespace Go.Proofs.YtpijningoklkpaaGreat
open Go.ChangeShapes Go.WideShapes Go.ChangeAt Go.RowKit
theorem aAl:ownKnob Tryz.prog.godebug=Option.none:=by kernel_rfl
theorem ayX:laidOutB Tryz.prog=true:=by kernel_rfl
theorem asT:Tryz.prog.cellsOf 5=1:=by kernel_rfl
set_option maxRecDepth 100000 in
theorem lifted (os:Os) (started:os.Started) (H:Type) (enc:TypeId×Value→H):
  ReturnsInHanded {} Tryz.checked os 5 .any (Rows.fnCerPutSpec.pre6 enc Tryz.prog Tryz.f5 Rows.fnCerPutRow.domain false) (Rows.fnCerPutSpec.post enc Tryz.prog Tryz.f5 false true false false):=by
 refine returnsInHanded_of_change (C:=Tryz.checked) aAl started (by kernel_rfl) Tryz.func5
  (ChangeSpec.witness6 (enc:=enc) (C:=Tryz.checked) false ⟨#[], #[.slice none 0 0],[]⟩ 8 (by kernel_rfl) (by kernel_rfl) (by kernel_rfl) (by kernel_rfl)) ?_
 intro W base args ds gs before hval0 hW _ _
 have hval:∀(j:Nat) t v,Tryz.f5.params[j]? =some t→args[j]? =some v→Value.okWide Tryz.prog W .any base t v:=hval0
 have hW':=hW
 obtain⟨p,q,hA0,hV,rfl,_,_⟩:=hW
 have hA:DataW.TrodAll enc Tryz.prog W 0 (fun _=>true) true Tryz.f5.params.toList args.toList ds p:=hA0
 rw [Tryz.params5]at hA hval
 obtain⟨v0,d0,rfl,rfl,h0⟩:=trodAll_one hA
 obtain⟨rfl,rfl⟩:=trodVars_none hV
 clear hA0 hval0
 simp only [List.append_nil]at hW'
 have hlt:∀x∈p,x.block<W.heap.size:=fun x hx=>by simpa using hW'.lt x hx
 obtain⟨xs,hr,hb⟩:=Go.TX.afL Tryz.underlying39 Tryz.underlying5 asT (hval 0 39 v0 rfl rfl) h0 hlt
 have hp:=Go.TX.F.ayV xs hb
 have hq:=Go.TX.F.ayW xs hb
 refine(Go.TX.az6 Go.TX.F.ajF.ok hr (fun g d h=>by cases h) hp).mono fun e W' ⟨he,hw⟩=> ?_
 have he:e= .returned (.bool true):=he.trans (congrArg (fun z:Bool×Unit=>Ending.returned (.bool z.1)) hq)
 refine⟨_,he,[d0],[],p,[],p,[],hW',trodAll_mk1 (shut_bool Tryz.underlying4 true),?_,rfl,hw.frame _,fun h=>by cases h⟩
 exact trodAll_mk1 (Below.trod ayX (by kernel_rfl) (of_decide_eq_true (by kernel_rfl)) h0 hw hlt)
theorem y1:Tryz.pinned.checked.prog.funcNamed Rows.fnCerPutRow.func=some 5:=by kernel_rfl
theorem aS {a b:Bool} (h:a=true) (k:b=true):(a&&b)=true:=by rw [h,k];rfl
set_option maxHeartbeats 4000000 in
theorem y2:joinedFacts Tryz.pinned.checked.prog 5 Tryz.f5 Rows.fnCerPutSpec Rows.fnCerPutRow=true:=by
 unfold joinedFacts
 repeat' with_reducible apply aS
 all_goals (as_aux_lemma=>kernel_rfl)
theorem y3:Func.isWrapper Tryz.prog Tryz.f5 Rows.fnCerPutRow.wrapper Rows.fnCerPutRow.mainSum:=(by unfold Func.isWrapper;first | (rw [if_pos (by decide+kernel)];kernel_rfl) | (rw [if_neg (by decide+kernel)];exact⟨rfl,rfl⟩))
theorem x_holds:Rows.FnCerPutSaid:=
 OpenClaim.holds_of_wide 5 Tryz.f5 rfl rfl rfl rfl rfl rfl rfl ⟨rfl,rfl,rfl,rfl,rfl⟩ rfl rfl rfl rfl rfl y1 Tryz.func5 y2
  (of_decide_eq_true (by kernel_rfl)) y3
  (fun os started H enc _=>lifted os started H enc)
end Go.Proofs.YtpijningoklkpaaGreat
