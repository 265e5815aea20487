/- For every input the law returns true, and the input reads as it did. No condition. -/
import Derived.Test.YtaaefcglllhodaaGreatZd
import Derived.Lib.Bytes
import Derived.ChangeSlices
import Derived.ChangeSame
import Derived.JoinedOf
import Derived.JoinedAt
import Derived.Handed
import Derived.Below
import Derived.Carry
import Derived.OpenShut
import Derived.ChangeKeysEq
import Derived.Test.YtaaefcglllhodaaGreatY
import Derived.Test.YtaaefcglllhodaaGreatRows
set_option linter.all false
set_option linter.unusedSectionVars false
set_option linter.unusedVariables false
set_option linter.unusedSimpArgs false
namespace Go.TX.F
open Go Go.AE Go.TX
def jC(l:List Int):(bV l).Perm l:=List.mergeSort_perm l _
def Cc(l:List Int):(bV l).Pairwise (· <= ·):=by
 have:=List.pairwise_mergeSort (le:=λx y:Int=>decide (x<=y)) (λa b c h1 h2=>by simp only [decide_eq_true_eq]at*;omega) (λa b=>by simp only [Bool.or_eq_true,decide_eq_true_eq];omega) l;exact this.imp λh=>by simpa using h
def uI{a b:List Int}(h:a.Perm b):bV a=bV b:=nJ (Cc a) ((jC a).trans h)
def F3{a:List Int}(h:a.Pairwise (· <= ·)):bV a=a:=(nJ h (List.Perm.refl a)).symm
structure Ren(s:Int->Int)(t:Int->Int)(n:Int):Prop where
 rng:∀k,0<=k->k<n->0<=s k/\s k<=199
 back:∀k,0<=k->k<n->t (s k)=k
def mapM(s:Int->Int)(m:aj):aj:=⟨m.aW,bV (m.atoms.map s)⟩
def AtN(n:Int)(l:List Int):Prop:=l.Pairwise (· <= ·)/\∀k∈l,0<=k/\k<n
def Ren.bk{s t:Int->Int}{n:Int}(h:Ren s t n){l:List Int}(hl:AtN n l):bV ((bV (l.map s)).map t)=l:=by
 rw [uI ((jC _).map t),List.map_map];have e:l.map (t ∘ s)=l:=by
  conv=>rhs;rw [<-List.map_id l]
  exact List.map_congr_left λk hk=>h.back k (hl.2 k hk).1 (hl.2 k hk).2
 rw [e,F3 hl.1]
def J5{s t:Int->Int}{n:Int}(h:Ren s t n)(K:List Int):∀ {l:List aj},(∀m∈l,AtN n m.atoms)->cf (l.map (mapM s)) K=if bV ((bV (K.map t)).map s)=K then cf l (bV (K.map t))else 0
 | [],_=>by simp [gV]
 | m::l,hl=>by
  have hm:=hl m List.mem_cons_self;rw [List.map_cons,aP,J5 h K (λm' hm'=>hl m' (List.mem_cons_of_mem _ hm')),aP];show(if bV (m.atoms.map s)=K then m.aW else 0)+_=_;by_cases c:bV (m.atoms.map s)=K
  .have e:=h.bk hm;rw [c]at e;rw [if_pos c,e,if_pos c,if_pos c,if_pos rfl]
  .rw [if_neg c];by_cases d:bV ((bV (K.map t)).map s)=K
   .rw [if_pos d,if_pos d,if_neg (λx=>c (by rw [x,d]))]
   .rw [if_neg d,if_neg d];rfl
noncomputable def aZ (s:Int->Int) (p:List aj):List aj:=nf (p.map (mapM s))
def agP{s t:Int->Int}{n:Int}(h:Ren s t n){l l':List aj}(hl:∀m∈l,AtN n m.atoms)(hl':∀m∈l',AtN n m.atoms)(e:∀k,cf l k%65536=cf l' k%65536):nf (l.map (mapM s))=nf (l'.map (mapM s)):=
 Mv λK=>by
  rw [J5 h K hl,J5 h K hl'];split
  .exact e _
  .rfl
structure Dis(l:List aj):Prop where
 ne:l.Pairwise λa b=>a.atoms≠b.atoms
 co:∀m∈l,1<=m.aW/\m.aW<=65535
def Nf.dis{o:List aj}(h:Nf o):Dis o:=⟨h.ss.imp λg=>g.ne,h.co⟩
def Dis.perm{a b:List aj}(h:Dis a)(p:a.Perm b):Dis b:=⟨(p.pairwise_iff (R:=λa b:aj=>a.atoms≠b.atoms) (λg=>g.symm)).1 h.ne,λm hm=>h.co m (p.mem_iff.2 hm)⟩
def Dis.rng(k:List Int):∀ {l:List aj},Dis l->0<=cf l k/\cf l k<=65535
 | [],_=>by simp [gV]
 | m::l,h=>by
  have c:=h.co m List.mem_cons_self;rw [aP];by_cases e:m.atoms=k
  .rw [if_pos e,fT λm' hm'=>by rw [<-e];exact(List.rel_of_pairwise_cons h.ne hm').symm];omega
  .rw [if_neg e];have:=Dis.rng k (l:=l) ⟨h.ne.tail,λm hm=>h.co m (List.mem_cons_of_mem _ hm)⟩;omega
def VZ{a b:List aj}(p:a.Perm b)(k:List Int):cf a k=cf b k:=by
 induction p with
 | nil=>rfl
 | cons x _ ih=>rw [aP,aP,ih]
 | swap x y l=>rw [aP,aP,aP,aP];omega
 | trans _ _ h1 h2=>rw [h1,h2]
def agQ{a b c:List Int}(h1:cB a b<=0)(h2:cB b c<=0):cB a c<=0:=by
 by_cases e:cB b c=0
 .rw [<-gU.1 e];exact h1
 .exact Int.le_of_lt (dz (x:=⟨0,a⟩) (y:=⟨0,b⟩) (z:=⟨0,c⟩) h1 (by dsimp only;omega))
def Dis.nf{l:List aj}(h:Dis l):(nf l).Perm l/\Nf (nf l):=by
 have p:(l.mergeSort λa b=>decide (cB a.atoms b.atoms<=0)).Perm l:=List.mergeSort_perm l _;have g:=List.pairwise_mergeSort (le:=λa b:aj=>decide (cB a.atoms b.atoms<=0)) (λa b c h1 h2=>by
  simp only [decide_eq_true_eq]at*;exact agQ h1 h2) (λa b=>by
  simp only [Bool.or_eq_true,decide_eq_true_eq];rw [jL b.atoms a.atoms];omega) l
 have d:=h.perm p.symm;have n:Nf (l.mergeSort λa b=>decide (cB a.atoms b.atoms<=0)):=by
  refine⟨(g.and d.ne).imp λ{a b} x=> ?_,d.co⟩;have x1:cB a.atoms b.atoms<=0:=by simpa using x.1
  have x2:cB a.atoms b.atoms≠0:=λe=>x.2 (gU.1 e)
  show cB _ _<0;omega
 have e:=FN (l:=l) n λk=>by
  rw [VZ p k];have:=h.rng k;omega
 rw [e];exact⟨p,n⟩
def F4{s t:Int->Int}{n:Int}(h:Ren s t n){p:List aj}(hp:Dis p)(ha:∀m∈p,AtN n m.atoms):(aZ s p).Perm (p.map (mapM s))/\Nf (aZ s p):=by
 refine Dis.nf ⟨?_,λm hm=> ?_⟩
 .rw [List.pairwise_map];refine hp.ne.imp_of_mem λ{a b} h1 h2 g e=>g ?_
  have e':bV (a.atoms.map s)=bV (b.atoms.map s):=e;rw [<-h.bk (ha a h1),e',h.bk (ha b h2)]
 .obtain⟨m',h1,rfl⟩:=List.mem_map.1 hm;exact hp.co m' h1
def acJ{s t:Int->Int}{n:Int}(h:Ren s t n){p:List aj}(hp:aF p)(ha:∀m∈p,AtN n m.atoms):aF (aZ s p):=by
 obtain⟨h1,h2,h3⟩:=eD.1 hp;obtain⟨g1,g2⟩:=F4 h h1.dis ha;refine eD.2 ⟨g2,by rw [g1.length_eq,List.length_map];exact h2,λm hm=> ?_⟩;obtain⟨m',k1,rfl⟩:=List.mem_map.1 (g1.mem_iff.1 hm);refine⟨by show(bV _).length<=4;rw [qc,List.length_map];exact(h3 m' k1).1,Cc _,λk hk=> ?_⟩;obtain⟨j,j1,rfl⟩:=List.mem_map.1 ((jC _).mem_iff.1 hk);exact h.rng j ((ha m' k1).2 j j1).1 ((ha m' k1).2 j j1).2
def acK{l:List aj}{n:Int}(hl:∀m∈l,AtN n m.atoms):∀m∈nf l,AtN n m.atoms:=λm hm=>by
 obtain⟨h1,h2⟩:=DW l;obtain⟨m',g1,g2⟩:=h1.from h2 hm;rw [<-g2];exact hl m' g1
def al3{s t:Int->Int}{n:Int}(h:Ren s t n){l:List aj}(hl:∀m∈l,AtN n m.atoms):nf (l.map (mapM s))=aZ s (nf l):=
 agP h hl (acK hl) λk=>by rw [(DW l).2];omega
def AtN.aok{n:Int}(hn:n<=200){l:List Int}(h:AtN n l):aok l:=⟨h.1,λk hk=>by have:=h.2 k hk;omega⟩
def agR{s t:Int->Int}{n:Int}(h:Ren s t n)(hn:n<=200){p:List aj}(hp:Nf p)(ha:∀m∈p,AtN n m.atoms):aF (aZ s p)↔aF p:=by
 refine⟨λg=> ?_,λg=>acJ h g ha⟩;obtain⟨h1,h2,h3⟩:=eD.1 g;obtain⟨g1,_⟩:=F4 h hp.dis ha;refine eD.2 ⟨hp,by rw [g1.length_eq,List.length_map]at h2;exact h2,λm hm=>⟨?_,(ha m hm).aok hn⟩⟩;have:=(h3 _ (g1.mem_iff.2 (List.mem_map.2 ⟨m,hm,rfl⟩))).1;have e:(mapM s m).atoms.length=m.atoms.length:=by show(bV _).length=_;rw [qc,List.length_map]
 omega
def ML{s t:Int->Int}{n:Int}(h:Ren s t n)(hn:n<=200){l:List aj}(hl:∀m∈l,AtN n m.atoms):jf (l.map (mapM s))=((jf l).1,aZ s (jf l).2):=by
 unfold jf;rw [al3 h hl];have e:=agR h hn (DW l).1 (acK hl);by_cases c:aF (nf l)
 .rw [aV c,aV (e.2 c)];rfl
 .rw [bP c,bP (λg=>c (e.1 g))];show(false,[])=(false,aZ s []);have:aZ s []=[]:=wG ⟨List.Pairwise.nil,λm hm=>absurd hm (by simp)⟩;rw [this]
def V3{a b:List aj}(p:a.Perm b):nf a=nf b:=Mv λk=>by rw [VZ p]
def Iz{a b:List aj}(p:a.Perm b):jf a=jf b:=by unfold jf;rw [V3 p]
def RP(n:Int)(p:List aj):Prop:=aF p/\∀m∈p,AtN n m.atoms
def RP.perm{s t:Int->Int}{n:Int}(h:Ren s t n){p:List aj}(hp:RP n p):(aZ s p).Perm (p.map (mapM s)):=(F4 h hp.1.nf.dis hp.2).1
def RP.ok{s t:Int->Int}{n:Int}(h:Ren s t n){p:List aj}(hp:RP n p):aF (aZ s p):=acJ h hp.1 hp.2
def MN{s t:Int->Int}{n:Int}(h:Ren s t n)(hn:n<=200){a b:List aj}(ha:RP n a)(hb:RP n b):jO (aZ s a) (aZ s b)=((jO a b).1,aZ s (jO a b).2):=by
 unfold jO;rw [aV (ha.ok h),aV (hb.ok h),aV ha.1,aV hb.1];show jf _=_;rw [Iz ((ha.perm h).append (hb.perm h)),<-List.map_append,ML h hn λm hm=> ?_]
 .rfl
 .rcases List.mem_append.1 hm with g | g
  .exact ha.2 m g
  .exact hb.2 m g
def acL(s:Int->Int)(m k:aj):mulM (mapM s m) (mapM s k)=mapM s (mulM m k):=by
 show aj.mk _ (bV (bV (m.atoms.map s)++bV (k.atoms.map s)))=aj.mk _ (bV ((bV (m.atoms++k.atoms)).map s));rw [uI ((jC _).append (jC _)),<-List.map_append,uI ((jC (m.atoms++k.atoms)).map s)];rfl
def XF(s:Int->Int)(a b:List aj):prods (a.map (mapM s)) (b.map (mapM s))=(prods a b).map (mapM s):=by
 unfold prods;rw [List.flatMap_map,List.map_flatMap]
 congr 1;funext m
 rw [List.map_map,List.map_map]
 congr 1;funext k
 exact acL s m k
def SQ{a a' b b':List aj}(h1:a.Perm a')(h2:b.Perm b'):(prods a b).Perm (prods a' b'):=by
 unfold prods;refine(h1.flatMap_right _).trans ?_
 clear h1
 induction a' with
 | nil=>exact List.Perm.refl _
 | cons m l ih=>rw [List.flatMap_cons,List.flatMap_cons];exact(h2.map _).append ih
def AtN.mul{n:Int}{m k:aj}(h1:AtN n m.atoms)(h2:AtN n k.atoms):AtN n (mulM m k).atoms:=⟨Cc _,λj hj=>by
 rcases List.mem_append.1 ((jC _).mem_iff.1 hj)with g | g
 .exact h1.2 j g
 .exact h2.2 j g⟩
def MQ{n:Int}{a b:List aj}(ha:∀m∈a,AtN n m.atoms)(hb:∀m∈b,AtN n m.atoms):∀m∈prods a b,AtN n m.atoms:=λm hm=>by
 obtain⟨x,hx,g⟩:=List.mem_flatMap.1 hm;obtain⟨y,hy,rfl⟩:=List.mem_map.1 g;exact(ha x hx).mul (hb y hy)
def MR{s t:Int->Int}{n:Int}(h:Ren s t n)(hn:n<=200){a b:List aj}(ha:RP n a)(hb:RP n b):jk (aZ s a) (aZ s b)=((jk a b).1,aZ s (jk a b).2):=by
 unfold jk;rw [aV (ha.ok h),aV (hb.ok h),aV ha.1,aV hb.1];show jf _=_;rw [Iz (SQ (ha.perm h) (hb.perm h)),XF,ML h hn (MQ ha.2 hb.2)];rfl
def acM{s t:Int->Int}{n:Int}(h:Ren s t n){p:List aj}(hp:∀m∈p,AtN n m.atoms):(p.map (mapM s)).map (mapM t)=p:=by
 rw [List.map_map]
 conv=>rhs;rw [<-List.map_id p]
 refine List.map_congr_left λm hm=> ?_
 show aj.mk m.aW (bV ((bV (m.atoms.map s)).map t))=m;rw [h.bk (hp m hm)]
def Ag{s t:Int->Int}{n:Int}(h:Ren s t n){p q:List aj}(hp:RP n p)(hq:RP n q)(e:aZ s p=aZ s q):p=q:=by
 have g:(p.map (mapM s)).Perm (q.map (mapM s)):=(hp.perm h).symm.trans (e▸hq.perm h);have:=V3 (g.map (mapM t))
 rwa [acM h hp.2,acM h hq.2,wG hp.1.nf,wG hq.1.nf]at this
def qX(s:Int->Int):aZ s []=[]:=wG ⟨List.Pairwise.nil,λm hm=>absurd hm (by simp)⟩
def RP.nil(n:Int):RP n []:=⟨dM,λm hm=>absurd hm (by simp)⟩
def XG:bV []=[]:=F3 List.Pairwise.nil
def RP.const(n k:Int):RP n (bK k):=by
 refine⟨ig k,λm hm=> ?_⟩;unfold bK at hm;split at hm
 .rw [List.mem_singleton]at hm;subst hm;exact⟨List.Pairwise.nil,λj hj=>absurd hj (by simp)⟩
 .exact absurd hm (by simp)
def wJ{s:Int->Int}(k:Int):aZ s (bK k)=bK k:=by
 have e:(bK k).map (mapM s)=bK k:=by
  unfold bK;split
  .show [aj.mk k (bV [])]=_;rw [XG]
  .rfl
 unfold aZ;rw [e,wG (ig k).nf]
def RP.atom{n j:Int}(h1:0<=j)(h2:j<n):RP n (bQ j):=by
 refine⟨iF j,λm hm=> ?_⟩;unfold bQ at hm;split at hm
 .rw [List.mem_singleton]at hm;subst hm;exact⟨List.pairwise_singleton _ _,λi hi=>by rw [List.mem_singleton]at hi;subst hi;exact⟨h1,h2⟩⟩
 .exact absurd hm (by simp)
def acN{s t:Int->Int}{n:Int}(h:Ren s t n)(hn:n<=200){j:Int}(h1:0<=j)(h2:j<n):aZ s (bQ j)=bQ (s j):=by
 have r:=h.rng j h1 h2;have e:(bQ j).map (mapM s)=bQ (s j):=by
  unfold bQ;rw [if_pos ah,if_pos ah];show [aj.mk 1 (bV [s j])]=_;rw [F3 (List.pairwise_singleton _ _)]
 unfold aZ;rw [e,wG (iF _).nf]
def agS{s t:Int->Int}{n:Int}(h:Ren s t n){p:List aj}(hp:RP n p):(aZ s p).length=p.length:=by rw [(hp.perm h).length_eq,List.length_map]
def agT{s t:Int->Int}{n:Int}(h:Ren s t n){m:aj}(hp:RP n [m]):aZ s [m]=[mapM s m]:=List.perm_singleton.1 (hp.perm h)
theorem MU{s t:Int->Int}{n:Int}(h:Ren s t n){p:List aj}(hp:RP n p):bE (aZ s p)=bE p:=by
 have l:=agS h hp;unfold bE;rw [aV (hp.ok h),aV hp.1,l]
 match p,hp,l with
 | [],_,_=>rfl
 | [m],hp,_=>
  rw [agT h hp];have e:(mapM s m).atoms.length=m.atoms.length:=by show(bV _).length=_;rw [qc,List.length_map]
  have e2:(mapM s m).aW=m.aW:=rfl;have z:((mapM s m).atoms=[])↔(m.atoms=[]):=by rw [<-List.length_eq_zero_iff,e,List.length_eq_zero_iff]
  simp [e2,z]
 | a::b::r,_,_=>simp
def RP.sum{n:Int}{l:List aj}(hl:∀m∈l,AtN n m.atoms):RP n (jf l).2:=by
 unfold jf;by_cases c:aF (nf l)
 .rw [aV c];exact⟨c,acK hl⟩
 .rw [bP c];exact RP.nil n
def RP.add{n:Int}{a b:List aj}(ha:RP n a)(hb:RP n b):RP n (jO a b).2:=by
 unfold jO;rw [aV ha.1,aV hb.1];exact RP.sum λm hm=>by
  rcases List.mem_append.1 hm with g | g
  .exact ha.2 m g
  .exact hb.2 m g
def RP.mul{n:Int}{a b:List aj}(ha:RP n a)(hb:RP n b):RP n (jk a b).2:=by
 unfold jk;rw [aV ha.1,aV hb.1];exact RP.sum (MQ ha.2 hb.2)
def RP.scale{n:Int}{a:List aj}(ha:RP n a)(k:Int):RP n (fP a k):=by
 unfold fP;split
 .exact ha.mul (RP.const n k)
 .exact RP.nil n
def SX{s t:Int->Int}{n:Int}(h:Ren s t n)(hn:n<=200){a:List aj}(ha:RP n a)(k:Int):fP (aZ s a) k=aZ s (fP a k):=by
 unfold fP;rw [aV (ha.ok h),aV ha.1];by_cases c:inB k 0 65535=true
 .rw [c];show(jk (aZ s a) (bK k)).2=aZ s (jk a (bK k)).2;rw [<-wJ (s:=s) k,MR h hn ha (RP.const n k),wJ]
 .rw [Bool.not_eq_true]at c;rw [c];exact(qX s).symm
def MV{s t:Int->Int}{n:Int}(h:Ren s t n){x y:List aj}(hx:RP n x)(hy:RP n y):dU (aZ s x) (aZ s y)=0↔dU x y=0:=by
 rw [iW,iW];exact⟨λe=>Ag h hx hy e,λe=>by rw [e]⟩
def acO{s t:Int->Int}{n:Int}(h:Ren s t n){x y:List aj}(hx:RP n x)(hy:RP n y)(op:Int):sO op (aZ s x) (aZ s y)=(aZ s (sO op x y).1,(sO op x y).2):=by
 unfold sO;rw [MU h hx,MU h hy];simp only [MV h hx hy]
 repeat' split
 all_goals simp only [wJ,qX]
def RP.bit{n:Int}{x y:List aj}(hx:RP n x)(hy:RP n y)(op:Int):RP n (sO op x y).1:=by
 unfold sO
 repeat' split
 all_goals first | exact hx | exact hy | exact RP.nil n | exact RP.const n _
def XH{s t:Int->Int}{n:Int}(h:Ren s t n)(hn:n<=200){x y:List aj}(hx:RP n x)(hy:RP n y)(op:Int):dw op (aZ s x) (aZ s y)=(aZ s (dw op x y).1,(dw op x y).2):=by
 unfold dw;split; · rw [MN h hn hx hy]
 split; · rw [SX h hn hy,MN h hn hx (hy.scale _)]
 split; · rw [MR h hn hx hy]
 exact acO h hx hy op
def RP.simp{n:Int}{x y:List aj}(hx:RP n x)(hy:RP n y)(op:Int):RP n (dw op x y).1:=by
 unfold dw;split; · exact hx.add hy
 split; · exact hx.add (hy.scale _)
 split; · exact hx.mul hy
 exact hx.bit hy op
def Ce{n:Int}{p:List aj}:RP n p↔aF p/\aN p n:=by
 constructor
 .rintro⟨h1,h2⟩;exact⟨h1,bM.2 λm hm k hk=>((h2 m hm).2 k hk).2⟩
 .rintro⟨h1,h2⟩;refine⟨h1,λm hm=>⟨(h1.aok hm).2.1,λk hk=>⟨((h1.aok hm).2.2 k hk).1,bM.1 h2 m hm k hk⟩⟩⟩
def kR{s s':Int->Int}{n:Int}(e:∀j,0<=j->j<n->s' j=s j){p:List aj}(hp:RP n p):aZ s' p=aZ s p:=by
 unfold aZ
 congr 1
 refine List.map_congr_left λm hm=> ?_
 unfold mapM
 congr 2
 exact List.map_congr_left λk hk=>e k ((hp.2 m hm).2 k hk).1 ((hp.2 m hm).2 k hk).2
def RP.le{n m:Int}{p:List aj}(h:RP n p)(hn:n<=m):RP m p:=⟨h.1,λa ha=>⟨(h.2 a ha).1,λk hk=>by have:=(h.2 a ha).2 k hk;omega⟩⟩
noncomputable def Ah (s:Int->Int) (a:Atom):Atom:=
 if a.kind=4/\a.k≠2/\0<dU (aZ s a.x) (aZ s a.y)then⟨a.kind,a.k,aZ s a.y,aZ s a.x⟩else⟨a.kind,a.k,aZ s a.x,aZ s a.y⟩
def MW(a:Atom):Prop:=a.kind=4->a.k≠2->dU a.x a.y<=0
def acP{s t:Int->Int}{n:Int}(h:Ren s t n){a b:Atom}(ax:RP n a.x)(ay:RP n a.y)(bx:RP n b.x)(by_:RP n b.y)(oa:MW a)(ob:MW b)(e:Ah s a=Ah s b):a=b:=by
 have key:a.kind=b.kind->a.k=b.k->(a.kind=4/\a.k≠2)->aZ s a.x=aZ s b.y->aZ s a.y=aZ s b.x->a=b:=λe1 e2 c e3 e4=>by
  have e3:=Ag h ax by_ e3;have e4:=Ag h ay bx e4;have o1:=oa c.1 c.2;have o2:=ob (e1▸c.1) (e2▸c.2);rw [<-e3,<-e4,BS]at o2;have:a.x=a.y:=iW.1 ah;cases a;cases b;dsimp only at*;subst e1;subst e2;subst e3;subst e4;subst this;rfl
 have same:a.kind=b.kind->a.k=b.k->aZ s a.x=aZ s b.x->aZ s a.y=aZ s b.y->a=b:=λe1 e2 e3 e4=>by
  have e3:=Ag h ax bx e3;have e4:=Ag h ay by_ e4;cases a;cases b;dsimp only at*;subst e1;subst e2;subst e3;subst e4;rfl
 unfold Ah at e;by_cases c:a.kind=4/\a.k≠2/\0<dU (aZ s a.x) (aZ s a.y)
 .rw [if_pos c]at e;by_cases d:b.kind=4/\b.k≠2/\0<dU (aZ s b.x) (aZ s b.y)
  .rw [if_pos d]at e;injection e with e1 e2 e3 e4;exact same e1 e2 e4 e3
  .rw [if_neg d]at e;injection e with e1 e2 e3 e4;exact key e1 e2 ⟨c.1,c.2.1⟩ e4 e3
 .rw [if_neg c]at e;by_cases d:b.kind=4/\b.k≠2/\0<dU (aZ s b.x) (aZ s b.y)
  .rw [if_pos d]at e;injection e with e1 e2 e3 e4;exact key e1 e2 ⟨e1▸d.1,e2▸d.2.1⟩ e3 e4
  .rw [if_neg d]at e;injection e with e1 e2 e3 e4;exact same e1 e2 e3 e4
def F5{s s':Int->Int}{n:Int}(e:∀j,0<=j->j<n->s' j=s j){a:Atom}(ax:RP n a.x)(ay:RP n a.y):Ah s' a=Ah s a:=by
 unfold Ah;rw [kR e ax,kR e ay]
def MX{a:Atom}{n:Int}(h:dJ a n):RP n a.x/\RP n a.y:=by
 unfold dJ at h;split at h
 .exact⟨Ce.2 ⟨h.2.1,h.2.2.2.1⟩,Ce.2 ⟨h.2.2.1,h.2.2.2.2⟩⟩
 .rw [h.1.1,h.1.2];exact⟨RP.nil n,RP.nil n⟩
def V4{α:Type}[Inhabited α](l:List α)(a:α)(i:Int)(h:0<=i):((l++ [a]).getD (i).toNat default)=if i=l.length then a else((l).getD (i).toNat default):=by
 by_cases c:i=l.length
 .rw [if_pos c,c,List.getD_eq_getElem?_getD];simp
 .rw [if_neg c,List.getD_eq_getElem?_getD,List.getD_eq_getElem?_getD];by_cases d:i.toNat<l.length
  .rw [List.getElem?_append_left d]
  .rw [List.getElem?_eq_none (by rw [List.length_append,List.length_singleton];omega),List.getElem?_eq_none ah]
structure TR(s t:Int->Int)(u T:List Atom):Prop where
 r:Ren s t u.length
 tok:aC u
 im:∀i:Int,0<=i->i<u.length->s i<T.length/\((T).getD (s i).toNat default)=Ah s ((u).getD (i).toNat default)
 ord:∀i:Int,0<=i->i<u.length->MW ((u).getD (i).toNat default)
def TR.rp{s t:Int->Int}{u T:List Atom}(h:TR s t u T){i:Int}(h1:0<=i)(h2:i<u.length):RP i ((u).getD (i).toNat default).x/\RP i ((u).getD (i).toNat default).y:=MX ((gW.1 h.tok).1 i h1 h2).1
def TR.snoc{s t:Int->Int}{u T:List Atom}(h:TR s t u T)(hT:aC T){a:Atom}(hu:aC (u++ [a]))(hn:∀i:Int,0<=i->i<u.length->((u).getD (i).toNat default)≠a)(ha:dJ a u.length)(oa:MW a){k:Int}(k0:0<=k)(k1:k<T.length)(k2:((T).getD (k).toNat default)=Ah s a):
  ∃s' t':Int->Int,TR s' t' (u++ [a]) T/\(∀j:Int,0<=j->j<u.length->s' j=s j)/\s' u.length=k:=by
 have hT2:=(gW.1 hT).2;obtain⟨ax,ay⟩:=MX ha;have ag:∀j:Int,0<=j->j< (u.length:Int)->(λj:Int=>if j=u.length then k else s j) j=s j:=λj h1 h2=>if_neg ah
 have nk:∀j:Int,0<=j->j< (u.length:Int)->s j≠k:=λj h1 h2 e=>by
  have g:=(h.im j h1 h2).2;rw [e,k2]at g;have:=h.rp h1 h2;exact hn j h1 h2 (acP h.r (this.1.le ah) (this.2.le ah) ax ay (h.ord j h1 h2) oa g.symm)
 have ln:((u++ [a]).length:Int)=u.length+1:=by rw [List.length_append,List.length_singleton];omega
 refine⟨λj:Int=>if j=u.length then k else s j,λv:Int=>if v=k then u.length else t v,⟨⟨λj h1 h2=> ?_,λj h1 h2=> ?_⟩,hu,λj h1 h2=> ?_,λj h1 h2=> ?_⟩,ag,if_pos rfl⟩
 .split
  .omega
  .exact h.r.rng j h1 ah
 .by_cases c:j=u.length
  .rw [if_pos c,if_pos rfl,c]
  .rw [if_neg c,if_neg (nk j h1 ah)];exact h.r.back j h1 ah
 .rw [V4 _ _ _ h1];by_cases c:j=u.length
  .rw [if_pos c,if_pos c,F5 (s:=s) ag ax ay];exact⟨k1,k2⟩
  .rw [if_neg c,if_neg c];have:=h.rp h1 (show j<u.length by omega);rw [F5 (s:=s) ag (this.1.le ah) (this.2.le ah)];exact h.im j h1 ah
 .rw [V4 _ _ _ h1];split
  .exact oa
  .exact h.ord j h1 ah
def agU{T:List Atom}(hT:aC T){i j:Int}(i0:0<=i)(i1:i<T.length)(j0:0<=j)(j1:j<T.length)(e:((T).getD (i).toNat default)=((T).getD (j).toNat default)):i=j:=by
 have h:=(gW.1 hT).1;rcases Int.lt_trichotomy i j with c | c | c
 .exact absurd e.symm ((h j j0 j1).2 i i0 c)
 .exact c
 .exact absurd e ((h i i0 i1).2 j j0 c)
structure auz(s:Int->Int)(s' t':Int->Int)(u u' T:List Atom)(r k:Int):Prop where
 tr:TR s' t' u' T
 ag:∀j:Int,0<=j->j<u.length->s' j=s j
 r0:0<=r
 r1:r<u'.length
 sr:s' r=k
 le:u.length<=u'.length
def TR.put{s t:Int->Int}{u T:List Atom}(h:TR s t u T)(hT:aC T){a:Atom}(ha:dJ a u.length)(oa:MW a)(hl:u.length<200){k:Int}(k0:0<=k)(k1:k<T.length)(k2:((T).getD (k).toNat default)=Ah s a):
  ∃s' t':Int->Int,auz s s' t' u (aI u a).1 T (aI u a).2 k:=by
 have ok:=mJ (a:=a) h.tok hl;rcases gJ u a with⟨f1,f2⟩ | ⟨f1,f2,f3,_⟩
 .have e:aI u a=(u++ [a],(u.length:Int)):=by
   unfold aI;rw [if_neg ah,if_neg];rintro(g | g)
   .exact g ha
   .omega
  rw [e]at ok ⊢;obtain⟨s',t',g1,g2,g3⟩:=h.snoc hT ok.1 (λi i0 i1 g=>f2 i i0 i1 g.symm) ha oa k0 k1 k2;exact⟨s',t',g1,g2,by dsimp only;omega,by dsimp only;rw [List.length_append,List.length_singleton];omega,g3,by dsimp only;rw [List.length_append];omega⟩
 .have e:aI u a=(u,jY u a):=by unfold aI;rw [if_pos f1]
  rw [e];have g:=h.im _ f1 f2;refine⟨s,t,h,λ_ _ _=>rfl,f1,f2,?_,Nat.le_refl _⟩;have f3:a=((u).getD (jY u a).toNat default):=f3;refine agU hT (h.r.rng _ f1 f2).1 g.1 k0 k1 ?_;rw [g.2,<-f3,k2]
noncomputable def atD (op:Int) (x y:List aj):Atom:=if op≠2/\0<dU x y then⟨4,op,y,x⟩else⟨4,op,x,y⟩
def J6(t:List Atom)(op:Int)(x y:List aj):tDo t op x y=if(dw op x y).2 then(t,(dw op x y).1)else if(aI t (atD op x y)).2<0 then([],[])else((aI t (atD op x y)).1,bQ (aI t (atD op x y)).2):=by
 unfold tDo atD;split
 .rfl
 .split<;>rfl
def agV(op:Int)(x y:List aj):MW (atD op x y):=by
 unfold atD MW;split
 .rename_i c;intro _ _;dsimp only;rw [BS];omega
 .rename_i c;intro _ g;dsimp only at g ⊢;by_cases d:0<dU x y
  .exact absurd ⟨g,d⟩ c
  .omega
def agW{s t:Int->Int}{n:Int}(h:Ren s t n){x y:List aj}(hx:RP n x)(hy:RP n y)(op:Int):Ah s (atD op x y)=atD op (aZ s x) (aZ s y):=by
 have z:=MV h hx hy;have f:=BS (aZ s x) (aZ s y);have eq:dU (aZ s x) (aZ s y)=0->aZ s x=aZ s y:=iW.1;unfold atD Ah;by_cases c:op≠2/\0<dU x y
 .rw [if_pos c];dsimp only;by_cases d:0<dU (aZ s x) (aZ s y)
  .rw [if_neg ah,if_pos ⟨c.1,d⟩]
  .rw [if_pos ⟨rfl,c.1,ah⟩,if_neg ah]
 .rw [if_neg c];dsimp only;by_cases d:op≠2/\0<dU (aZ s x) (aZ s y)
  .rw [if_pos ⟨rfl,d.1,d.2⟩,if_pos d]
  .rw [if_neg ah,if_neg d]
noncomputable def MZ (s:Int->Int) (e:Ev):Ev:=⟨e.kind,e.at_,aZ s e.x,aZ s e.y,e.regs.map (aZ s)⟩
def RPs(n:Int)(l:List (List aj)):Prop:=∀p∈l,RP n p
def RPE(n:Int)(l:List Ev):Prop:=∀e∈l,RP n e.x/\RP n e.y/\RPs n e.regs
def RPs.le{n m:Int}{l:List (List aj)}(h:RPs n l)(hn:n<=m):RPs m l:=λp hp=>(h p hp).le hn
def RPE.le{n m:Int}{l:List Ev}(h:RPE n l)(hn:n<=m):RPE m l:=λe he=>⟨(h e he).1.le hn,(h e he).2.1.le hn,(h e he).2.2.le hn⟩
def zf{s s':Int->Int}{n:Int}(e:∀j,0<=j->j<n->s' j=s j){l:List (List aj)}(h:RPs n l):l.map (aZ s')=l.map (aZ s):=List.map_congr_left λp hp=>kR e (h p hp)
def M0{s s':Int->Int}{n:Int}(e:∀j,0<=j->j<n->s' j=s j){l:List Ev}(h:RPE n l):l.map (MZ s')=l.map (MZ s):=List.map_congr_left λv hv=>by
 unfold MZ;rw [kR e (h v hv).1,kR e (h v hv).2.1,zf e (h v hv).2.2]
def SY(s:Int->Int)(l:List (List aj))(i:Int):((l.map (aZ s)).getD (i).toNat default)=aZ s ((l).getD (i).toNat default):=by
 rw [List.getD_eq_getElem?_getD,List.getD_eq_getElem?_getD,List.getElem?_map];cases l[i.toNat]? with
 | none=>exact(qX s).symm
 | some p=>rfl
def RPs.at{n:Int}{l:List (List aj)}(h:RPs n l)(i:Int):RP n ((l).getD (i).toNat default):=Ce.2 (y8 (λp hp=>Ce.1 (h p hp)) i)
def agX{op n:Int}{x y:List aj}(hop:1<=op/\op<=5)(hx:RP n x)(hy:RP n y):dJ (atD op x y) n:=by
 have hx:=Ce.1 hx;have hy:=Ce.1 hy;unfold atD;split
 .unfold dJ;rw [if_pos rfl];exact⟨hop,hy.1,hx.1,hy.2,hx.2⟩
 .unfold dJ;rw [if_pos rfl];exact⟨hop,hx.1,hy.1,hx.2,hy.2⟩
def al4{t:List Atom}{op:Int}{x y:List aj}(h:tOk t op x y=true)(c:¬(dw op x y).2=true):0<=(aI t (atD op x y)).2:=by
 unfold tOk at h;unfold atD;by_cases c2:op≠2/\0<dU x y
 .rw [if_pos c2,Bool.or_eq_true,Bool.not_eq_true',decide_eq_false_iff_not]at h;rw [if_pos c2];have:=h.resolve_left c;omega
 .rw [if_neg c2,Bool.or_eq_true,Bool.not_eq_true',decide_eq_false_iff_not]at h;rw [if_neg c2];have:=h.resolve_left c;omega
structure St1(s s' t':Int->Int)(u u' T:List Atom)(v V:List aj):Prop where
 tr:TR s' t' u' T
 ag:∀j:Int,0<=j->j<u.length->s' j=s j
 eq:V=aZ s' v
 rp:RP u'.length v
def TR.n200{s t:Int->Int}{u T:List Atom}(h:TR s t u T):(u.length:Int)<=200:=by have:=(gW.1 h.tok).2;omega
def TR.arC{s t:Int->Int}{u T:List Atom}(h:TR s t u T)(hT:aC T){a A:Atom}(ha:dJ a u.length)(oa:MW a)(hl:u.length<200)(k0:0<=(aI T A).2)(hc:(aI T A).1=T)(e:A=Ah s a):
  ∃s' t':Int->Int,St1 s s' t' u (aI u a).1 T (bQ (aI u a).2) (bQ (aI T A).2)/\0<=(aI u a).2:=by
 obtain⟨k1,k2⟩:=mQ k0;rw [hc]at k1 k2;obtain⟨s',t',P⟩:=h.put hT ha oa hl k0 k1 (by rw [k2,e]);exact⟨s',t',⟨P.tr,P.ag,by rw [acN P.tr.r P.tr.n200 P.r0 P.r1,P.sr],RP.atom P.r0 P.r1⟩,P.r0⟩
def TR.do1{s t:Int->Int}{u T:List Atom}(h:TR s t u T)(hT:aC T){op:Int}{x y:List aj}(hop:1<=op/\op<=5)(hx:RP u.length x)(hy:RP u.length y)(hl:u.length<200)(ok:tOk T op (aZ s x) (aZ s y)=true)(hc:(tDo T op (aZ s x) (aZ s y)).1=T):
  ∃s' t':Int->Int,St1 s s' t' u (tDo u op x y).1 T (tDo u op x y).2 (tDo T op (aZ s x) (aZ s y)).2:=by
 have e:=XH h.r h.n200 hx hy op;by_cases c:(dw op x y).2=true
 .have e1:tDo u op x y=(u,(dw op x y).1):=by rw [J6,if_pos c]
  have e2:tDo T op (aZ s x) (aZ s y)=(T,aZ s (dw op x y).1):=by rw [J6,e,if_pos c]
  rw [e1,e2];exact⟨s,t,h,λ_ _ _=>rfl,rfl,hx.simp hy op⟩
 .have k0:=al4 ok (by rw [e];exact c);have e2:tDo T op (aZ s x) (aZ s y)=((aI T (atD op (aZ s x) (aZ s y))).1,bQ (aI T (atD op (aZ s x) (aZ s y))).2):=by rw [J6,e,if_neg c,if_neg ah]
  rw [e2]at hc ⊢;obtain⟨s',t',P,r0⟩:=h.arC hT (agX hop hx hy) (agV op x y) hl k0 hc (agW h.r hx hy op).symm;have e1:tDo u op x y=((aI u (atD op x y)).1,bQ (aI u (atD op x y)).2):=by rw [J6,if_neg c,if_neg ah]
  rw [e1];exact⟨s',t',P⟩
def S9(s:Int->Int){a:Atom}(h:a.kind≠4)(hx:a.x=[])(hy:a.y=[]):Ah s a=a:=by
 unfold Ah;rw [if_neg (λg=>h g.1),hx,hy,qX];cases a;dsimp only at*;rw [hx,hy]
structure LS(s t:Int->Int)(a A:SS):Prop where
 tr:TR s t a.t A.t
 regs:A.regs=a.regs.map (aZ s)
 rr:RPs a.t.length a.regs
 vals:A.vals=a.vals.map (aZ s)
 rv:RPs a.t.length a.vals
 ld:A.ld=a.ld
 inn:A.inn=a.inn
 evs:A.evs=a.evs.map (MZ s)
 re:RPE a.t.length a.evs
def LS.x{s t:Int->Int}{a A:SS}(h:LS s t a A)(o:IOp):xOf A o=aZ s (xOf a o)/\RP a.t.length (xOf a o):=by
 unfold xOf;split
 .rw [h.vals,SY];exact⟨rfl,h.rv.at _⟩
 .exact⟨(qX s).symm,RP.nil _⟩
def LS.y{s t:Int->Int}{a A:SS}(h:LS s t a A)(o:IOp):yOf A o=aZ s (yOf a o)/\RP a.t.length (yOf a o):=by
 unfold yOf;split
 .rw [h.vals,SY];exact⟨rfl,h.rv.at _⟩
 .exact⟨(qX s).symm,RP.nil _⟩
def LS.val{s t:Int->Int}{a A:SS}(h:LS s t a A)(hT:aC A.t){n:Int}{i:Nat}(si:SI n i a)(hn:n+i<200)(hi:i<200){o:IOp}(hk:o.kind=3->1<=o.k/\o.k<=5)(sA:SOK A o)(hc:nT A o=A.t):
  ∃s' t':Int->Int,St1 s s' t' a.t (nT a o) A.t (nV a o) (nV A o):=by
 have hl:=si.tl;have hl:a.t.length<200:=by omega
 have ea:aOf A o=aOf a o:=by unfold aOf;rw [h.ld,h.inn]
 have id:∀v V,V=aZ s v->RP a.t.length v->nT a o=a.t->nV a o=v->nV A o=V->∃s' t':Int->Int,St1 s s' t' a.t (nT a o) A.t (nV a o) (nV A o):=λv V e r e1 e2 e3=>by
  rw [e1,e2,e3];exact⟨s,t,h.tr,λ_ _ _=>rfl,e,r⟩
 by_cases c3:o.kind=3
 .have e1:∀w:SS,nT w o=(tDo w.t o.k (xOf w o) (yOf w o)).1:=λw=>by unfold nT;rw [if_pos c3]
  have e2:∀w:SS,nV w o=(tDo w.t o.k (xOf w o) (yOf w o)).2:=λw=>by unfold nV;rw [if_neg ah,if_neg ah,if_pos c3]
  have ok:=(sA.d c3).ok;rw [e1]at hc;rw [(h.x o).1,(h.y o).1]at ok hc;rw [e1,e2,e2,(h.x o).1,(h.y o).1];exact h.tr.do1 hT (hk c3) (h.x o).2 (h.y o).2 hl ok hc
 .by_cases c4:o.kind=4\/o.kind=6
  .have e1:∀w:SS,nT w o=(aI w.t (aOf w o)).1:=λw=>by unfold nT;rw [if_neg c3,if_pos c4]
   have e2:∀w:SS,nV w o=bQ (aI w.t (aOf w o)).2:=λw=>by unfold nV;rw [if_neg ah,if_neg ah,if_neg c3,if_pos c4]
   have k0:=sA.p c4;rw [e1]at hc;have f1:(aOf a o).kind≠4/\(aOf a o).x=[]/\(aOf a o).y=[]:=by unfold aOf;split<;>exact⟨by dsimp only;decide,rfl,rfl⟩
   obtain⟨s',t',P,_⟩:=h.tr.arC hT (VP si hi o _) (λg=>absurd g f1.1) hl k0 hc (by rw [ea,S9 s f1.1 f1.2.1 f1.2.2]);rw [e1,e2,e2];exact⟨s',t',P⟩
  .have eT:nT a o=a.t:=by unfold nT;rw [if_neg c3,if_neg c4]
   by_cases c1:o.kind=1
   .exact id _ _ (wJ o.k).symm (RP.const _ _) eT (by unfold nV;rw [if_pos c1]) (by unfold nV;rw [if_pos c1])
   .by_cases c2:o.kind=2
    .exact id _ _ rfl (h.rr.at o.k) eT (by unfold nV;rw [if_neg c1,if_pos c2]) (by unfold nV;rw [if_neg c1,if_pos c2,h.regs,SY])
    .exact id _ _ (qX s).symm (RP.nil _) eT (by unfold nV;rw [if_neg c1,if_neg c2,if_neg c3,if_neg c4]) (by unfold nV;rw [if_neg c1,if_neg c2,if_neg c3,if_neg c4])
def LS.step{s t:Int->Int}{a A:SS}(h:LS s t a A)(hT:aC A.t){n:Int}{i:Nat}(si:SI n i a)(hn:n+i<200)(hi:i<200){o:IOp}(hk:o.kind=3->1<=o.k/\o.k<=5)(sA:SOK A o)(hc:(stp A o).t=A.t):
  ∃s' t':Int->Int,LS s' t' (stp a o) (stp A o)/\∀j:Int,0<=j->j<a.t.length->s' j=s j:=by
 have hc:nT A o=A.t:=hc;obtain⟨s',t',P⟩:=h.val hT si hn hi hk sA hc;have le:(a.t.length:Int)<=(nT a o).length:=by have:=jr (nL si hk hn hi).2.pre;exact Int.ofNat_le.2 this
 have ag:=P.ag;obtain⟨x1,x2⟩:=h.x o;obtain⟨y1,y2⟩:=h.y o;have x1':xOf A o=aZ s' (xOf a o):=by rw [x1,kR ag x2]
 have y1':yOf A o=aZ s' (yOf a o):=by rw [y1,kR ag y2]
 have r1':A.regs=a.regs.map (aZ s'):=by rw [h.regs,zf ag h.rr]
 refine⟨s',t',⟨?_,?_,?_,?_,?_,?_,?_,?_,?_⟩,ag⟩
 .show TR s' t' (nT a o) (nT A o);rw [hc];exact P.tr
 .show nR A o=(nR a o).map (aZ s');unfold nR;split
  .rw [List.map_set,<-r1',x1']
  .exact r1'
 .show RPs _ (nR a o);unfold nR;split
  .intro p hp;rcases List.mem_or_eq_of_mem_set hp with hp | rfl
   .exact(h.rr p hp).le le
   .exact x2.le le
  .exact h.rr.le le
 .show A.vals++ [nV A o]=(a.vals++ [nV a o]).map (aZ s');rw [List.map_append,h.vals,zf ag h.rv,P.eq];rfl
 .show RPs _ (a.vals++ [nV a o]);intro p hp;rw [List.mem_append,List.mem_singleton]at hp;rcases hp with hp | rfl
  .exact(h.rv p hp).le le
  .exact P.rp
 .show(if o.kind=4 then A.ld+1 else A.ld)=if o.kind=4 then a.ld+1 else a.ld;rw [h.ld]
 .show(if o.kind=6 then A.inn+1 else A.inn)=if o.kind=6 then a.inn+1 else a.inn;rw [h.inn]
 .show nE A o=(nE a o).map (MZ s');unfold nE;have e0:A.evs=a.evs.map (MZ s'):=by rw [h.evs,M0 ag h.re]
  split
  .rw [List.map_append,e0,x1',y1',r1']
   congr 1
   show [_]=[MZ s' _];unfold MZ;dsimp only;split<;>rfl
  .exact e0
 .show RPE _ (nE a o);unfold nE;split
  .intro e he;rw [List.mem_append,List.mem_singleton]at he;rcases he with he | rfl
   .exact h.re.le le e he
   .refine⟨x2.le le,y2.le le,?_⟩;dsimp only;split
    .exact h.rr.le le
    .exact λp hp=>absurd hp (by simp)
  .exact h.re.le le
def acQ{α:Type}{a b c:List α}(h:a<+:b)(g:b<+:c)(e:c=a):b=a:=by
 subst e;exact g.eq_of_length (Nat.le_antisymm (jr g) (jr h))
def LS.run{n N:Int}:∀(ops:List IOp) (i:Nat) (s t:Int->Int) (a A:SS),LS s t a A->SI n i a->SI N i A->(∀o∈ops,o.kind=3->1<=o.k/\o.k<=5)->n+i+ops.length<=200->N+i+ops.length<=200->i+ops.length<=200->(ops.foldl stp A).t=A.t->
  ∃s' t':Int->Int,LS s' t' (ops.foldl stp a) (ops.foldl stp A)/\∀j:Int,0<=j->j<a.t.length->s' j=s j
 | [],_,s,t,_,_,h,_,_,_,_,_,_,_=>⟨s,t,h,λ_ _ _=>rfl⟩
 | o::r,i,s,t,a,A,h,si,SI,hk,h1,h2,h3,hc=>by
  rw [List.length_cons]at h1 h2 h3;have ko:=hk o List.mem_cons_self;obtain⟨a1,a2⟩:=nL si ko ah ah;obtain⟨A1,A2⟩:=nL SI ko ah ah;have kr:∀o∈r,o.kind=3->1<=o.k/\o.k<=5:=λo ho=>hk o (List.mem_cons_of_mem _ ho)
  rw [List.foldl_cons]at hc;obtain⟨_,B2⟩:=oQ r (i+1) (stp A o) A1 kr ah ah;have e1:(stp A o).t=A.t:=acQ A2.pre B2 hc;obtain⟨s1,t1,g1,g2⟩:=h.step SI.tok si ah ah ko A2 e1;obtain⟨s2,t2,g3,g4⟩:=LS.run r (i+1) s1 t1 _ _ g1 a1 A1 kr ah ah ah (by rw [hc,e1]);rw [List.foldl_cons,List.foldl_cons];exact⟨s2,t2,g3,λj j0 j1=>by rw [g4 j j0 (by have:=jr a2.pre;omega),g2 j j0 j1]⟩
structure YOK(n:Int)(y:Sym):Prop where
 e:RPE n y.events
 r:RPs n y.regs
 x:RP n y.x
 y:RP n y.y
def YOK.le{n m:Int}{y:Sym}(h:YOK n y)(hn:n<=m):YOK m y:=⟨h.e.le hn,h.r.le hn,h.x.le hn,h.y.le hn⟩
def TR.nil(T:List Atom):TR id id [] T:=by
 refine⟨⟨λk h1 h2=> ?_,λk h1 h2=> ?_⟩,Ir,λk h1 h2=> ?_,λk h1 h2=> ?_⟩<;>exact absurd h2 (by simp;omega)
def al5{p1 f1}(U1:Y13 p1 f1)(a:List (List aj))(ha:ShP a):Rh.F (p1,f1,()) (a,()) (λy=>y=(a,())):=by
 have hlen:=ha.1;dsimp only [Rh,gm];refine ak (λ(y:List (List aj)×Int×List (List aj)×Unit)=>y.1=a/\y.2.2.1=a.take y.2.1.toNat/\0<=y.2.1/\y.2.1<=a.length) (λy=>(a.length-y.2.1).toNat) ⟨rfl,by simp,by simp,by simp⟩ ?_;rintro⟨(l:List (List aj)),(i:Int),(o:List (List aj)),⟨⟩⟩ hI;dsimp only at hI ⊢;obtain⟨rfl,rfl,h1,h2⟩:=hI;simp (disch:=omega) only [RR,U1.hp _ (ha.at _),U1.hf _ (ha.at _)];refine⟨λh4=>⟨ah,ah,?_,⟨bB h1 h4 rfl,ah,ah⟩,ah⟩,λh4=>by rw [List.take_of_length_le ah]⟩;have:=List.length_take_le' i.toNat l;simp only [List.length_cons,List.length_nil];omega
def acR(k:Int)(l:List (List aj)):QV.F () (k,l,()) (λy=>y=(if k<0\/(l.length:Int)<=k then []else((l).getD (k).toNat default),l,())):=by
 dsimp only [QV,gm];simp (disch:=omega) only [RR];refine⟨λh=>by rw [if_pos ah],λh=>⟨ah,ah,ah,ah,by rw [if_neg ah]⟩⟩
def oU(l:List Ev)(k:Int):Int:=((l.filter λe=>decide (e.kind=k)).length:Int)
def wK(l:List Ev)(e:Ev)(k:Int):oU (l++ [e]) k=if e.kind=k then oU l k+1 else oU l k:=by
 unfold oU;rw [List.filter_append,List.length_append];by_cases c:e.kind=k
 .rw [if_pos c,List.filter_cons_of_pos (by simpa using c)];simp
 .rw [if_neg c,List.filter_cons_of_neg (by simpa using c)];simp
def acS(l:List Ev)(k:Int)(hl:l.length<1000000000):Rc.F () (l,k,()) (λy=>y=(oU l k,())):=by
 dsimp only [Rc,gm];refine ak (λ(y:List Ev×Int×Int×Int×Unit)=>y.1=l/\y.2.1=k/\y.2.2.1=oU (l.take y.2.2.2.1.toNat) k/\0<=y.2.2.2.1/\y.2.2.2.1<=l.length) (λy=>(l.length-y.2.2.2.1).toNat) ⟨rfl,rfl,by simp;rfl,by simp,by simp⟩ ?_;rintro⟨(l:List Ev),(k:Int),(n:Int),(i:Int),⟨⟩⟩ hI;dsimp only at hI ⊢;obtain⟨rfl,rfl,rfl,h1,h2⟩:=hI;have b:0<=oU (l.take i.toNat) k/\oU (l.take i.toNat) k<=i:=by
  unfold oU;have:=List.length_filter_le (λe:Ev=>decide (e.kind=k)) (l.take i.toNat);have:=List.length_take_le i.toNat l;omega
 simp (disch:=omega) only [RR,RB];refine⟨λh4=>⟨ah,ah,?_⟩,λh4=>by rw [List.take_of_length_le ah]⟩;have e:l.take (i+1).toNat=l.take i.toNat++ [((l).getD (i).toNat default)]:=by rw [show(i+1).toNat=i.toNat+1 by omega,List.take_succ_eq_append_getElem ah,getD_lt (show i.toNat<l.length by omega)]
 refine⟨λg=>⟨⟨?_,ah,ah⟩,ah⟩,λg=>⟨⟨?_,ah,ah⟩,ah⟩⟩
 .rw [e,wK,if_pos g]
 .rw [e,wK,if_neg g]
def al6{p1 f1 p2 f2}(U1:Y28 p1 f1)(U2:Y35 p2 f2){p3:List Ev×Int×Unit->Bool}{f3:List Ev×Int×Unit->Int×Unit}(hp3:∀l k,l.length<1000000000->p3 (l,k,())=true)(hf3:∀l k,l.length<1000000000->f3 (l,k,())=(oU l k,()))(l:List Ev)(k:Int)(t:List Atom)(hl:l.length<1000000000)(ht:ShT t)(hk:aC t):Rf.F (p1,f1,p2,f2,p3,f3,()) (l,k,t,()) (λy=>y=((aI t ⟨if k=6 then 3 else 2,oU l k,[],[]⟩).1,bQ (aI t ⟨if k=6 then 3 else 2,oU l k,[],[]⟩).2,())):=by
 have sh:∀n:Int,ShA ⟨n,oU l k,[],[]⟩:=λn=>⟨⟨by simp,λm hm=>absurd hm (by simp)⟩,⟨by simp,λm hm=>absurd hm (by simp)⟩⟩
 dsimp only [Rf,gm];simp (disch:=omega) only [RR,hp3 l k hl,hf3 l k hl,U2.hp _ t (sh _) ht hk,U2.hf _ t (sh _) ht hk,U1.hp,U1.hf];exact⟨λh=>by rw [if_pos h],λh=>by rw [if_neg h]⟩
def al7{p1 f1 p2 f2}(U1:Y13 p1 f1)(U2:Y56 p2 f2)(o:IOp)(x y:List aj)(r:List (List aj))(hx:Sh x)(hy:Sh y)(hr:ShP r):Ri.F (p1,f1,p2,f2,()) (o,x,y,r,()) (λz=>z=(o.kind,o.at_,if o.kind=6 then []else x,if o.kind=5 then y else [],if o.kind=4\/o.kind=5 then r else [],())):=by
 dsimp only [Ri,gm];simp (disch:=omega) only [RR,RB,U1.hp x hx,U1.hf x hx,U1.hp y hy,U1.hf y hy,U2.hp r hr,U2.hf r hr];refine⟨λh=>⟨λg=> ?_,λg=> ?_⟩,λh=>⟨λg=> ?_,λg=> ?_⟩⟩
 all_goals refine⟨λk=> ?_,λk=> ?_⟩
 all_goals first | rw [if_pos h] | rw [if_neg h]
 all_goals first | rw [if_pos g] | rw [if_neg g]
 all_goals first | rw [if_pos k] | rw [if_neg ah]
def acT(s:Sym)(k:Int):Rl.F () (s,k,()) (λy=>y=(s.events,s.regs,1,k,())):=by
 dsimp only [Rl,gm];simp (disch:=omega) only [RR,RB]
def acU(b:Blk):Rj.F () (b,()) (λy=>y=(if b.fin=1 then-1 else b.x,())):=by
 dsimp only [Rj,gm];simp (disch:=omega) only [RR,RB];exact⟨λh=>by rw [if_pos h],λh=>by rw [if_neg h]⟩
def acV(b:Blk):Rk.F () (b,()) (λy=>y=(if b.fin=1\/b.fin=2 then-1 else b.y,())):=by
 dsimp only [Rk,gm];simp (disch:=omega) only [RR,RB];exact⟨λh=>by rw [if_pos h],λh=>by rw [if_neg ah]⟩
structure arD(pp:Sym×Int×Unit->Bool)(ff:Sym×Int×Unit->List Ev×List (List aj)×Int×Int×Unit):Prop where
 hp:∀s k,pp (s,k,())=true
 hf:∀s k,ff (s,k,())=(s.events,s.regs,1,k,())
def al8{p1 f1 p2 f2 p3 f3}(U1:Y27 p1 f1)(U2:Y8 p2 f2)(U3:arD p3 f3)(s:Sym)(n:Int)(hs:ShY s)(hx:aF s.x)(hy:aF s.y)(hf:s.fin=3\/s.fin=4):Rm.F (p1,f1,p2,f2,p3,f3,()) (s,n,()) (λy=>y=(symEnd s n,())):=by
 dsimp only [Rm,gm];simp (disch:=omega) only [RR,RB,U1.hp _ hs.x,U1.hf _ hs.x,U1.hp _ hs.y,U1.hf _ hs.y,U2.hp _ _ hs.x,U2.hf _ _ hs.x,U3.hp,U3.hf];have z:dU s.x s.y=0↔s.x=s.y:=iW;have key:(bE s.x).2=true->(bE s.y).2=true->(bE s.x).1=(bE s.y).1->s.x=s.y:=λa b c=>(kQ a).2.1.trans ((congrArg bK c).trans (kQ b).2.1.symm)
 unfold symEnd;rw [aV ⟨hx,hy⟩,if_neg (show¬(true=false) by decide),if_neg (show¬(s.fin=2/\(bE s.x).2=true) by omega),if_neg (show¬(s.fin≠3/\s.fin≠4) by omega)];simp only [z];by_cases c:s.x=s.y
 .have l:¬(bE s.x).1< (bE s.y).1:=by rw [c];omega
  rcases hf with f | f<;>simp [c,f]
 .rcases hf with f | f<;>by_cases nx:(bE s.x).2=true<;>by_cases ny:(bE s.y).2=true<;>by_cases l:(bE s.x).1< (bE s.y).1<;>by_cases g:0<dU s.x s.y<;>simp [c,f,nx,ny,l,g]
  all_goals rw [if_neg λe=>c (key nx ny e)]
def al9{p1 f1 p2 f2 p3 f3 p4 f4 p6 f6}(U1:Y27 p1 f1)(U2:Y11 p2 f2)(U3:Y13 p3 f3)(U4:arD p4 f4){p5:Sym×Int×Unit->Bool}{f5:Sym×Int×Unit->Sym×Unit}(hp5:∀s n,ShY s->aF s.x->aF s.y->(s.fin=3\/s.fin=4)->p5 (s,n,())=true)(hf5:∀s n,ShY s->aF s.x->aF s.y->(s.fin=3\/s.fin=4)->f5 (s,n,())=(symEnd s n,()))(U6:Y56 p6 f6)(s:Sym)(n:Int)(hs:ShY s):Rn.F (p1,f1,p2,f2,p3,f3,p4,f4,p5,f5,p6,f6,()) (s,n,()) (λy=>y=(symEnd s n,())):=by
 dsimp only [Rn,gm];simp (disch:=omega) only [RR,RB,U2.hp _ hs.x,U2.hf _ hs.x,U2.hp _ hs.y,U2.hf _ hs.y];have le:=hs.e.1;have no:(bp (aF s.x)=false\/bp (aF s.y)=false)->symEnd s n=Sz:=λh=>by
  unfold symEnd;rw [if_pos];rw [lN];rcases h with h | h<;>rw [h]<;>simp
 refine⟨λh=>by rw [no h];rfl,λh=> ?_⟩;have hx:=aQ.1 h.1;have hy:=aQ.1 h.2;refine ak (λ(y:Int×Int×Sym×Int×Int×List (List aj)×Int×List aj×List aj×Int×List Ev×Unit)=>y.1=n/\y.2.2.1=s/\y.2.2.2.2.2.2.1=s.fin/\y.2.2.2.2.2.2.2.2.2.1=s.k/\0<=y.2.1/\y.2.1<=s.events.length/\y.2.2.2.2.2.2.2.2.2.2.1=s.events.take y.2.1.toNat) (λy=>(s.events.length-y.2.1).toNat) ⟨rfl,rfl,rfl,rfl,by simp,by simp,by simp⟩ ?_;rintro⟨(n':Int),(i:Int),(s':Sym),(z1:Int),(z2:Int),(z3:List (List aj)),(fin:Int),(z4:List aj),(z5:List aj),(k:Int),(ev:List Ev),⟨⟩⟩ hI;dsimp only at hI ⊢;obtain⟨rfl,rfl,rfl,rfl,h1,h2,rfl⟩:=hI;have E:=hs.e.at i.toNat;have tl:=List.length_take_le' i.toNat s'.events;by_cases g:i<s'.events.length
 .simp (disch:=omega) only [RR,RB,g,U3.hp _ E.1,U3.hf _ E.1,U3.hp _ E.2.1,U3.hf _ E.2.1,U6.hp _ E.2.2,U6.hf _ E.2.2];exact⟨h1,by simp only [List.length_cons,List.length_nil];omega,⟨ah,ah,bB h1 g rfl⟩,ah⟩
 .have ef:s'.events.take i.toNat=s'.events:=List.take_of_length_le ah;rw [ef];simp (disch:=omega) only [RR,RB,g,U3.hp _ hs.x,U3.hf _ hs.x,U3.hp _ hs.y,U3.hf _ hs.y,U6.hp _ hs.r,U6.hf _ hs.r,U1.hp _ hs.x,U1.hf _ hs.x,U4.hp,U4.hf];have b:¬bp (aF s'.x/\aF s'.y)=false:=by rw [aV ⟨hx,hy⟩];decide
  have P:=λf=>hp5 s' n' hs hx hy f
  have F:=λf=>hf5 s' n' hs hx hy f
  have pl:s'.fin≠3/\s'.fin≠4->¬(s'.fin=2/\(bE s'.x).2=true)->symEnd s' n'=s':=λc d=>by unfold symEnd;rw [if_neg b,if_neg d,if_pos c]
  refine⟨λf=>⟨λg=> ?_,λg=> ?_⟩,λf=>⟨λk=>⟨λ_=>⟨P (Or.inl k),?_⟩,λe=>absurd k e⟩,λk=>⟨λl=>⟨P (Or.inr l),?_⟩,λl=> ?_⟩⟩⟩
  .unfold symEnd;rw [if_neg b,if_pos ⟨f,g⟩]
  .rw [pl ah (by rw [g];simp)]
  .exact congrArg (λz=>(z.1,())) (F (Or.inl k))
  .exact congrArg (λz=>(z.1,())) (F (Or.inr l))
  .rw [pl ⟨k,l⟩ (λh=>f h.1)]
structure Cn(s:SS):Prop where
 ld:s.ld=oU s.evs 4
 inn:s.inn=oU s.evs 6
def Cn.stp{s:SS}(h:Cn s)(o:IOp):Cn (stp s o):=by
 constructor
 .show(if o.kind=4 then s.ld+1 else s.ld)=oU (nE s o) 4;unfold nE;by_cases c:evO o
  .rw [if_pos c,wK,h.ld]
  .rw [if_neg c,if_neg (λe=>c (by unfold evO;omega)),h.ld]
 .show(if o.kind=6 then s.inn+1 else s.inn)=oU (nE s o) 6;unfold nE;by_cases c:evO o
  .rw [if_pos c,wK,h.inn]
  .rw [if_neg c,if_neg (λe=>c (by unfold evO;omega)),h.inn]
def Cn.run:∀(l:List IOp) (s:SS),Cn s->Cn (l.foldl Go.TX.F.stp s)
 | [],_,h=>h
 | o::r,s,h=>Cn.run r _ (h.stp o)
structure Pt2(t:List Atom)(b:Blk)(i:Nat)(tb:List Atom)(V:List (List aj))(ev:List Ev)(rg:List (List aj)):Prop where
 tb:tb=(SW t b i).t
 V:V=(SW t b i).vals
 ev:ev=(SW t b i).evs
 rg:rg=(SW t b i).regs
def Pt2.next{t:List Atom}{b:Blk}{i:Nat}{tb:List Atom}{V:List (List aj)}{ev:List Ev}{rg:List (List aj)}(h:Pt2 t b i tb V ev rg)(hi:i<b.ops.length){o:IOp}(ho:b.ops.getD i default=o)
  {v:List aj} {tb':List Atom} {ev':List Ev} {rg':List (List aj)} (h3:tb'=nT (SW t b i) o) (h4:v=nV (SW t b i) o) (h5:ev'=nE (SW t b i) o) (h6:rg'=nR (SW t b i) o):Pt2 t b (i+1) tb' (V++ [v]) ev' rg':=by
 have e:=VW (t:=t) hi;rw [ho]at e;refine⟨?_,?_,?_,?_⟩<;>rw [e]
 .exact h3
 .rw [h.V,h4];rfl
 .exact h5
 .exact h6
def GA{α:Type}{l:List α}{i:Nat}(h:i<l.length)(v:α):(l.set i v).take (i+1)=l.take i++ [v]:=by
 rw [List.take_succ_eq_append_getElem (by rw [List.length_set];exact h),List.getElem_set_self,List.take_set_of_le (Nat.le_refl _)]
structure auA(pp:Sym×Int×Unit->Bool)(ff:Sym×Int×Unit->Sym×Unit):Prop where
 hp:∀s n,ShY s->pp (s,n,())=true
 hf:∀s n,ShY s->ff (s,n,())=(symEnd s n,())
set_option maxHeartbeats 1000000 in
def ama{p1 f1 p2 f2 p3 f3 p4 f4 p5 f5 p6 f6 p7 f7 p8 f8 p10 f10 p14 f14}(U1:Y60 p1 f1)(U2:Y28 p2 f2)(U3:Y22 p3 f3)(U4:auA p4 f4)(U5:Y44 p5 f5)(U6:Y29 p6 f6)(U7:Y13 p7 f7)(U8:Y31 p8 f8){p9:Int×List aj×List aj×List Atom×Unit->Bool}{f9:Int×List aj×List aj×List Atom×Unit->List Atom×List aj×Unit}(hp9:∀op x y t,(1<=op/\op<=5)->Sh x->Sh y->ShT t->aC t->p9 (op,x,y,t,())=true)(hf9:∀op x y t,(1<=op/\op<=5)->Sh x->Sh y->ShT t->aC t->f9 (op,x,y,t,())=((tDo t op x y).1,(tDo t op x y).2,()))(U10:Y35 p10 f10){p11:List Ev×Int×List Atom×Unit->Bool}{f11:List Ev×Int×List Atom×Unit->List Atom×List aj×Unit}(XD:∀l k t,l.length<1000000000->ShT t->aC t->p11 (l,k,t,())=true)(XE:∀l k t,l.length<1000000000->ShT t->aC t->f11 (l,k,t,())=((aI t ⟨if k=6 then 3 else 2,oU l k,[],[]⟩).1,bQ (aI t ⟨if k=6 then 3 else 2,oU l k,[],[]⟩).2,())){p12:IOp×List aj×List aj×List (List aj)×Unit->Bool}{f12:IOp×List aj×List aj×List (List aj)×Unit->Int×Int×List aj×List aj×List (List aj)×Unit}(J2:∀o x y r,Sh x->Sh y->ShP r->p12 (o,x,y,r,())=true)(J3:∀o x y r,Sh x->Sh y->ShP r->f12 (o,x,y,r,())=(o.kind,o.at_,if o.kind=6 then []else x,if o.kind=5 then y else [],if o.kind=4\/o.kind=5 then r else [],())){p13:Int×List (List aj)×Unit->Bool}{f13:Int×List (List aj)×Unit->List aj×List (List aj)×Unit}(J7:∀k l,p13 (k,l,())=true)(agY:∀k l,f13 (k,l,())=(if k<0\/(l.length:Int)<=k then []else((l).getD (k).toNat default),l,()))(U14:Y56 p14 f14){p15:Blk×Unit->Bool}{f15:Blk×Unit->Int×Unit}(auB:∀b,p15 (b,())=true)(auC:∀b,f15 (b,())=(if b.fin=1 then-1 else b.x,())){p16:Blk×Unit->Bool}{f16:Blk×Unit->Int×Unit}(auD:∀b,p16 (b,())=true)(auE:∀b,f16 (b,())=(if b.fin=1\/b.fin=2 then-1 else b.y,()))(t:List Atom)(b:Blk)(ht:ShT t)(hb:b.ops.length<1000000000):Ro.F (p1,f1,p2,f2,p3,f3,p4,f4,p5,f5,p6,f6,p7,f7,p8,f8,p9,f9,p10,f10,p11,f11,p12,f12,p13,f13,p14,f14,p15,f15,p16,f16,()) (t,b,()) (λy=>y=((bq t b).1,(bq t b).2,())):=by
 obtain⟨hp1,hf1⟩:=U1;obtain⟨hp2,hf2⟩:=U2;obtain⟨hp3,hf3⟩:=U3;obtain⟨hp4,hf4⟩:=U4;obtain⟨hp5,hf5⟩:=U5;obtain⟨hp6,hf6⟩:=U6;obtain⟨hp7,hf7⟩:=U7;obtain⟨hp8,hf8⟩:=U8;obtain⟨XC,acA⟩:=U10;obtain⟨auF,auG⟩:=U14;have hlt:=ht.1;dsimp only [Ro,gm];simp (disch:=omega) only [RR,RB,hp6 t ht,hf6 t ht,hp1 b hb,hf1 b hb,hp8 t ht,hf8 t ht,hp5];by_cases c:aC t/\t.length<=100/\eP b
 case neg=>
  refine⟨λ_=> ?_,λh=> ?_⟩
  .unfold bq;rw [bP c];rfl
  .exact absurd ⟨aQ.1 h.1.1,ah,aQ.1 h.1.2⟩ c
 obtain⟨c1,c2,c3⟩:=c;simp (disch:=omega) only [RR,aV c1,aV c3];have sz:=c3.sz;have hop:=c3.op;have hk3:=c3.k3;have i0:=CZ c1 ah;obtain⟨_,g5,_⟩:=hf5;refine⟨λh=>absurd h ah,λ_=> ?_⟩;refine ak (λ(y:Int×Blk×Int×Int×Int×Int×List (List aj)×List Atom×Unit)=>0<=y.1/\y.1<=4/\y.2.1=b/\y.2.2.2.2.1=b.fin/\y.2.2.2.2.2.1=b.k/\y.2.2.2.2.2.2.1.length=4/\y.2.2.2.2.2.2.1.take y.1.toNat=(rN t y.1.toNat).2/\y.2.2.2.2.2.2.2.1=(rN t y.1.toNat).1) (λy=>(4-y.1).toNat) ⟨by simp,by simp,rfl,rfl,rfl,g5,by simp;rfl,rfl⟩ ?_;rintro⟨(r:Int),(b':Blk),(z1:Int),(z2:Int),(fin:Int),(kk:Int),(rg:List (List aj)),(tb:List Atom),⟨⟩⟩ hI;dsimp only at hI ⊢;obtain⟨r0,r1,rfl,rfl,rfl,r4,r5,rfl⟩:=hI;have ok:=FX c1 ah r.toNat ah;have okl:=ok.tl;by_cases h:r<4
 .have sA:ShA ⟨1,r,[],[]⟩:=⟨⟨by simp,λm hm=>absurd hm (by simp)⟩,⟨by simp,λm hm=>absurd hm (by simp)⟩⟩;have er:((r.toNat:Nat):Int)=r:=by omega
  simp (disch:=omega) only [RR,h,XC _ _ sA ok.tok.sh ok.tok,acA _ _ sA ok.tok.sh ok.tok,hp2,hf2,r4,List.length_set];have es:rN t (r+1).toNat=((aI (rN t r.toNat).1 ⟨1,r,[],[]⟩).1,(rN t r.toNat).2++ [bQ (aI (rN t r.toNat).1 ⟨1,r,[],[]⟩).2]):=by
   rw [show(r+1).toNat=r.toNat+1 by omega,JZ,er]
  refine⟨r0,ah,r0,ah,⟨ah,ah,?_,by rw [es]⟩,ah⟩;rw [es,show(r+1).toNat=r.toNat+1 by omega,GA ah,r5]
 .have e4:r.toNat=4:=by omega
  rw [e4]at r5 ok;have eg:rg=(rN t 4).2:=by rw [<-r5,List.take_of_length_le ah]
  subst eg;rw [e4];simp (disch:=omega) only [RR,h];refine ak (λ(y:Int×Blk×Int×Int×Int×Int×List (List aj)×List (List aj)×List Atom×List Ev×Unit)=>0<=y.1/\y.1<=b'.ops.length/\y.2.1=b'/\y.2.2.2.2.1=b'.fin/\y.2.2.2.2.2.1=b'.k/\Pt2 t b' y.1.toNat y.2.2.2.2.2.2.2.2.1 y.2.2.2.2.2.2.2.1 y.2.2.2.2.2.2.2.2.2.1 y.2.2.2.2.2.2.1) (λy=>(b'.ops.length-y.1).toNat) ⟨by simp,by simp,rfl,rfl,rfl,⟨rfl,rfl,rfl,rfl⟩⟩ ?_;have siw:∀j:Nat,j<=b'.ops.length->SI (t.length+4) j (SW t b' j):=λj hj=>by
   have:=(oQ (b'.ops.take j) 0 (s0 t) i0 (λo ho=>hk3 o (List.mem_of_mem_take ho)) (by rw [List.length_take];omega) (by rw [List.length_take];omega)).1;rw [List.length_take,Nat.min_eq_left hj,Nat.zero_add]at this;exact this
  rintro⟨(i:Int),(b:Blk),(z1:Int),(z2:Int),(fin:Int),(kk:Int),(rg:List (List aj)),(V:List (List aj)),(tb:List Atom),(ev:List Ev),⟨⟩⟩ hI;dsimp only at hI ⊢;obtain⟨h1,h2,rfl,rfl,rfl,hA⟩:=hI;have si:=siw i.toNat ah;have evl:=acy (t:=t) (b:=b) i.toNat ah;have cn:=Cn.run (b.ops.take i.toNat) (s0 t) ⟨rfl,rfl⟩;have cn:Cn (SW t b i.toNat):=cn;by_cases h7:i<b.ops.length
  case neg=>
   have en:=c3.en;have hf:=en.f;have hpc:=c3.pc;have hln:=c3.ln;have ein:i.toNat=b.ops.length:=by omega
   have eS:SW t b i.toNat=dK t b:=by unfold SW dK;rw [ein,List.take_of_length_le (Nat.le_refl _)]
   obtain⟨a3,a4,a5,a6⟩:=hA;rw [eS]at a3 a4 a5 a6 si;subst a3 a4 a5 a6;have pk:=Ae (b:=b) si;have eR:=qR c1 c2 c3;have sh:ShY (mP b (dK t b)):=by
    have hs:=JU b.ops 0 (s0 t) i0 hk3 ah ah ⟨by simp [s0],λe he=>absurd he (by simp [s0])⟩;exact⟨⟨by have:=hs.1;show(b.ops.foldl stp (s0 t)).evs.length<_;omega,hs.2⟩,si.regs,pk.1.sh,pk.2.sh⟩
   have sl:=si.vl;have x1:=en.x1;have y1:=en.y1;have EX:f13 (if b.fin=1 then-1 else b.x,(dK t b).vals,())=((mP b (dK t b)).x,(dK t b).vals,()):=by
    rw [agY];show _=(if b.fin=1 then []else(((dK t b).vals).getD (b.x).toNat default),_);by_cases c:b.fin=1
    .rw [if_pos c,if_pos c,if_pos ah]
    .obtain⟨v1,v2,_⟩:=x1 c;rw [if_neg c,if_neg c,if_neg ah]
   have EY:f13 (if b.fin=1\/b.fin=2 then-1 else b.y,(dK t b).vals,())=((mP b (dK t b)).y,(dK t b).vals,()):=by
    rw [agY];show _=(if 3<=b.fin then(((dK t b).vals).getD (b.y).toNat default)else [],_);by_cases c:b.fin=1\/b.fin=2
    .rw [if_pos c,if_pos (Or.inl (by decide)),if_neg (show¬3<=b.fin by omega)]
    .obtain⟨v1,v2,_⟩:=y1 ah;rw [if_neg c,if_neg (show¬(b.y<0\/((dK t b).vals.length:Int)<=b.y) by omega),if_pos (show 3<=b.fin by have:=hf;omega)]
   have shr:ShP (dK t b).regs:=sh.r;simp (disch:=omega) only [RR,RB,h7,auF _ shr,auG _ shr,auB,auC,auD,auE,J7,EX,EY,hp7 _ sh.x,hf7 _ sh.x,hp7 _ sh.y,hf7 _ sh.y];exact⟨hp4 _ _ sh,by rw [eR];exact congrArg (λz=>((dK t b).t,z.1,())) (hf4 (mP b (dK t b)) (b.pc+b.len) sh)⟩
  have hok:=hop i h1 h7;have nxt:=λ{v:List aj} {tb':List Atom} {ev':List Ev} {rg':List (List aj)}=>Pt2.next (o:=((b.ops).getD (i).toNat default)) hA ah rfl (v:=v) (tb':=tb') (ev':=ev') (rg':=rg')
  obtain⟨a3,a4,a5,a6⟩:=hA;have ei:(i+1).toNat=i.toNat+1:=by omega
  obtain⟨sn,so⟩:=nL (o:=((b.ops).getD (i).toNat default)) si hok.k3 ah ah;have vl:=si.vl;have shv:∀k:Int,Sh (if k<0\/(V.length:Int)<=k then []else((V).getD (k).toNat default)):=λk=>by
   split
   .exact⟨by simp,λm hm=>absurd hm (by simp)⟩
   .rw [a4];exact(y8 si.vok k).1.sh
  obtain⟨X,eX⟩:∃X,X=if(((b.ops).getD (i).toNat default)).x<0\/(V.length:Int)<=(((b.ops).getD (i).toNat default)).x then []else((V).getD ((((b.ops).getD (i).toNat default)).x).toNat default):=⟨_,rfl⟩
  obtain⟨Y,eY⟩:∃Y,Y=if(((b.ops).getD (i).toNat default)).y<0\/(V.length:Int)<=(((b.ops).getD (i).toNat default)).y then []else((V).getD ((((b.ops).getD (i).toNat default)).y).toNat default):=⟨_,rfl⟩
  have F1:f13 ((((b.ops).getD (i).toNat default)).x,V,())=(X,V,()):=by rw [agY,eX]
  have F2:f13 ((((b.ops).getD (i).toNat default)).y,V,())=(Y,V,()):=by rw [agY,eY]
  have shx:Sh X:=eX▸shv _;have shy:Sh Y:=eY▸shv _;have ex:hX ((b.ops).getD (i).toNat default)->X=xOf (SW t b i.toNat) ((b.ops).getD (i).toNat default):=λh=>by
   have v:=hok.x1 h;have v2:=v.2.1;unfold xOf;rw [if_pos h,eX,if_neg (by rw [a4,vl];have:=v.1;omega),a4]
  have ey:hY ((b.ops).getD (i).toNat default)->Y=yOf (SW t b i.toNat) ((b.ops).getD (i).toNat default):=λh=>by
   have v:=hok.y1 h;have v2:=v.2.1;unfold yOf;rw [if_pos h,eY,if_neg (by rw [a4,vl];have:=v.1;omega),a4]
  clear eX eY shv
  have vl':V.length=i.toNat:=by rw [a4];exact vl
  generalize hs:SW t b i.toNat=s at*;generalize ho:((b.ops).getD (i).toNat default)=o at*;have kd:=hok.kd;subst a3 a5 a6;have r4:s.regs.length=4:=si.r4;have tsh:=si.tok.sh;have cnl:=cn.ld;have cni:=cn.inn;have rsh:ShP s.regs:=si.regs;have dn:=λ{v:List aj} {tb':List Atom} {ev':List Ev} {rg':List (List aj)} (h3:tb'=nT s o) (h4:v=nV s o) (h5:ev'=nE s o) (h6:rg'=nR s o)=>show((V.length:Int)+([v].length:Int)<=1073741824)/\(0<=i+1/\i+1<=b.ops.length/\Pt2 t b (i+1).toNat tb' (V++ [v]) ev' rg')/\(b.ops.length- (i+1)).toNat< (b.ops.length-i).toNat from⟨by simp only [List.length_cons,List.length_nil];omega,⟨ah,ah,by rw [ei];exact nxt h3 h4 h5 h6⟩,ah⟩
  have el1:∀e:Ev,(s.evs.length:Int)+([e].length:Int)<=1073741824:=λe=>by simp only [List.length_cons,List.length_nil];omega
  have T0:o.kind≠3->o.kind≠4->o.kind≠6->s.t=nT s o:=λh3 h4 h6=>by unfold nT;rw [if_neg h3,if_neg ah]
  have R0:o.kind≠8->s.regs=nR s o:=λh=>by unfold nR;rw [if_neg h]
  have E0:¬evO o->s.evs=nE s o:=λh=>by unfold nE;rw [if_neg h]
  have V0:o.kind=5\/o.kind=7\/o.kind=8->[]=nV s o:=λh=>by unfold nV;rw [if_neg ah,if_neg ah,if_neg ah,if_neg ah]
  rcases(by omega:o.kind=1\/o.kind=2\/o.kind=3\/o.kind=4\/o.kind=5\/o.kind=6\/o.kind=7\/o.kind=8)with c | c | c | c | c | c | c | c
  .simp (disch:=omega) only [RR,RB,ho,h7,J7,F1,F2,c,Int.reduceEq,hp3,hf3];exact⟨h1,dn (T0 ah ah ah) (show bK o.k=nV s o by unfold nV;rw [if_pos c]) (E0 (by unfold evO;omega)) (R0 ah)⟩
  .have k2:=hok.k2 (Or.inl c);simp (disch:=omega) only [RR,RB,ho,h7,J7,F1,F2,c,Int.reduceEq,r4];exact⟨h1,k2.1,ah,k2.1,ah,dn (T0 ah ah ah) (show((s.regs).getD (o.k).toNat default)=nV s o by unfold nV;rw [if_neg ah,if_pos c]) (E0 (by unfold evO;omega)) (R0 ah)⟩
  .have d9:=hok.k3 c;simp (disch:=omega) only [RR,RB,ho,h7,J7,F1,F2,c,Int.reduceEq,hp9 o.k _ _ _ d9 shx shy tsh si.tok,hf9 o.k _ _ _ d9 shx shy tsh si.tok];have e1:=ex (by unfold hX;omega);have e2:=ey (by unfold hY;omega);exact⟨h1,dn (show(tDo s.t o.k X Y).1=nT s o by unfold nT;rw [if_pos c,e1,e2]) (show(tDo s.t o.k X Y).2=nV s o by unfold nV;rw [if_neg ah,if_neg ah,if_pos c,e1,e2]) (E0 (by unfold evO;omega)) (R0 ah)⟩
  .have el:s.evs.length<1000000000:=by omega
   have ea:aOf s o=⟨2,oU s.evs 4,[],[]⟩:=by unfold aOf;rw [if_pos c,cnl]
   have e1:=ex (by unfold hX;omega);have e2:yOf s o=[]:=by unfold yOf;rw [if_neg (by unfold hY;omega)]
   simp (disch:=omega) only [RR,RB,ho,h7,J7,F1,F2,c,Int.reduceEq,XD s.evs 4 s.t el tsh si.tok,XE s.evs 4 s.t el tsh si.tok,J2 o X Y s.regs shx shy rsh,J3 o X Y s.regs shx shy rsh,el1];exact⟨h1,dn (by unfold nT;rw [if_neg ah,if_pos (Or.inl c),ea]) (by unfold nV;rw [if_neg ah,if_neg ah,if_neg ah,if_pos (Or.inl c),ea]) (by unfold nE;rw [if_pos (by unfold evO;omega),if_pos (Or.inl c),c,e1,e2]) (R0 ah)⟩
  .have e1:=ex (by unfold hX;omega);have e2:=ey (by unfold hY;omega);simp (disch:=omega) only [RR,RB,ho,h7,J7,F1,F2,c,Int.reduceEq,J2 o X Y s.regs shx shy rsh,J3 o X Y s.regs shx shy rsh,el1];exact⟨h1,dn (T0 ah ah ah) (V0 ah) (by unfold nE;rw [if_pos (by unfold evO;omega),if_pos (Or.inr c),c,e1,e2]) (R0 ah)⟩
  .have el:s.evs.length<1000000000:=by omega
   have ea:aOf s o=⟨3,oU s.evs 6,[],[]⟩:=by unfold aOf;rw [if_neg ah,cni]
   have e1:xOf s o=[]:=by unfold xOf;rw [if_neg (by unfold hX;omega)]
   have e2:yOf s o=[]:=by unfold yOf;rw [if_neg (by unfold hY;omega)]
   simp (disch:=omega) only [RR,RB,ho,h7,J7,F1,F2,c,Int.reduceEq,XD s.evs 6 s.t el tsh si.tok,XE s.evs 6 s.t el tsh si.tok,J2 o X Y s.regs shx shy rsh,J3 o X Y s.regs shx shy rsh,el1];exact⟨h1,dn (by unfold nT;rw [if_neg ah,if_pos (Or.inr c),ea]) (by unfold nV;rw [if_neg ah,if_neg ah,if_neg ah,if_pos (Or.inr c),ea]) (by unfold nE;rw [if_pos (by unfold evO;omega),if_neg ah,c,e1,e2]) (R0 ah)⟩
  .have e1:=ex (by unfold hX;omega);have e2:yOf s o=[]:=by unfold yOf;rw [if_neg (by unfold hY;omega)]
   simp (disch:=omega) only [RR,RB,ho,h7,J7,F1,F2,c,Int.reduceEq,J2 o X Y s.regs shx shy rsh,J3 o X Y s.regs shx shy rsh,el1];exact⟨h1,dn (T0 ah ah ah) (V0 ah) (by unfold nE;rw [if_pos (by unfold evO;omega),if_neg ah,c,e1,e2]) (R0 ah)⟩
  .have k2:=hok.k2 (Or.inr c);have e1:=ex (by unfold hX;omega);simp (disch:=omega) only [RR,RB,ho,h7,J7,F1,F2,c,Int.reduceEq,r4];exact⟨h1,k2.1,ah,k2.1,ah,dn (T0 ah ah ah) (V0 ah) (E0 (by unfold evO;omega)) (by unfold nR;rw [if_pos c,e1])⟩
def auH(q:Cer):Int×Int×Int×Int×Int×Int×Int×Int×Int×Int×Int×Int×List IOp×List IOp×Unit:=(q.base.pc,q.base.len,q.base.fin,q.base.x,q.base.y,q.base.k,q.made.pc,q.made.len,q.made.fin,q.made.x,q.made.y,q.made.k,q.base.ops,q.made.ops,())
def auI(l:List Cer)(q:Cer):List Cer:=(l++ [q]).drop (l.length+1-3)
structure avi(pp:Cer×Unit->Bool)(ff:Cer×Unit->Int×Int×Int×Int×Int×Int×Int×Int×Int×Int×Int×Int×List IOp×List IOp×Unit):Prop where
 hp:∀q,q.base.ops.length<1000000->q.made.ops.length<1000000->pp (q,())=true
 hf:∀q,q.base.ops.length<1000000->q.made.ops.length<1000000->ff (q,())=auH q
structure avj(pp:List Cer×Cer×Unit->Bool)(ff:List Cer×Cer×Unit->List Cer×Unit):Prop where
 hp:∀l q,ShC l->q.base.ops.length<1000000->q.made.ops.length<1000000->pp (l,q,())=true
 hf:∀l q,ShC l->q.base.ops.length<1000000->q.made.ops.length<1000000->ff (l,q,())=(auI l q,())
def opB(o:IOp):List Int:=[o.kind%256,o.x%256,o.y%256,o.k/256%256,o.k%256,o.at_%256]
def auJ(b:Blk):List Int:=[b.pc%256,b.len%256,b.fin%256,b.x%256,b.y%256,b.k/256%256,b.k%256]++b.ops.flatMap opB
noncomputable def irB (b:Blk):List Int:=if bp (eP b)=true then auJ b else []
structure OpR(o:IOp):Prop where
 kd:0<=o.kind/\o.kind<=255
 x:0<=o.x/\o.x<=255
 y:0<=o.y/\o.y<=255
 k:0<=o.k/\o.k<=65535
 at_:0<=o.at_/\o.at_<=255
structure avk(pp:Blk×Unit->Bool)(ff:Blk×Unit->List Int×Unit):Prop where
 hp:∀b,b.ops.length<1000000000->pp (b,())=true
 hf:∀b,b.ops.length<1000000000->ff (b,())=(irB b,())
def szL(n m:Int):Int:=if m-n<0 then-1 else m-n
structure avl(pp:Blk×Int×Unit->Bool)(ff:Blk×Int×Unit->Int×Unit):Prop where
 hp:∀b m,b.ops.length<9223372036854775808->0<=m->m<=1048576->pp (b,m,())=true
 hf:∀b m,b.ops.length<9223372036854775808->0<=m->m<=1048576->ff (b,m,())=(szL b.ops.length m,())
def Wo(n:Int):Prop:=0<=n/\n<=65535
def Wos(l:List Int):Prop:=∀n∈l,Wo n
structure MOK(m:aH):Prop where
 r4:m.regs.length=4
 rw:Wos m.regs
 m64:m.mem.length=64
 mw:Wos m.mem
 pc:Wo m.pc
 sv:Wo m.save
 iw:Wos m.ins
 ow:Wos m.outs
 ha:0<=m.halt/\m.halt<=4
 ct:0<=m.count/\m.count<=1000000
def F6(r a b:Int):Bool:=inB a 0 65535&&inB b 0 65535&&decide (r=1/\a=b\/r=2/\a<b)
structure MS where
 m:aH
 vals:List Int
 left:Bool
def vx(s:MS)(o:IOp):Int:=if hX o then((s.vals).getD (o.x).toNat default)else 0
def vy(s:MS)(o:IOp):Int:=if hY o then((s.vals).getD (o.y).toNat default)else 0
def mV(s:MS)(o:IOp):Int:=if o.kind=1 then o.k else if o.kind=2 then((s.m.regs).getD (o.k).toNat default)else if o.kind=3 then wdo o.k (vx s o) (vy s o)else if o.kind=4 then((s.m.mem).getD (vx s o).toNat default)else if o.kind=6 then s.m.ins.getD 0 default else 0
def mM(s:MS)(o:IOp):aH:=if o.kind=5 then {s.m with mem:=s.m.mem.set (vx s o).toNat (vy s o)}else if o.kind=6 then {s.m with ins:=s.m.ins.drop 1}else if o.kind=7 then {s.m with outs:=s.m.outs++ [vx s o]}else if o.kind=8 then {s.m with regs:=s.m.regs.set o.k.toNat (vx s o)}else s.m
def leave(m:aH)(n:Int)(h:Int):aH:={m with halt:=h,pc:=m.pc+n,count:=m.count+n}
def bO(b:Blk)(s:MS)(o:IOp):MS:=
 if s.left=true then s
 else if(o.kind=4\/o.kind=5)/\64<=vx s o then⟨leave s.m o.at_ 3,s.vals,true⟩
 else if o.kind=5/\b.pc+o.at_+1<=vx s o/\vx s o<=b.pc+b.len-1 then⟨leave (mM s o) (o.at_+1) (mM s o).halt,s.vals,true⟩
 else⟨mM s o,s.vals++ [mV s o],false⟩
def Ai(b:Blk)(s:MS):aH:=if s.left=true then s.m else {s.m with count:=s.m.count+b.len,pc:=if b.fin=1 then b.k else if b.fin=2 then((s.vals).getD (b.x).toNat default)else if F6 (b.fin-2) ((s.vals).getD (b.x).toNat default) ((s.vals).getD (b.y).toNat default)=true then b.k else b.pc+b.len}
def M5:aH:=⟨[],0,[],0,false,false,0,[],[],0⟩
noncomputable def lD (b:Blk) (m:aH):aH×Bool:=if bp (eP b/\MOK m)=true then(if m.halt≠0\/m.pc≠b.pc\/1000000-b.len<m.count then(m,false)else(Ai b (b.ops.foldl (bO b) ⟨m,[],false⟩),true))else(M5,false)
def dO(i:Ins):Prop:=(0<=i.op/\i.op<=15)/\(0<=i.d/\i.d<=3)/\(0<=i.a/\i.a<=3)/\0<=i.k/\
 (i.op=0->i.d=0/\i.a=0/\i.k<=3)/\(i.op=1->i.a=0/\i.k<=255)/\(i.op=2->i.k=0)/\(3<=i.op/\i.op<=7->i.k<=3)/\(i.op=8->i.k<=15)/\(9<=i.op/\i.op<=12->i.k<=255)/\(i.op=13->i.d=0/\i.k=0)/\(14<=i.op->i.a=0/\i.k=0)
def Ta(i:Ins):Int:=i.op*4096+i.d*1024+i.a*256+i.k
def sP(w:Int):Ins:=⟨w/4096,w/1024%4,w/256%4,w%256⟩
structure wY(pc:Int)(l:List Ins):Prop where
 ln:1<=l.length/\l.length<=8
 pc:0<=pc/\pc<=64-l.length
 ok:∀i:Nat,i<l.length->dO (l.getD i default)/\(l.getD i default).op≠0/\(11<=(l.getD i default).op/\(l.getD i default).op<=13->i+1=l.length)
def gq(n b:Int)(i:Ins):List IOp:=
 if i.op=1 then [⟨1,0,0,i.k,0⟩,⟨8,b,0,i.d,0⟩]
 else if i.op=2 then [⟨2,0,0,i.a,0⟩,⟨8,b,0,i.d,0⟩]
 else if i.op=8 then [⟨2,0,0,i.a,0⟩,⟨1,0,0,2^i.k.toNat,0⟩,⟨3,b,b+1,3,0⟩,⟨8,b+2,0,i.d,0⟩]
 else if i.op=9 then [⟨2,0,0,i.a,0⟩,⟨1,0,0,i.k,0⟩,⟨3,b,b+1,1,0⟩,⟨4,b+2,0,0,n⟩,⟨8,b+3,0,i.d,0⟩]
 else if i.op=10 then [⟨2,0,0,i.a,0⟩,⟨1,0,0,i.k,0⟩,⟨3,b,b+1,1,0⟩,⟨2,0,0,i.d,0⟩,⟨5,b+2,b+3,0,n⟩]
 else if i.op=14 then [⟨2,0,0,i.d,0⟩,⟨7,b,0,0,n⟩]
 else if i.op=15 then [⟨6,0,0,0,n⟩,⟨8,b,0,i.d,0⟩]
 else if i.op=11\/i.op=12 then [⟨2,0,0,i.d,0⟩,⟨2,0,0,i.a,0⟩]
 else if i.op=13 then [⟨2,0,0,i.a,0⟩]
 else [⟨2,0,0,i.a,0⟩,⟨2,0,0,i.k,0⟩,⟨3,b,b+1,i.op-2,0⟩,⟨8,b+2,0,i.d,0⟩]
def iM(n:Int)(b:Blk)(i:Ins):Blk:=
 if i.op=11\/i.op=12 then {b with ops:=b.ops++gq n b.ops.length i,fin:=i.op-8,x:=b.ops.length,y:=b.ops.length+1,k:=i.k}
 else if i.op=13 then {b with ops:=b.ops++gq n b.ops.length i,fin:=2,x:=b.ops.length,k:=0}
 else {b with ops:=b.ops++gq n b.ops.length i}
def oV:Int->Blk->List Ins->Blk
 | _,b,[]=>b
 | n,b,i::r=>oV (n+1) (iM n b i) r
def Aj(pc:Int)(l:List Ins):Blk:=⟨pc,l.length,[],1,0,0,pc+l.length⟩
noncomputable def lower (pc:Int) (l:List Ins):Blk:=if bp (wY pc l)=true then oV 0 (Aj pc l) l else SF
def adr(m:aH)(i:Ins):Int:=(((m.regs).getD (i.a).toNat default)+i.k)%65536
def eff(m:aH)(i:Ins):aH:=
 if i.op=1 then {m with regs:=m.regs.set i.d.toNat i.k}
 else if i.op=2 then {m with regs:=m.regs.set i.d.toNat ((m.regs).getD (i.a).toNat default)}
 else if i.op=8 then {m with regs:=m.regs.set i.d.toNat (((m.regs).getD (i.a).toNat default)*2^i.k.toNat%65536)}
 else if i.op=9 then {m with regs:=m.regs.set i.d.toNat ((m.mem).getD (adr m i).toNat default)}
 else if i.op=10 then {m with mem:=m.mem.set (adr m i).toNat ((m.regs).getD (i.d).toNat default)}
 else if i.op=14 then {m with outs:=m.outs++ [((m.regs).getD (i.d).toNat default)]}
 else if i.op=15 then {m with regs:=m.regs.set i.d.toNat (m.ins.getD 0 default),ins:=m.ins.drop 1}
 else if i.op=0 then(if i.k=0 then {m with halt:=1}else if i.k=1 then {m with cZ:=true}else {m with cZ:=decide (i.k=2)})
 else if 11<=i.op then m
 else {m with regs:=m.regs.set i.d.toNat (wdo (i.op-2) ((m.regs).getD (i.a).toNat default) ((m.regs).getD (i.k).toNat default))}
def nxt(m:aH)(i:Ins):Int:=
 if i.op=0/\i.k=1 then m.save
 else if(i.op=11\/i.op=12)/\F6 (i.op-10) ((m.regs).getD (i.d).toNat default) ((m.regs).getD (i.a).toNat default)=true then i.k
 else if i.op=13 then((m.regs).getD (i.a).toNat default)
 else(m.pc+1)%65536
def exec(m:aH)(i:Ins):aH:=if(i.op=9\/i.op=10)/\64<=adr m i then {m with halt:=3}else {eff m i with pc:=nxt m i,count:=m.count+1}
noncomputable def stepM (m:aH) (irq:Bool):aH:=
 let w:=m.waits || irq
 let m1:aH:=if w=true/\m.cZ=true then {m with waits:=false,cZ:=false,save:=m.pc,pc:=48}else {m with waits:=w}
 if 64<=m1.pc then {m1 with halt:=4}
 else if bp (dO (sP ((m1.mem).getD (m1.pc).toNat default)))=false then {m1 with halt:=2}
 else exec m1 (sP ((m1.mem).getD (m1.pc).toNat default))
theorem va(v l:List Int)(j:Nat):((v++l).getD ((v.length:Int)+j).toNat default)=l.getD j default:=by
 rw [List.getD_eq_getElem?_getD,List.getElem?_append_right ah,<-List.getD_eq_getElem?_getD,show((v.length:Int)+j).toNat-v.length=j by omega]
theorem Wos.at{l:List Int}(h:Wos l)(i:Int):Wo ((l).getD (i).toNat default):=by
 by_cases c:i.toNat<l.length
 .rw [getD_lt c];exact h _ (List.getElem_mem _)
 .rw [List.getD_eq_getElem?_getD,List.getElem?_eq_none ah];exact⟨by decide,by decide⟩
theorem acW{k:Int}(h0:0<=k)(h1:k<=15):Wo (2^k.toNat):=by
 obtain⟨j,rfl⟩:∃j:Nat,k=j:=⟨k.toNat,ah⟩;have:j<=15:=by omega
 rw [show((j:Int)).toNat=j from rfl];have h:(2:Nat)^j<=2^15:=Nat.pow_le_pow_right (by decide) this;have e:((2:Int)^j)=((2^j:Nat):Int):=by simp
 rw [e];have h15:(2:Nat)^15=32768:=by decide
 rw [h15]at h;generalize (2:Nat)^j=z at h;exact⟨ah,ah⟩
section
variable (B:Blk) (m:aH) (v:List Int)
theorem st2(k:Int):bO B ⟨m,v,false⟩ ⟨2,0,0,k,0⟩=⟨m,v++ [((m.regs).getD (k).toNat default)],false⟩:=by simp [bO,mM,mV]
end
theorem J8(B:Blk)(m:aH)(v:List Int):∀l:List IOp,l.foldl (bO B) ⟨m,v,true⟩=⟨m,v,true⟩
 | []=>rfl
 | o::r=>by rw [List.foldl_cons,show bO B ⟨m,v,true⟩ o=⟨m,v,true⟩ by simp [bO]];exact J8 B m v r
end Go.TX.F
namespace Go.TX.F
open Go Go.AE Go.TX
def MSh(m:aH):Prop:=m.regs.length<1000000000/\m.mem.length<1000000000/\m.ins.length<1000000000/\m.outs.length<1000000000
abbrev m10(m : aH) : Int × Int × Bool × Bool × Int × Int × List Int × List Int × List Int × List Int × Unit := (m.pc, m.save, m.cZ, m.waits, m.halt, m.count, m.regs, m.mem, m.ins, m.outs, ())
abbrev mB(m : aH) : Int × Int × Bool × Bool × Int × List Int × Int × List Int × List Int × List Int × Unit := (m.pc, m.save, m.cZ, m.waits, m.halt, m.ins, m.count, m.regs, m.mem, m.outs, ())
abbrev mR(x : aH × Bool) : Int × Int × Bool × Bool × Int × Int × Bool × List Int × List Int × List Int × List Int × Unit := (x.1.pc, x.1.save, x.1.cZ, x.1.waits, x.1.halt, x.1.count, x.2, x.1.regs, x.1.mem, x.1.ins, x.1.outs, ())
def MRB:(∀m:aH,je .gG 0 .i64 m=m.regs)/\(∀m:aH,fZ .gG 1 m=m.pc)/\(∀m:aH,je .gG 2 .i64 m=m.mem)/\(∀m:aH,fZ .gG 3 m=m.save)/\(∀m:aH,af0 .gG 4 m=m.cZ)/\(∀m:aH,af0 .gG 5 m=m.waits)/\(∀m:aH,fZ .gG 6 m=m.halt)/\(∀m:aH,je .gG 7 .i64 m=m.ins)/\(∀m:aH,je .gG 8 .i64 m=m.outs)/\(∀m:aH,fZ .gG 9 m=m.count):=
 ⟨λ_=>rfl,λ_=>rfl,λ_=>rfl,λ_=>rfl,λ_=>rfl,λ_=>rfl,λ_=>rfl,λ_=>rfl,λ_=>rfl,λ_=>rfl⟩
def Cg{a b c:Int}:inB a b c=bp (b<=a/\a<=c):=by rw [lN];simp only [inB,J4]
structure acX(pp:List Int×Unit->Bool)(ff:List Int×Unit->Bool×Unit):Prop where
 hp:∀l,l.length<1000000000->pp (l,())=true
 hf:∀l,l.length<1000000000->ff (l,())=(bp (Wos l),())
def arE{p1 f1 p2 f2 p3 f3}(U1:Y9 p1 f1)(U2:Y1 p2 f2)(U3:acX p3 f3)(m:aH)(h:MSh m):abx.F (p1,f1,p2,f2,p3,f3,()) (m,()) (λy=>y=(bp (MOK m),())):=by
 obtain⟨a1,a2,a3,a4⟩:=h;dsimp only [abx,gm];simp (disch:=omega) only [RR,MRB,U1.hp,U1.hf,U2.hp,U2.hf,U3.hp _ a1,U3.hf _ a1,U3.hp _ a2,U3.hf _ a2,U3.hp _ a3,U3.hf _ a3,U3.hp _ a4,U3.hf _ a4,Cg,J4];simp only [<-lN];refine Prod.ext (uE ⟨λh=> ?_,λh=> ?_⟩) rfl
 .obtain⟨⟨⟨⟨⟨⟨⟨⟨⟨h1,h2⟩,h3⟩,h4⟩,h5⟩,h6⟩,h7⟩,h8⟩,h9⟩,h10⟩:=h;exact⟨ah,h3,ah,h4,h5,h6,h7,h8,h9,h10⟩
 .exact⟨⟨⟨⟨⟨⟨⟨⟨⟨by have:=h.r4;omega,by have:=h.m64;omega⟩,h.rw⟩,h.mw⟩,h.pc⟩,h.sv⟩,h.iw⟩,h.ow⟩,h.ha⟩,h.ct⟩
def arF{p1:List Int×Unit->Bool}{f1:List Int×Unit->List Int×Unit}(hp1:∀l,l.length<=1073741824->p1 (l,())=true)(hf1:∀l,l.length<=1073741824->f1 (l,())=(l,()))(m:aH)(h:MSh m):aby.F (p1,f1,()) (m,()) (λy=>y=m10 m):=by
 obtain⟨a1,a2,a3,a4⟩:=h;dsimp only [aby,gm];simp (disch:=omega) only [RR,MRB,hp1 m.regs ah,hf1 m.regs ah,hp1 m.mem ah,hf1 m.mem ah,hp1 m.ins ah,hf1 m.ins ah,hp1 m.outs ah,hf1 m.outs ah]
def aiA(pc sv:Int)(lt wt:Bool)(ha:Int)(ins:List Int)(ct:Int)(regs mem outs:List Int)(h:ins.length<1000000000):abz.F () (pc,sv,lt,wt,ha,ins,ct,regs,mem,outs,()) (λy=>y=(ins.getD 0 default,pc,sv,lt,wt,ha,ins.drop 1,ct,regs,mem,outs,())):=by
 dsimp only [abz,gm];simp (disch:=omega) only [RR];refine⟨λe=> ?_,λe=> ?_⟩
 .have:ins=[]:=List.eq_nil_of_length_eq_zero ah;subst this;rfl
 .exact⟨ah,ah,ah,ah,ah,by rw [List.take_of_length_le ah];rfl⟩
def arG{p1 f1}(U1:Y32 p1 f1)(a b:aH)(h:MSh a):abD.F (p1,f1,()) (a,b,()) (λy=>y=(bp (a=b),())):=by
 obtain⟨a1,a2,a3,a4⟩:=h;dsimp only [abD,gm];simp (disch:=omega) only [RR,MRB,U1.hp _ b.regs a1,U1.hf _ b.regs a1,U1.hp _ b.mem a2,U1.hf _ b.mem a2,U1.hp _ b.ins a3,U1.hf _ b.ins a3,U1.hp _ b.outs a4,U1.hf _ b.outs a4,J4];refine Prod.ext ?_ rfl;have eb:∀x y:Bool,(x==y)=bp (x=y):=λx y=>by cases x<;>cases y<;>simp [bp]
 simp only [eb,<-lN];refine uE ?_;cases a;cases b;simp only [aH.mk.injEq];constructor<;>(intro h;simp only [h,and_self])
def Wos.set{l:List Int}(h:Wos l){n:Int}(w:Wo n)(i:Nat):Wos (l.set i n):=λx hx=>(List.mem_or_eq_of_mem_set hx).elim (h x) (λe=>e▸w)
def Wos.drop{l:List Int}(h:Wos l)(i:Nat):Wos (l.drop i):=λx hx=>h x (List.mem_of_mem_drop hx)
def Wos.snoc{l:List Int}(h:Wos l){n:Int}(w:Wo n):Wos (l++ [n]):=λx hx=>by
 rw [List.mem_append,List.mem_singleton]at hx;exact hx.elim (h x) (λe=>e▸w)
def wo0:Wo 0:=⟨by decide,by decide⟩
def acY{s:MS}(h:Wos s.vals)(o:IOp):Wo (vx s o):=by
 unfold vx;split
 .exact h.at _
 .exact wo0
def aiB{s:MS}(h:Wos s.vals)(o:IOp):Wo (vy s o):=by
 unfold vy;split
 .exact h.at _
 .exact wo0
def Wos.hd{l:List Int}(h:Wos l):Wo (l.getD 0 default):=h.at 0
def aiC{s:MS}{o:IOp}(h:Wos s.vals)(k:MOK s.m)(k1:o.kind=1->0<=o.k/\o.k<=65535):Wo (mV s o):=by
 unfold mV;split
 .exact k1 ‹_›
 split
 .exact k.rw.at _
 split
 .exact DR _ _ _
 split
 .exact k.mw.at _
 split
 .exact k.iw.hd
 .exact wo0
def aiD{s:MS}(h:Wos s.vals)(k:MOK s.m)(o:IOp):MOK (mM s o):=by
 unfold mM;split
 .exact {k with m64:=by rw [List.length_set];exact k.m64,mw:=k.mw.set (aiB h o) _}
 split
 .exact {k with iw:=k.iw.drop 1}
 split
 .exact {k with ow:=k.ow.snoc (acY h o)}
 split
 .exact {k with r4:=by rw [List.length_set];exact k.r4,rw:=k.rw.set (acY h o) _}
 .exact k
def acZ(s:MS)(o:IOp):(mM s o).ins.length<=s.m.ins.length/\(mM s o).outs.length<=s.m.outs.length+1/\(mM s o).regs.length=s.m.regs.length/\(mM s o).mem.length=s.m.mem.length:=by
 unfold mM;split
 .exact⟨Nat.le_refl _,Nat.le_succ _,rfl,List.length_set⟩
 split
 .exact⟨by rw [List.length_drop];omega,Nat.le_succ _,rfl,rfl⟩
 split
 .exact⟨Nat.le_refl _,by rw [List.length_append];exact Nat.le_refl _,rfl,rfl⟩
 split
 .exact⟨Nat.le_refl _,Nat.le_succ _,List.length_set,rfl⟩
 .exact⟨Nat.le_refl _,Nat.le_succ _,rfl,rfl⟩
def arH(b:Blk)(s:MS)(o:IOp):(bO b s o).m.ins.length<=s.m.ins.length/\(bO b s o).m.outs.length<=s.m.outs.length+1/\(bO b s o).m.regs.length=s.m.regs.length/\(bO b s o).m.mem.length=s.m.mem.length:=by
 unfold bO;split
 .exact⟨Nat.le_refl _,Nat.le_succ _,rfl,rfl⟩
 split
 .exact⟨Nat.le_refl _,Nat.le_succ _,rfl,rfl⟩
 split
 .exact acZ s o
 .exact acZ s o
def V5(b:Blk):∀(l:List IOp) (s:MS),(l.foldl (bO b) s).m.ins.length<=s.m.ins.length/\(l.foldl (bO b) s).m.outs.length<=s.m.outs.length+l.length/\(l.foldl (bO b) s).m.regs.length=s.m.regs.length/\(l.foldl (bO b) s).m.mem.length=s.m.mem.length
 | [],s=>⟨Nat.le_refl _,Nat.le_refl _,rfl,rfl⟩
 | o::l,s=>by
  rw [List.foldl_cons];have h:=V5 b l (bO b s o);have k:=arH b s o;simp only [List.length_cons];exact⟨ah,ah,ah,ah⟩
def V6{b:Blk}{m:aH}(hb:eP b)(hs:MSh m)(ho:m.outs.length<900000000):MSh (Ai b (b.ops.foldl (bO b) ⟨m,[],false⟩)):=by
 have h:=V5 b b.ops ⟨m,[],false⟩;have sz:=hb.sz;obtain⟨s1,s2,s3,s4⟩:=hs;dsimp only at h;unfold Ai;split<;>refine⟨?_,?_,?_,?_⟩<;>(try dsimp only)<;>omega
def SM(b:Blk)(m0:aH)(i:Nat):MS:=(b.ops.take i).foldl (bO b) ⟨m0,[],false⟩
structure RJ(b:Blk)(m0:aH)(i:Nat)(S:MS):Prop where
 e:S=SM b m0 i
 lf:S.left=false
 ln:S.vals.length=i
 wv:Wos S.vals
 ok:MOK S.m
 li:S.m.ins.length<1000000000
 lo:S.m.outs.length<=m0.outs.length+i
def V7{b:Blk}{m0:aH}{i:Nat}(hi:i<b.ops.length):SM b m0 (i+1)=bO b (SM b m0 i) (b.ops.getD i default):=by
 unfold SM;rw [List.take_succ_eq_append_getElem hi,List.foldl_append,getD_lt hi];rfl
def agZ{b:Blk}{m0:aH}{i:Nat}{m:aH}{v:List Int}(h:SM b m0 i=⟨m,v,true⟩):b.ops.foldl (bO b) ⟨m0,[],false⟩=⟨m,v,true⟩:=by
 conv=>lhs;rw [<-List.take_append_drop i b.ops]
 rw [List.foldl_append,show(b.ops.take i).foldl (bO b) ⟨m0,[],false⟩=_ from h];exact J8 b m v _
def RJ.next{b:Blk}{m0:aH}{i:Nat}{S:MS}{o:IOp}(h:RJ b m0 i S)(hi:i<b.ops.length)(ho:b.ops.getD i default=o)(k1:o.kind=1->0<=o.k/\o.k<=65535)
  (c1:¬((o.kind=4\/o.kind=5)/\64<=vx S o)) (c2:¬(o.kind=5/\b.pc+o.at_+1<=vx S o/\vx S o<=b.pc+b.len-1)):RJ b m0 (i+1) ⟨mM S o,S.vals++ [mV S o],false⟩:=by
 have l:=acZ S o;refine⟨?_,rfl,by rw [List.length_append,h.ln];rfl,h.wv.snoc (aiC h.wv h.ok k1),aiD h.wv h.ok o,by have:=h.li;dsimp only;omega,by have:=h.lo;dsimp only;omega⟩;rw [V7 hi,<-h.e,ho];unfold bO;rw [if_neg (by rw [h.lf];decide),if_neg c1,if_neg c2]
def amb{l:List Int}{i n:Nat}(hl:l.length=i)(hi:i<n)(v:Int):(l++List.replicate (n-i) 0).set i v=(l++ [v])++List.replicate (n- (i+1)) 0:=by
 rw [List.set_append_right _ _ ah,hl,Nat.sub_self,show n-i=(n- (i+1))+1 by omega,List.replicate_succ,List.set_cons_zero,List.append_assoc];rfl
def ag0{l:List Int}{i n:Nat}(hi:i<n):l++List.replicate (n-i) 0=(l++ [0])++List.replicate (n- (i+1)) 0:=by
 rw [show n-i=(n- (i+1))+1 by omega,List.replicate_succ,List.append_assoc];rfl
def arI{l:List Int}{i n:Nat}{x:Int}(hl:l.length=i)(h0:0<=x)(h:x<i):((l++List.replicate (n-i) 0).getD (x).toNat default)=((l).getD (x).toNat default):=by
 rw [List.getD_eq_getElem?_getD,List.getElem?_append_left ah,<-List.getD_eq_getElem?_getD]
def amc{l:List Int}{i n:Nat}(hl:l.length=i)(h:i<=n):(l++List.replicate (n-i) 0).length=n:=by
 rw [List.length_append,List.length_replicate];omega
def Tc(a b:Int):F6 1 a b=(inB a 0 65535&&inB b 0 65535&&decide (a=b)):=by unfold F6;simp
def Td(a b:Int):F6 2 a b=(inB a 0 65535&&inB b 0 65535&&decide (a<b)):=by unfold F6;simp
def RT(b:Blk)(m0:aH)(y:List IOp×Int×Int×Int×Int×Bool×Bool×Int×List Int×Int×List Int×List Int×Blk×List Int×List Int×Unit):Prop:=
 ∃(i:Nat) (S:MS),i<=b.ops.length/\RJ b m0 i S/\y=(b.ops,(b.ops.length:Int),(i:Int),S.m.pc,S.m.save,S.m.cZ,S.m.waits,S.m.halt,S.m.ins,S.m.count,S.m.regs,S.m.mem,b,S.vals++List.replicate (b.ops.length-i) 0,S.m.outs,())
def RT.next{b:Blk}{m0:aH}{i:Nat}{S:MS}{o:IOp}{y:List IOp×Int×Int×Int×Int×Bool×Bool×Int×List Int×Int×List Int×List Int×Blk×List Int×List Int×Unit}(h:RJ b m0 i S)(hi:i<b.ops.length)(ho:b.ops.getD i default=o)(k1:o.kind=1->0<=o.k/\o.k<=65535)
  (c1:¬((o.kind=4\/o.kind=5)/\64<=vx S o)) (c2:¬(o.kind=5/\b.pc+o.at_+1<=vx S o/\vx S o<=b.pc+b.len-1))
  (e:y=(b.ops,(b.ops.length:Int),(i:Int)+1,(mM S o).pc,(mM S o).save,(mM S o).cZ,(mM S o).waits,(mM S o).halt,(mM S o).ins,(mM S o).count,(mM S o).regs,(mM S o).mem,b,(S.vals++ [mV S o])++List.replicate (b.ops.length- (i+1)) 0,(mM S o).outs,())):
  RT b m0 y/\(b.ops.length-y.2.2.1).toNat< (b.ops.length- (i:Int)).toNat:=by
 subst e;exact⟨⟨i+1,_,hi,h.next hi ho k1 c1 c2,rfl⟩,by dsimp only;omega⟩
structure auK(pp:Int×Int×Bool×Bool×Int×List Int×Int×List Int×List Int×List Int×Unit->Bool)(ff:Int×Int×Bool×Bool×Int×List Int×Int×List Int×List Int×List Int×Unit->Int×Int×Int×Bool×Bool×Int×List Int×Int×List Int×List Int×List Int×Unit):Prop where
 hp:∀(pc sv:Int) (lt wt:Bool) (ha:Int) (ins:List Int) (ct:Int) (regs mem outs:List Int),ins.length<1000000000->pp (pc,sv,lt,wt,ha,ins,ct,regs,mem,outs,())=true
 hf:∀(pc sv:Int) (lt wt:Bool) (ha:Int) (ins:List Int) (ct:Int) (regs mem outs:List Int),ins.length<1000000000->ff (pc,sv,lt,wt,ha,ins,ct,regs,mem,outs,())=(ins.getD 0 default,pc,sv,lt,wt,ha,ins.drop 1,ct,regs,mem,outs,())
set_option maxHeartbeats 2000000 in
theorem arJ{p1 f1 p2 f2 p3 f3 p4 f4}(U1:auK p1 f1)(U2:Y24 p2 f2)(U3:Y59 p3 f3)(U4:Y1 p4 f4)(b:Blk)(m:aH)(hb:eP b)(hm:MOK m)(hs:MSh m)(ho:m.outs.length<900000000):abA.F (p1,f1,p2,f2,p3,f3,p4,f4,()) (b,m.pc,m.save,m.cZ,m.waits,m.halt,m.ins,m.count,m.regs,m.mem,m.outs,()) (λy=>y=mB (Ai b (b.ops.foldl (bO b) ⟨m,[],false⟩))):=by
 obtain⟨hp1,hf1⟩:=U1;obtain⟨hp2,hf2⟩:=U2;obtain⟨hp3,hf3⟩:=U3;obtain⟨hp4,hf4⟩:=U4;have sz:=hb.sz;dsimp only [abA,gm];simp (disch:=omega) only [RR,RB];refine⟨ah,ah,ak (RT b m) (λy=>(b.ops.length-y.2.2.1).toNat) ⟨0,⟨m,[],false⟩,Nat.zero_le _,⟨rfl,rfl,rfl,(by intro n hn;cases hn),hm,hs.2.2.1,Nat.le_add_right _ _⟩,rfl⟩ ?_⟩;rintro y ⟨i,S,hi,R,rfl⟩;dsimp only;have ok:=R.ok;have pw:0<=S.m.pc/\S.m.pc<=65535:=ok.pc;have cw:=ok.ct;have bl:=hb.ln;have bp':=hb.pc;have en:=hb.en;by_cases h7:i<b.ops.length
 case neg=>
  have ei:i=b.ops.length:=by omega
  have eS:b.ops.foldl (bO b) ⟨m,[],false⟩=S:=by rw [R.e,ei];unfold SM;rw [List.take_of_length_le (Nat.le_refl _)]
  have vl:(S.vals++List.replicate (b.ops.length-i) 0)=S.vals:=by rw [ei,Nat.sub_self];simp
  have ln:=R.ln;rw [eS];unfold Ai;rw [R.lf,if_neg (by decide)];rw [vl];have hf:=en.f;have x1:=en.x1;have y1:=en.y1;unfold Vl at x1 y1;have hh:¬((i:Int)<b.ops.length):=by omega
  rcases(by omega:b.fin=1\/b.fin=2\/b.fin=3\/b.fin=4)with f | f | f | f
  all_goals simp (disch:=omega) only [RR,RB,f,Int.reduceEq,Int.reduceSub,Int.reduceAdd,hp3,hf3,false_and,hh]
  .have v:=x1 ah;exact⟨v.1,ah,v.1,ah⟩
  .have v:=x1 ah;have w:=y1 ah;refine⟨v.1,ah,v.1,ah,w.1,ah,w.1,ah,λh=> ?_,λh=> ?_⟩
   .rw [if_pos (by rw [Tc,h.1.1,h.1.2,h.2];simp)]
   .rw [if_neg (by rw [Tc,h];decide)]
  .have v:=x1 ah;have w:=y1 ah;refine⟨v.1,ah,v.1,ah,w.1,ah,w.1,ah,λh=> ?_,λh=> ?_⟩
   .rw [if_pos (by rw [Td,h.1.1,h.1.2];simpa using h.2)]
   .rw [if_neg (by rw [Td,h];decide)]
 have hop:=hb.op i ah ah;have eT:((i:Int)).toNat=i:=rfl;generalize hq:((b.ops).getD ((i:Int)).toNat default)=o at*;rw [eT]at hq;have kd:=hop.kd;have x1:=hop.x1;have y1:=hop.y1;unfold Vl at x1 y1;have k1:=hop.k1;have k2:=hop.k2;have k3:=hop.k3;have a1:=hop.a1;have a0:=hop.a0;have ln:=R.ln;have rl:=amc (n:=b.ops.length) ln hi;have nx:=λ{y} c1 c2 e=>RT.next (y:=y) R h7 hq k1 c1 c2 e
 have vs:∀v:Int,(S.vals++List.replicate (b.ops.length-i) 0).set i v=(S.vals++ [v])++List.replicate (b.ops.length- (i+1)) 0:=λv=>amb ln h7 v
 have v0:(S.vals++List.replicate (b.ops.length-i) 0)=(S.vals++ [0])++List.replicate (b.ops.length- (i+1)) 0:=ag0 h7;have va:∀x:Int,0<=x->x<i->((S.vals++List.replicate (b.ops.length-i) 0).getD (x).toNat default)=((S.vals).getD (x).toNat default):=λx a c=>arI ln a c
 have xb:0< (i:Int)->0<=o.x/\o.x<b.ops.length:=λ_=>by
  by_cases h:hX o
  .have:=x1 h;omega
  .have:=hop.x0 h;omega
 have yb:0< (i:Int)->0<=o.y/\o.y<b.ops.length:=λ_=>by
  by_cases h:hY o
  .have:=y1 h;omega
  .have:=hop.y0 h;omega
 have lv:∀mm:aH,bO b S o=⟨mm,S.vals,true⟩->b.ops.foldl (bO b) ⟨m,[],false⟩=⟨mm,S.vals,true⟩:=λmm h=>agZ (i:=i+1) (by rw [V7 h7,<-R.e,hq];exact h)
 have m64:=ok.m64;have r4:=ok.r4;have lo:=R.lo;have li:=R.li;have i0:(0:Int)<=i:=by omega
 have i1:(i:Int)<b.ops.length:=by omega
 generalize hV:S.vals++List.replicate (b.ops.length-i) 0=V at*;by_cases hz:0< (i:Int)
 case neg=>
  have nX:¬hX o:=λh=>by have:=x1 h;omega
  rcases(by omega:o.kind=1\/o.kind=2\/o.kind=6)with k | k | k
  .simp (disch:=omega) only [RR,RB,hq,eT,hz,k,Int.reduceEq,false_and,decide_false,decide_true,Bool.or_false,Bool.false_or,Bool.false_and,Bool.true_and,Bool.true_or,Bool.or_true,or_self,rl,i0,i1];exact nx (λh=>by omega) (λh=>by omega) (by rw [vs];simp [mM,mV,k])
  .have g:=k2 (Or.inl k);simp (disch:=omega) only [RR,RB,hq,eT,hz,k,Int.reduceEq,false_and,decide_false,decide_true,Bool.or_false,Bool.false_or,Bool.false_and,Bool.true_and,Bool.true_or,Bool.or_true,or_self,rl,i0,i1,r4];exact⟨g.1,ah,g.1,ah,nx (λh=>by omega) (λh=>by omega) (by rw [vs];simp [mM,mV,k])⟩
  .simp (disch:=omega) only [RR,RB,hq,eT,hz,k,Int.reduceEq,false_and,decide_false,decide_true,Bool.or_false,Bool.false_or,Bool.false_and,Bool.true_and,Bool.true_or,Bool.or_true,or_self,rl,i0,i1,hp1 _ _ _ _ _ _ _ _ _ _ li,hf1 _ _ _ _ _ _ _ _ _ _ li];exact nx (λh=>by omega) (λh=>by omega) (by rw [vs];simp [mM,mV,k])
 obtain⟨xb0,xb1⟩:=xb hz;obtain⟨yb0,yb1⟩:=yb hz;have ex:hX o->((V).getD (o.x).toNat default)=vx S o:=λh=>by
  have:=x1 h;unfold vx;rw [if_pos h];exact va o.x this.1 this.2.1
 have ey:hY o->((V).getD (o.y).toNat default)=vy S o:=λh=>by
  have:=y1 h;unfold vy;rw [if_pos h];exact va o.y this.1 this.2.1
 have wx:=acY R.wv o;have wy:=aiB R.wv o;generalize hX':((V).getD (o.x).toNat default)=X at*;generalize hY':((V).getD (o.y).toNat default)=Y at*;rcases(by omega:o.kind=1\/o.kind=2\/o.kind=3\/o.kind=4\/o.kind=5\/o.kind=6\/o.kind=7\/o.kind=8)with k | k | k | k | k | k | k | k
 .simp (disch:=omega) only [RR,RB,hq,eT,hz,k,Int.reduceEq,false_and,decide_false,decide_true,Bool.or_false,Bool.false_or,Bool.false_and,Bool.true_and,Bool.true_or,Bool.or_true,or_self,rl,i0,i1,xb0,xb1,yb0,yb1,hX',hY'];exact nx (λh=>by omega) (λh=>by omega) (by rw [vs];simp [mM,mV,k])
 .have g:=k2 (Or.inl k);simp (disch:=omega) only [RR,RB,hq,eT,hz,k,Int.reduceEq,false_and,decide_false,decide_true,Bool.or_false,Bool.false_or,Bool.false_and,Bool.true_and,Bool.true_or,Bool.or_true,or_self,rl,i0,i1,xb0,xb1,yb0,yb1,hX',hY',r4];exact⟨g.1,ah,g.1,ah,nx (λh=>by omega) (λh=>by omega) (by rw [vs];simp [mM,mV,k])⟩
 .have e1:=ex (by unfold hX;omega);have e2:=ey (Or.inl k);simp (disch:=omega) only [RR,RB,hq,eT,hz,k,Int.reduceEq,false_and,decide_false,decide_true,Bool.or_false,Bool.false_or,Bool.false_and,Bool.true_and,Bool.true_or,Bool.or_true,or_self,rl,i0,i1,xb0,xb1,yb0,yb1,hX',hY',hp2,hf2];exact nx (λh=>by omega) (λh=>by omega) (by rw [vs];simp [mM,mV,k,e1,e2])
 .have e1:=ex (by unfold hX;omega);have g:=a1 (by unfold evO;omega);unfold Wo at wx;simp (disch:=omega) only [RR,RB,hq,eT,hz,k,Int.reduceEq,false_and,decide_false,decide_true,Bool.or_false,Bool.false_or,Bool.false_and,Bool.true_and,Bool.true_or,Bool.or_true,or_self,rl,i0,i1,xb0,xb1,yb0,yb1,hX',hY',m64];refine⟨λh=> ?_,λh=> ?_⟩
  .rw [lv (leave S.m o.at_ 3) (by unfold bO;rw [if_neg (by rw [R.lf];decide),if_pos ⟨Or.inl k,ah⟩])];simp [Ai,leave,mB]
  .exact⟨ah,ah,ah,ah,nx (λh=>by omega) (λh=>by omega) (by rw [vs];simp [mM,mV,k,e1])⟩
 .have e1:=ex (by unfold hX;omega);have e2:=ey (Or.inr k);have g:=a1 (by unfold evO;omega);unfold Wo at wx;simp (disch:=omega) only [RR,RB,hq,eT,hz,k,Int.reduceEq,false_and,decide_false,decide_true,Bool.or_false,Bool.false_or,Bool.false_and,Bool.true_and,Bool.true_or,Bool.or_true,or_self,rl,i0,i1,xb0,xb1,yb0,yb1,hX',hY',m64,hp4,hf4,bL,ji];refine⟨λh=> ?_,λh=>⟨ah,ah,ah,ah,λh2=> ?_,λh2=> ?_⟩⟩
  .rw [lv (leave S.m o.at_ 3) (by unfold bO;rw [if_neg (by rw [R.lf];decide),if_pos ⟨Or.inr k,ah⟩])];simp [Ai,leave,mB]
  .rw [lv (leave (mM S o) (o.at_+1) (mM S o).halt) (by unfold bO;rw [if_neg (by rw [R.lf];decide),if_neg ah,if_pos ⟨k,ah⟩])];simp [Ai,leave,mM,mB,k,e1,e2]
  .exact nx (λh=>by omega) (λh=>by omega) (by rw [v0];simp [mM,mV,k,e1,e2])
 .simp (disch:=omega) only [RR,RB,hq,eT,hz,k,Int.reduceEq,false_and,decide_false,decide_true,Bool.or_false,Bool.false_or,Bool.false_and,Bool.true_and,Bool.true_or,Bool.or_true,or_self,rl,i0,i1,xb0,xb1,yb0,yb1,hX',hY',hp1 _ _ _ _ _ _ _ _ _ _ li,hf1 _ _ _ _ _ _ _ _ _ _ li];exact nx (λh=>by omega) (λh=>by omega) (by rw [vs];simp [mM,mV,k])
 .have e1:=ex (by unfold hX;omega);simp (disch:=omega) only [RR,RB,hq,eT,hz,k,Int.reduceEq,false_and,decide_false,decide_true,Bool.or_false,Bool.false_or,Bool.false_and,Bool.true_and,Bool.true_or,Bool.or_true,or_self,rl,i0,i1,xb0,xb1,yb0,yb1,hX',hY',List.length_cons,List.length_nil];exact⟨ah,nx (λh=>by omega) (λh=>by omega) (by rw [v0];simp [mM,mV,k,e1])⟩
 .have e1:=ex (by unfold hX;omega);have g:=k2 (Or.inr k);simp (disch:=omega) only [RR,RB,hq,eT,hz,k,Int.reduceEq,false_and,decide_false,decide_true,Bool.or_false,Bool.false_or,Bool.false_and,Bool.true_and,Bool.true_or,Bool.or_true,or_self,rl,i0,i1,xb0,xb1,yb0,yb1,hX',hY',r4];exact⟨g.1,ah,g.1,ah,nx (λh=>by omega) (λh=>by omega) (by rw [v0];simp [mM,mV,k,e1])⟩
structure amd(pp:aH×Unit->Bool)(ff:aH×Unit->Int×Int×Bool×Bool×Int×Int×List Int×List Int×List Int×List Int×Unit):Prop where
 hp:∀m,MSh m->pp (m,())=true
 hf:∀m,MSh m->ff (m,())=m10 m
structure ag1(pp:aH×Unit->Bool)(ff:aH×Unit->Bool×Unit):Prop where
 hp:∀m,MSh m->pp (m,())=true
 hf:∀m,MSh m->ff (m,())=(bp (MOK m),())
theorem arK{p2 f2 p3 f3 p4 f4}{p1:Blk×Int×Int×Bool×Bool×Int×List Int×Int×List Int×List Int×List Int×Unit->Bool}{f1:Blk×Int×Int×Bool×Bool×Int×List Int×Int×List Int×List Int×List Int×Unit->Int×Int×Bool×Bool×Int×List Int×Int×List Int×List Int×List Int×Unit}(hp1:∀(b:Blk) (m:aH),eP b->MOK m->MSh m->m.outs.length<900000000->p1 (b,m.pc,m.save,m.cZ,m.waits,m.halt,m.ins,m.count,m.regs,m.mem,m.outs,())=true)(hf1:∀(b:Blk) (m:aH),eP b->MOK m->MSh m->m.outs.length<900000000->f1 (b,m.pc,m.save,m.cZ,m.waits,m.halt,m.ins,m.count,m.regs,m.mem,m.outs,())=mB (Ai b (b.ops.foldl (bO b) ⟨m,[],false⟩)))(U2:Y60 p2 f2)(U3:amd p3 f3)(U4:ag1 p4 f4)(b:Blk)(m:aH)(hb:b.ops.length<1000000000)(hs:MSh m)(ho:m.outs.length<900000000):abB.F (p1,f1,p2,f2,p3,f3,p4,f4,()) (b,m,()) (λy=>y=mR (lD b m)):=by
 obtain⟨hp2,hf2⟩:=U2;obtain⟨hp3,hf3⟩:=U3;obtain⟨hp4,hf4⟩:=U4;have mM':∀m:aH,Co.mk .gG (m.regs,m.pc,m.mem,m.save,m.cZ,m.waits,m.halt,m.ins,m.outs,m.count,())=m:=λ_=>rfl
 unfold m10 at hf3;unfold mB at hf1;dsimp only [abB,gm,Yc]at*;simp (disch:=omega) only [RR,RB,MRB,hp2 b hb,hf2 b hb,hp4 m hs,hf4 m hs,hp3 m hs,hf3 m hs];unfold lD;by_cases c:eP b/\MOK m
 case neg=>
  rw [bP c];by_cases c1:eP b
  .simp [aV c1,bP (λg=>c ⟨c1,g⟩),M5]
  .simp [bP c1,M5]
 rw [aV c];obtain⟨c1,c2⟩:=c;have bl:=c1.ln;have sh:=V6 c1 hs ho;simp (disch:=omega) only [RR,aV c1,aV c2,hp1 b m c1 c2 hs ho,hf1 b m c1 c2 hs ho,mM',hp3 _ sh,hf3 _ sh];refine⟨λh=> ?_,λh=> ?_⟩
 .rw [if_pos (show m.halt≠0\/m.pc≠b.pc\/1000000-b.len<m.count from h.elim (λg=>g.elim Or.inl λk=>Or.inr (Or.inl k)) λk=>Or.inr (Or.inr k))]
 .rw [if_neg (show¬(m.halt≠0\/m.pc≠b.pc\/1000000-b.len<m.count)from λg=>g.elim (λk=>k h.1.1) λg=>g.elim (λk=>k h.1.2) λk=>h.2 k)]
structure arL(pp:Int×Unit->Bool)(ff:Int×Unit->Bool×Unit):Prop where
 hp:∀a,pp (a,())=true
 hf:∀a,ff (a,())=(inB a 11 13,())
structure ag2(pp:Ins×Unit->Bool)(ff:Ins×Unit->Bool×Unit):Prop where
 hp:∀i,pp (i,())=true
 hf:∀i,ff (i,())=(bp (dO i),())
structure avm(pp:Int×Int×Int×Int×Int×Int×Int×Int×Int×Int×Int×List IOp×Unit->Bool)(ff:Int×Int×Int×Int×Int×Int×Int×Int×Int×Int×Int×List IOp×Unit->Int×Int×Int×Int×Int×Int×Int×Int×List IOp×Unit):Prop where
 hp:∀(kd x y k a1 a2 a3 a4 a5 a6 a:Int) (ops:List IOp),ops.length<1000000->pp (kd,x,y,k,a1,a2,a3,a4,a5,a6,a,ops,())=true
 hf:∀(kd x y k a1 a2 a3 a4 a5 a6 a:Int) (ops:List IOp),ops.length<1000000->ff (kd,x,y,k,a1,a2,a3,a4,a5,a6,a,ops,())=((ops.length:Int),a1,a2,a3,a4,a5,a6,a,ops++ [⟨kd,x,y,k,if 4<=kd/\kd<=7 then a else 0⟩],())
def ac0(n b:Int)(i:Ins):(gq n b i).length<=5:=by
 unfold gq;repeat' split
 all_goals simp only [List.length_cons,List.length_nil]
 all_goals omega
def ac1(n:Int)(b:Blk)(i:Ins):(iM n b i).ops.length<=b.ops.length+5:=by
 have:=ac0 n b.ops.length i;unfold iM;repeat' split
 all_goals (dsimp only;rw [List.length_append];omega)
def Ch:∀(l:List Ins) (n:Int) (b:Blk) (i:Ins),oV n b (l++ [i])=iM (n+l.length) (oV n b l) i
 | [],n,b,i=>by simp [oV]
 | j::l,n,b,i=>by
  show oV (n+1) (iM n b j) (l++ [i])=iM _ (oV (n+1) (iM n b j) l) i;rw [Ch l (n+1) (iM n b j) i,List.length_cons,show n+1+(l.length:Int)=n+((l.length+1:Nat):Int) by omega]
def F7:∀(l:List Ins) (n:Int) (b:Blk),(oV n b l).ops.length<=b.ops.length+5*l.length
 | [],_,_=>Nat.le_refl _
 | i::l,n,b=>by
  show(oV (n+1) (iM n b i) l).ops.length<=_;have:=F7 l (n+1) (iM n b i);have:=ac1 n b i;rw [List.length_cons];omega
structure avn(pp:Int×List Ins×Unit->Bool)(ff:Int×List Ins×Unit->Bool×Unit):Prop where
 hp:∀pc l,l.length<1000000000->pp (pc,l,())=true
 hf:∀pc l,l.length<1000000000->ff (pc,l,())=(bp (wY pc l),())
def OKS(ops:List IOp)(len:Int):Prop:=∀j:Int,0<=j->j<ops.length->mO ops len j ((ops).getD (j).toNat default)
theorem arM{ops w:List IOp}{x:Int}(h0:0<=x)(h:x<ops.length):((ops++w).getD (x).toNat default)=((ops).getD (x).toNat default):=by
 rw [List.getD_eq_getElem?_getD,List.getElem?_append_left ah,<-List.getD_eq_getElem?_getD]
theorem arN{ops w:List IOp}{t:Nat}:((ops++w).getD ((ops.length:Int)+t).toNat default)=w.getD t default:=by
 rw [List.getD_eq_getElem?_getD,List.getElem?_append_right ah,<-List.getD_eq_getElem?_getD,show((ops.length:Int)+t).toNat-ops.length=t by omega]
theorem Vl.mono{ops w:List IOp}{x n n':Int}(h:Vl ops x n)(h1:n<=ops.length)(h2:n<=n'):Vl (ops++w) x n':=by
 obtain⟨a,b,c⟩:=h;exact⟨a,ah,by rw [arM a ah];exact c⟩
theorem mO.mono{ops w:List IOp}{len i:Int}{o:IOp}(h:mO ops len i o)(h1:i<=ops.length):mO (ops++w) len i o:=
 {h with x1:=λg=>(h.x1 g).mono h1 (Int.le_refl _),y1:=λg=>(h.y1 g).mono h1 (Int.le_refl _)}
theorem OKS.app{ops w:List IOp}{len:Int}(h:OKS ops len)(hw:∀t:Nat,t<w.length->mO (ops++w) len ((ops.length:Int)+t) (w.getD t default)):OKS (ops++w) len:=λj j0 j1=>by
 rw [List.length_append]at j1;by_cases c:j<ops.length
 .rw [arM j0 c];exact(h j j0 c).mono ah
 .obtain⟨t,rfl⟩:∃t:Nat,j=(ops.length:Int)+t:=⟨(j-ops.length).toNat,ah⟩;rw [arN];exact hw t ah
theorem V8(ops w:List IOp)(s t:Nat)(h:s<t)(m:mkV (w.getD s default)):Vl (ops++w) ((ops.length:Int)+s) ((ops.length:Int)+t):=⟨ah,ah,by rw [arN];exact m⟩
section
variable {ops:List IOp} {len i x y k n:Int}
theorem ok1(h:0<=k/\k<=65535):mO ops len i ⟨1,0,0,k,0⟩:=by constructor<;>simp [hX,hY,evO]<;>omega
theorem ok2(h:0<=k/\k<=3):mO ops len i ⟨2,0,0,k,0⟩:=by constructor<;>simp [hX,hY,evO]<;>omega
theorem ok3(h:1<=k/\k<=5)(hx:Vl ops x i)(hy:Vl ops y i):mO ops len i ⟨3,x,y,k,0⟩:=by constructor<;>simp [hX,hY,evO,hx,hy]<;>omega
theorem ok4(h:0<=n/\n<len)(hx:Vl ops x i):mO ops len i ⟨4,x,0,0,n⟩:=by constructor<;>simp [hX,hY,evO,hx]<;>omega
theorem ok5(h:0<=n/\n<len)(hx:Vl ops x i)(hy:Vl ops y i):mO ops len i ⟨5,x,y,0,n⟩:=by constructor<;>simp [hX,hY,evO,hx,hy]<;>omega
theorem ok6(h:0<=n/\n<len):mO ops len i ⟨6,0,0,0,n⟩:=by constructor<;>simp [hX,hY,evO]<;>omega
theorem ok7(h:0<=n/\n<len)(hx:Vl ops x i):mO ops len i ⟨7,x,0,0,n⟩:=by constructor<;>simp [hX,hY,evO,hx]<;>omega
theorem ok8(h:0<=k/\k<=3)(hx:Vl ops x i):mO ops len i ⟨8,x,0,k,0⟩:=by constructor<;>simp [hX,hY,evO,hx]<;>omega
end
theorem V9{ops:List IOp}{len n:Int}{i:Ins}(h:OKS ops len)(hi:dO i)(h0:i.op≠0)(hn:0<=n/\n<len):OKS (ops++gq n ops.length i) len/\
  (i.op=11\/i.op=12->Vl (ops++gq n ops.length i) ops.length ((ops++gq n ops.length i).length)/\Vl (ops++gq n ops.length i) (ops.length+1) ((ops++gq n ops.length i).length))/\
  (i.op=13->Vl (ops++gq n ops.length i) ops.length ((ops++gq n ops.length i).length)):=by
 obtain⟨⟨o0,o1⟩,⟨d0,d1⟩,⟨a0,a1⟩,k0,_,r1,r2,r3,r8,r9,r13,r14⟩:=hi;have v0:=λ(w:List IOp) (t:Nat) (h:0<t) (m:mkV (w.getD 0 default))=>show Vl (ops++w) (ops.length:Int) ((ops.length:Int)+t)from by have:=V8 ops w 0 t h m;rwa [Int.natCast_zero,Int.add_zero]at this
 have v1:=λ(w:List IOp) (t:Nat) (h:1<t) (m:mkV (w.getD 1 default))=>V8 ops w 1 t h m
 have v2:=λ(w:List IOp) (t:Nat) (h:2<t) (m:mkV (w.getD 2 default))=>V8 ops w 2 t h m
 have v3:=λ(w:List IOp) (t:Nat) (h:3<t) (m:mkV (w.getD 3 default))=>V8 ops w 3 t h m
 have m1:∀a b c d:Int,mkV ⟨1,a,b,c,d⟩:=λ_ _ _ _=>by unfold mkV;dsimp only;omega
 have m2:∀a b c d:Int,mkV ⟨2,a,b,c,d⟩:=λ_ _ _ _=>by unfold mkV;dsimp only;omega
 have m3:∀a b c d:Int,mkV ⟨3,a,b,c,d⟩:=λ_ _ _ _=>by unfold mkV;dsimp only;omega
 have m4:∀a b c d:Int,mkV ⟨4,a,b,c,d⟩:=λ_ _ _ _=>by unfold mkV;dsimp only;omega
 have m6:∀a b c d:Int,mkV ⟨6,a,b,c,d⟩:=λ_ _ _ _=>Or.inr rfl
 rcases(by omega:i.op=1\/i.op=2\/(3<=i.op/\i.op<=7)\/i.op=8\/i.op=9\/i.op=10\/(i.op=11\/i.op=12)\/i.op=13\/i.op=14\/i.op=15)with c | c | c | c | c | c | c | c | c | c
 .have e:gq n ops.length i=[⟨1,0,0,i.k,0⟩,⟨8,ops.length,0,i.d,0⟩]:=by unfold gq;rw [if_pos c]
  rw [e];refine⟨h.app λt ht=> ?_,λg=>by omega,λg=>by omega⟩;rcases t with _ | _ | t
  .exact ok1 (by have:=r1 c;omega)
  .exact ok8 ⟨d0,d1⟩ (v0 _ 1 (by decide) (m1 _ _ _ _))
  .simp only [List.length_cons,List.length_nil]at ht;omega
 .have e:gq n ops.length i=[⟨2,0,0,i.a,0⟩,⟨8,ops.length,0,i.d,0⟩]:=by unfold gq;rw [if_neg ah,if_pos c]
  rw [e];refine⟨h.app λt ht=> ?_,λg=>by omega,λg=>by omega⟩;rcases t with _ | _ | t
  .exact ok2 ⟨a0,a1⟩
  .exact ok8 ⟨d0,d1⟩ (v0 _ 1 (by decide) (m2 _ _ _ _))
  .simp only [List.length_cons,List.length_nil]at ht;omega
 .have e:gq n ops.length i=[⟨2,0,0,i.a,0⟩,⟨2,0,0,i.k,0⟩,⟨3,ops.length,ops.length+1,i.op-2,0⟩,⟨8,ops.length+2,0,i.d,0⟩]:=by
   unfold gq
   iterate 9 rw [if_neg ah]
  rw [e];refine⟨h.app λt ht=> ?_,λg=>by omega,λg=>by omega⟩;rcases t with _ | _ | _ | _ | t
  .exact ok2 ⟨a0,a1⟩
  .exact ok2 ⟨k0,r3 c⟩
  .exact ok3 ah (v0 _ 2 (by decide) (m2 _ _ _ _)) (v1 _ 2 (by decide) (m2 _ _ _ _))
  .exact ok8 ⟨d0,d1⟩ (v2 _ 3 (by decide) (m3 _ _ _ _))
  .simp only [List.length_cons,List.length_nil]at ht;omega
 .have e:gq n ops.length i=[⟨2,0,0,i.a,0⟩,⟨1,0,0,2^i.k.toNat,0⟩,⟨3,ops.length,ops.length+1,3,0⟩,⟨8,ops.length+2,0,i.d,0⟩]:=by
   unfold gq;rw [if_neg ah,if_neg ah,if_pos c]
  rw [e];refine⟨h.app λt ht=> ?_,λg=>by omega,λg=>by omega⟩;rcases t with _ | _ | _ | _ | t
  .exact ok2 ⟨a0,a1⟩
  .exact ok1 (acW k0 (r8 c))
  .exact ok3 (by decide) (v0 _ 2 (by decide) (m2 _ _ _ _)) (v1 _ 2 (by decide) (m1 _ _ _ _))
  .exact ok8 ⟨d0,d1⟩ (v2 _ 3 (by decide) (m3 _ _ _ _))
  .simp only [List.length_cons,List.length_nil]at ht;omega
 .have e:gq n ops.length i=[⟨2,0,0,i.a,0⟩,⟨1,0,0,i.k,0⟩,⟨3,ops.length,ops.length+1,1,0⟩,⟨4,ops.length+2,0,0,n⟩,⟨8,ops.length+3,0,i.d,0⟩]:=by
   unfold gq;rw [if_neg ah,if_neg ah,if_neg ah,if_pos c]
  have r:=r9 ah;rw [e];refine⟨h.app λt ht=> ?_,λg=>by omega,λg=>by omega⟩;rcases t with _ | _ | _ | _ | _ | t
  .exact ok2 ⟨a0,a1⟩
  .exact ok1 ah
  .exact ok3 (by decide) (v0 _ 2 (by decide) (m2 _ _ _ _)) (v1 _ 2 (by decide) (m1 _ _ _ _))
  .exact ok4 hn (v2 _ 3 (by decide) (m3 _ _ _ _))
  .exact ok8 ⟨d0,d1⟩ (v3 _ 4 (by decide) (m4 _ _ _ _))
  .simp only [List.length_cons,List.length_nil]at ht;omega
 .have e:gq n ops.length i=[⟨2,0,0,i.a,0⟩,⟨1,0,0,i.k,0⟩,⟨3,ops.length,ops.length+1,1,0⟩,⟨2,0,0,i.d,0⟩,⟨5,ops.length+2,ops.length+3,0,n⟩]:=by
   unfold gq;rw [if_neg ah,if_neg ah,if_neg ah,if_neg ah,if_pos c]
  have r:=r9 ah;rw [e];refine⟨h.app λt ht=> ?_,λg=>by omega,λg=>by omega⟩;rcases t with _ | _ | _ | _ | _ | t
  .exact ok2 ⟨a0,a1⟩
  .exact ok1 ah
  .exact ok3 (by decide) (v0 _ 2 (by decide) (m2 _ _ _ _)) (v1 _ 2 (by decide) (m1 _ _ _ _))
  .exact ok2 ⟨d0,d1⟩
  .exact ok5 hn (v2 _ 4 (by decide) (m3 _ _ _ _)) (v3 _ 4 (by decide) (m2 _ _ _ _))
  .simp only [List.length_cons,List.length_nil]at ht;omega
 .have e:gq n ops.length i=[⟨2,0,0,i.d,0⟩,⟨2,0,0,i.a,0⟩]:=by
   unfold gq
   iterate 7 rw [if_neg ah]
   rw [if_pos c]
  have el:∀a b:IOp,(((ops++ [a,b]).length:Nat):Int)=(ops.length:Int)+((2:Nat):Int):=λa b=>by rw [List.length_append];rfl
  rw [e];refine⟨h.app λt ht=> ?_,λg=> ?_,λg=>by omega⟩
  .rcases t with _ | _ | t
   .exact ok2 ⟨d0,d1⟩
   .exact ok2 ⟨a0,a1⟩
   .simp only [List.length_cons,List.length_nil]at ht;omega
  .rw [el];exact⟨v0 _ 2 (by decide) (m2 _ _ _ _),v1 _ 2 (by decide) (m2 _ _ _ _)⟩
 .have e:gq n ops.length i=[⟨2,0,0,i.a,0⟩]:=by
   unfold gq
   iterate 8 rw [if_neg ah]
   rw [if_pos c]
  have el:∀a:IOp,(((ops++ [a]).length:Nat):Int)=(ops.length:Int)+((1:Nat):Int):=λa=>by rw [List.length_append];rfl
  rw [e];refine⟨h.app λt ht=> ?_,λg=>by omega,λg=> ?_⟩
  .rcases t with _ | t
   .exact ok2 ⟨a0,a1⟩
   .simp only [List.length_cons,List.length_nil]at ht;omega
  .rw [el];exact v0 _ 1 (by decide) (m2 _ _ _ _)
 .have e:gq n ops.length i=[⟨2,0,0,i.d,0⟩,⟨7,ops.length,0,0,n⟩]:=by
   unfold gq
   iterate 5 rw [if_neg ah]
   rw [if_pos c]
  rw [e];refine⟨h.app λt ht=> ?_,λg=>by omega,λg=>by omega⟩;rcases t with _ | _ | t
  .exact ok2 ⟨d0,d1⟩
  .exact ok7 hn (v0 _ 1 (by decide) (m2 _ _ _ _))
  .simp only [List.length_cons,List.length_nil]at ht;omega
 .have e:gq n ops.length i=[⟨6,0,0,0,n⟩,⟨8,ops.length,0,i.d,0⟩]:=by
   unfold gq
   iterate 6 rw [if_neg ah]
   rw [if_pos c]
  rw [e];refine⟨h.app λt ht=> ?_,λg=>by omega,λg=>by omega⟩;rcases t with _ | _ | t
  .exact ok6 hn
  .exact ok8 ⟨d0,d1⟩ (v0 _ 1 (by decide) (m6 _ _ _ _))
  .simp only [List.length_cons,List.length_nil]at ht;omega
end Go.TX.F
namespace Go.TX.F
open Go Go.AE Go.TX
def Mid(i:Ins):Prop:=dO i/\i.op≠0/\¬(11<=i.op/\i.op<=13)
def ac2{n:Int}{b:Blk}{i:Ins}(h:Mid i):iM n b i={b with ops:=b.ops++gq n b.ops.length i}:=by
 obtain⟨_,_,h3⟩:=h;unfold iM;rw [if_neg ah,if_neg ah]
def M6:∀(r:List Ins) (n:Int) (b:Blk),(∀i∈r,Mid i)->OKS b.ops b.len->0<=n->n+r.length<=b.len->OKS (oV n b r).ops b.len/\oV n b r={b with ops:=(oV n b r).ops}
 | [],n,b,_,h,_,_=>⟨h,rfl⟩
 | i::r,n,b,hr,h,h0,h1=>by
  have hi:=hr i (List.mem_cons_self ..);simp only [List.length_cons]at h1;have k:=V9 (n:=n) h hi.1 hi.2.1 ⟨h0,ah⟩;have e:=ac2 (n:=n) (b:=b) hi;show OKS (oV (n+1) (iM n b i) r).ops b.len/\oV (n+1) (iM n b i) r={b with ops:=(oV (n+1) (iM n b i) r).ops};have ih:=M6 r (n+1) (iM n b i) (λj hj=>hr j (List.mem_cons_of_mem _ hj)) (by rw [e];exact k.1) ah (by rw [e];dsimp only;omega);rw [e]at ih ⊢;exact ih
def ac3(n:Int)(b:Blk)(i:Ins):(iM n b i).ops=b.ops++gq n b.ops.length i:=by
 unfold iM;split
 .rfl
 split<;>rfl
def XI{pc:Int}{l:List Ins}(h:wY pc l):∃r i,l=r++ [i]/\(∀j∈r,Mid j)/\dO i/\i.op≠0:=by
 have ln:=h.ln;rcases List.eq_nil_or_concat l with e | ⟨r,i,e⟩
 .subst e;simp at ln
 rw [List.concat_eq_append]at e;subst e;refine⟨r,i,rfl,λj hj=> ?_,?_,?_⟩
 .obtain⟨t,ht,rfl⟩:=List.getElem_of_mem hj;have:=h.ok t (by rw [List.length_append];omega);rw [List.getD_eq_getElem?_getD,List.getElem?_append_left ht,List.getElem?_eq_getElem ht]at this;obtain⟨a,b,c⟩:=this;refine⟨a,b,λg=> ?_⟩;have:=c g;rw [List.length_append,List.length_singleton]at this;omega
 .have:=h.ok r.length (by rw [List.length_append,List.length_singleton];omega);rw [List.getD_eq_getElem?_getD,List.getElem?_append_right (Nat.le_refl _),Nat.sub_self]at this;exact this.1
 .have:=h.ok r.length (by rw [List.length_append,List.length_singleton];omega);rw [List.getD_eq_getElem?_getD,List.getElem?_append_right (Nat.le_refl _),Nat.sub_self]at this;exact this.2.1
theorem F8{pc:Int}{l:List Ins}(h:wY pc l):eP (lower pc l):=by
 have ln:=h.ln;have hp:=h.pc;have e0:lower pc l=oV 0 (Aj pc l) l:=by unfold lower;rw [aV h,if_pos rfl]
 have sz:=F7 l 0 (Aj pc l);obtain⟨r,i,e,hr,hi,h0⟩:=XI h;have rl:l.length=r.length+1:=by rw [e,List.length_append,List.length_singleton]
 have k0:OKS (Aj pc l).ops (Aj pc l).len:=λj j0 j1=>absurd j1 (by show¬j< ((0:Nat):Int);omega)
 obtain⟨a1,a2⟩:=M6 r 0 (Aj pc l) hr k0 ah (by show 0+(r.length:Int)<=(l.length:Int);omega);have e1:lower pc l=iM r.length (oV 0 (Aj pc l) r) i:=by
  rw [e0]
  conv=>lhs;rw [e]
  rw [Ch,<-e];simp
 obtain⟨b1,b2,b3⟩:=V9 (n:=r.length) a1 hi h0 ⟨ah,by show(r.length:Int)< (l.length:Int);omega⟩;have eo:=ac3 r.length (oV 0 (Aj pc l) r) i;rw [<-e0]at sz;generalize hB:(oV 0 (Aj pc l) r).ops=ops at*;have z0:(Aj pc l).ops.length=0:=rfl;have F:(lower pc l).pc=pc/\(lower pc l).len=l.length:=by
  rw [e1,a2];unfold iM;split
  .exact⟨rfl,rfl⟩
  split<;>exact⟨rfl,rfl⟩
 have O:(lower pc l).ops=ops++gq r.length ops.length i:=by rw [e1];exact eo
 refine⟨by rw [F.2];omega,by rw [F.1,F.2];omega,ah,?_,?_⟩
 .rw [O,F.2];exact λj j0 j1=>b1 j j0 j1
 .by_cases c:i.op=11\/i.op=12
  .obtain⟨v1,v2⟩:=b2 c;have E:lower pc l=⟨pc,l.length,ops++gq r.length ops.length i,i.op-8,ops.length,ops.length+1,i.k⟩:=by rw [e1,a2];unfold iM;rw [if_pos c];rfl
   have kk:=hi.2.2.2.2.2.2.2.2.2.1;rw [E];refine⟨by dsimp only;omega,λ_=>v1,λg=>by dsimp only at g;omega,λ_=>v2,λg=>by dsimp only at g;omega,λ_=> ?_,λg=>by dsimp only at g;omega⟩;have:=hi.2.2.2.1;have:=kk ah;dsimp only;omega
  by_cases d:i.op=13
  .have v1:=b3 d;have E:lower pc l=⟨pc,l.length,ops++gq r.length ops.length i,2,ops.length,0,0⟩:=by rw [e1,a2];unfold iM;rw [if_neg c,if_pos d];rfl
   rw [E];exact⟨by dsimp only;omega,λ_=>v1,λg=>by dsimp only at g;omega,λg=>by dsimp only at g;omega,λ_=>rfl,λg=>absurd rfl g,λ_=>rfl⟩
  .have E:lower pc l=⟨pc,l.length,ops++gq r.length ops.length i,1,0,0,pc+l.length⟩:=by rw [e1,a2];unfold iM;rw [if_neg c,if_neg d];rfl
   rw [E];exact⟨by dsimp only;omega,λg=>absurd rfl g,λ_=>rfl,λg=>by dsimp only at g;omega,λ_=>rfl,λ_=>by dsimp only;omega,λg=>by dsimp only at g;omega⟩
def ame{m:aH}(h:MOK m){i:Ins}(hi:dO i):MOK (eff m i):=by
 obtain⟨⟨o0,o1⟩,⟨d0,d1⟩,⟨a0,a1⟩,k0,r0,r1,r2,r3,r8,r9,r13,r14⟩:=hi;have rs:∀(j:Nat) (v:Int),Wo v->MOK {m with regs:=m.regs.set j v}:=λj v w=> {h with r4:=by rw [List.length_set];exact h.r4,rw:=h.rw.set w j}
 unfold eff;split
 .exact rs _ _ ⟨k0,by have:=r1 ‹_›;omega⟩
 split
 .exact rs _ _ (h.rw.at _)
 split
 .exact rs _ _ (by unfold Wo;omega)
 split
 .exact rs _ _ (h.mw.at _)
 split
 .exact {h with m64:=by rw [List.length_set];exact h.m64,mw:=h.mw.set (h.rw.at _) _}
 split
 .exact {h with ow:=h.ow.snoc (h.rw.at _)}
 split
 .exact {rs i.d.toNat (m.ins.getD 0 default) h.iw.hd with iw:=h.iw.drop 1}
 split
 .split
  .exact {h with ha:=⟨show(0:Int)<=1 by decide,show(1:Int)<=4 by decide⟩}
  split
  .exact {h with}
  .exact {h with}
 split
 .exact h
 .exact rs _ _ (DR _ _ _)
def ag3(B:Blk){S:MS}(h:S.left=true)(w:List IOp):w.foldl (bO B) S=S:=by
 obtain⟨m,v,l⟩:=S;dsimp only at h;subst h;exact J8 B m v w
def epc(pc len:Int)(m:aH)(i:Ins):Int:=if i.op=11\/i.op=12 then(if F6 (i.op-10) ((m.regs).getD (i.d).toNat default) ((m.regs).getD (i.a).toNat default)=true then i.k else pc+len)else if i.op=13 then((m.regs).getD (i.a).toNat default)else pc+len
abbrev upd(m : aH)(u v : Int) : aH := { m with count := u, pc := v }
def ag4{b:Blk}{m:aH}(h:(lD b m).2=true):eP b/\MOK m/\m.halt=0/\m.pc=b.pc/\m.count<=1000000-b.len:=by
 unfold lD at h;by_cases c:eP b/\MOK m
 .rw [aV c,if_pos rfl]at h;by_cases d:m.halt≠0\/m.pc≠b.pc\/1000000-b.len<m.count
  .rw [if_pos d]at h;cases h
  .exact⟨c.1,c.2,ah,ah,ah⟩
 .rw [bP c,if_neg (by decide)]at h;cases h
abbrev mD(y : Blk × Int × List Int × Int × Bool × Bool × Int × List Int × Int × List Int × List Int × Unit) : aH := ⟨y.2.2.2.2.2.2.2.2.2.1, y.2.1, y.2.2.1, y.2.2.2.1, y.2.2.2.2.1, y.2.2.2.2.2.1, y.2.2.2.2.2.2.1, y.2.2.2.2.2.2.2.1, y.2.2.2.2.2.2.2.2.2.2.1, y.2.2.2.2.2.2.2.2.1⟩
def ac4{b:Blk}{m M:aH}(h:lD b m=(M,true))(hs:MSh m)(ho:m.outs.length<900000000):MSh M:=by
 obtain⟨ok,hm,g0,g1,g2⟩:=ag4 (b:=b) (m:=m) (by rw [h]);unfold lD at h;rw [aV ⟨ok,hm⟩,if_pos rfl,if_neg ah]at h;have e:M=Ai b (b.ops.foldl (bO b) ⟨m,[],false⟩):=(congrArg Prod.fst h).symm;rw [e];exact V6 ok hs ho
structure avo(pp:Int×List Ins×Unit->Bool)(ff:Int×List Ins×Unit->Int×Int×Int×Int×Int×Int×List IOp×Unit):Prop where
 hp:∀pc l,l.length<1000000000->pp (pc,l,())=true
 hf:∀pc l,l.length<1000000000->ff (pc,l,())=bk7 (lower pc l)
structure auL(pp:Blk×aH×Unit->Bool)(ff:Blk×aH×Unit->Int×Int×Bool×Bool×Int×Int×Bool×List Int×List Int×List Int×List Int×Unit):Prop where
 hp:∀b m,b.ops.length<1000000000->MSh m->m.outs.length<900000000->pp (b,m,())=true
 hf:∀b m,b.ops.length<1000000000->MSh m->m.outs.length<900000000->ff (b,m,())=mR (lD b m)
structure auM(pp:aH×aH×Unit->Bool)(ff:aH×aH×Unit->Bool×Unit):Prop where
 hp:∀a b,MSh a->pp (a,b,())=true
 hf:∀a b,MSh a->ff (a,b,())=(bp (a=b),())
structure avp(pp:List Int×Unit->Bool)(ff:List Int×Unit->Int×List Ins×Unit):Prop where
 hp:∀c,By c->c.length<1000000000->pp (c,())=true
 hf:∀c,By c->c.length<1000000000->(ff (c,())).2.1.length<1000
structure auN(pp:List Int×Unit->Bool)(ff:List Int×Unit->Blk×Int×List Int×Int×Bool×Bool×Int×List Int×Int×List Int×List Int×Unit):Prop where
 hp:∀c,By c->c.length<1000000000->pp (c,())=true
 hf:∀c,By c->c.length<1000000000->MSh (mD (ff (c,())))/\(mD (ff (c,()))).outs.length<800000000/\(ff (c,())).1.ops.length<1000000
def amf{p1 f1}(U1:Y9 p1 f1)(l:List Int)(h:l.length<1000000000):Rp.F (p1,f1,()) (l,()) (λy=>y=(bp (Wos l),())):=by
 dsimp only [Rp,gm];simp (disch:=omega) only [RR];refine ak (λ(y:List Int×Int×Unit)=>y.1=l/\0<=y.2.1/\y.2.1<=l.length/\Wos (l.take y.2.1.toNat)) (λy=>(l.length-y.2.1).toNat) ⟨rfl,by simp,by simp,by intro n hn;cases hn⟩ ?_;rintro⟨(l:List Int),(i:Int),⟨⟩⟩ hI;dsimp only at hI ⊢;obtain⟨rfl,h1,h2,h3⟩:=hI;simp (disch:=omega) only [RR,U1.hp,U1.hf,bL,ji];refine⟨λg=>⟨h1,g,λe=> ?_,λe=>⟨⟨ah,ah,?_⟩,ah⟩⟩,λg=> ?_⟩
 .rw [bP];intro v;exact e (v _ (bN h1 g))
 .rw [show(i+1).toNat=i.toNat+1 by omega];intro n hn;rw [List.take_succ_eq_append_getElem ah,List.mem_append,List.mem_singleton]at hn;rcases hn with hn | rfl
  .exact h3 n hn
  .rw [getD_lt ah]at e;exact e
 .rw [List.take_of_length_le ah]at h3;rw [aV h3]
def amg{p1 f1 p2 f2 p3 f3}(U1:Y9 p1 f1)(U2:Y1 p2 f2)(U3:acX p3 f3)(m:aH)(h:MSh m):RA.F (p1,f1,p2,f2,p3,f3,()) (m,()) (λy=>y=(bp (MOK m),())):=by
 obtain⟨a1,a2,a3,a4⟩:=h;dsimp only [RA,gm];simp (disch:=omega) only [RR,MRB,U1.hp,U1.hf,U2.hp,U2.hf,U3.hp _ a1,U3.hf _ a1,U3.hp _ a2,U3.hf _ a2,U3.hp _ a3,U3.hf _ a3,U3.hp _ a4,U3.hf _ a4,Cg,J4];simp only [<-lN];refine Prod.ext (uE ⟨λh=> ?_,λh=> ?_⟩) rfl
 .obtain⟨⟨⟨⟨⟨⟨⟨⟨⟨h1,h2⟩,h3⟩,h4⟩,h5⟩,h6⟩,h7⟩,h8⟩,h9⟩,h10⟩:=h;exact⟨ah,h2,ah,h5,h3,h6,h8,h9,h7,h10⟩
 .exact⟨⟨⟨⟨⟨⟨⟨⟨⟨by have:=h.r4;omega,h.rw⟩,h.pc⟩,by have:=h.m64;omega⟩,h.mw⟩,h.sv⟩,h.ha⟩,h.iw⟩,h.ow⟩,h.ct⟩
def ac5(m:aH)(h:MSh m):RD.F () (m,()) (λy=>y=m10 m):=by
 obtain⟨a1,a2,a3,a4⟩:=h;dsimp only [RD,gm];simp (disch:=omega) only [RR,MRB,List.nil_append,List.length_nil];exact⟨ah,ah,ah,ah⟩
def ac6(m:aH)(h:Int):RH.F () (m.pc,m.save,m.cZ,m.waits,m.halt,m.ins,m.count,h,m.regs,m.mem,m.outs,()) (λy=>y=mB {m with halt:=h}):=by
 dsimp only [RH,gm]
def amh{p1 f1}(U1:Y10 p1 f1)(m:aH)(n:Int)(h:0<=m.count/\m.count<=1000000):RL.F (p1,f1,()) (m.pc,m.save,m.cZ,m.waits,m.halt,m.ins,m.count,n,m.regs,m.mem,m.outs,()) (λy=>y=mB {m with pc:=n%65536,count:=m.count+1}):=by
 dsimp only [RL,gm];simp (disch:=omega) only [RR,U1.hp,U1.hf]
structure ac7(pp:Int×Int×Bool×Bool×Int×List Int×Int×Int×List Int×List Int×List Int×Unit->Bool)(ff:Int×Int×Bool×Bool×Int×List Int×Int×Int×List Int×List Int×List Int×Unit->Int×Int×Bool×Bool×Int×List Int×Int×List Int×List Int×List Int×Unit):Prop where
 hp:∀(m:aH) (n:Int),(0<=m.count/\m.count<=1000000)->pp (m.pc,m.save,m.cZ,m.waits,m.halt,m.ins,m.count,n,m.regs,m.mem,m.outs,())=true
 hf:∀(m:aH) (n:Int),(0<=m.count/\m.count<=1000000)->ff (m.pc,m.save,m.cZ,m.waits,m.halt,m.ins,m.count,n,m.regs,m.mem,m.outs,())=mB {m with pc:=n%65536,count:=m.count+1}
def ac8{p1 f1}(U1:ac7 p1 f1)(m:aH)(d v:Int)(h:MOK m)(d0:0<=d)(d1:d<=3):RO.F (p1,f1,()) (m.pc,m.save,m.cZ,m.waits,m.halt,m.ins,m.count,d,v,m.regs,m.mem,m.outs,()) (λy=>y=mB {m with regs:=m.regs.set d.toNat v,pc:=(m.pc+1)%65536,count:=m.count+1}):=by
 have r4:=h.r4;have c:=h.ct;have pw:0<=m.pc/\m.pc<=65535:=h.pc;have H:=U1.hf {m with regs:=m.regs.set d.toNat v} (m.pc+1) c;have P:=U1.hp {m with regs:=m.regs.set d.toNat v} (m.pc+1) c;dsimp only at H P;dsimp only [RO,gm];simp (disch:=omega) only [RR,H,P,r4,d0];omega
def dbl(v:Int)(j:Nat):(v*2^j%65536+v*2^j%65536)%65536=v*2^ (j+1)%65536:=by
 rw [Int.pow_succ,<-Int.mul_assoc];omega
def ami{p1 f1}(U1:Y10 p1 f1)(v k:Int)(h:Wo v)(k0:0<=k)(k1:k<=15):RQ.F (p1,f1,()) (v,k,()) (λy=>y=(v*2^k.toNat%65536,())):=by
 dsimp only [RQ,gm];simp (disch:=omega) only [RR];refine ak (λ(y:Int×Int×Int×Unit)=>y.1=k/\0<=y.2.2.1/\y.2.2.1<=k/\y.2.1=v*2^y.2.2.1.toNat%65536) (λy=>(k-y.2.2.1).toNat) ⟨rfl,by simp,k0,by have:=h.1;have:=h.2;dsimp only;rw [show Int.toNat 0=0 from rfl,Int.pow_zero];omega⟩ ?_;rintro⟨(z:Int),(a:Int),(i:Int),⟨⟩⟩ hI;dsimp only at hI ⊢;obtain⟨rfl,j1,j2,rfl⟩:=hI;by_cases g:i<z
 .simp (disch:=omega) only [RR,U1.hp,U1.hf,g];exact⟨⟨ah,ah,by rw [show(i+1).toNat=i.toNat+1 by omega];exact dbl v i.toNat⟩,ah⟩
 .simp (disch:=omega) only [RR,U1.hp,U1.hf,g];rw [show i=z by omega]
def IR:(∀i:Ins,fZ .ins 0 i=i.op)/\(∀i:Ins,fZ .ins 1 i=i.d)/\(∀i:Ins,fZ .ins 2 i=i.a)/\(∀i:Ins,fZ .ins 3 i=i.k):=⟨λ_=>rfl,λ_=>rfl,λ_=>rfl,λ_=>rfl⟩
def Wh{m:aH}{i:Ins}{u:aH}(h:exec m i=u):mB u=mB (exec m i):=by rw [h]
def fU{m:aH}{i:Ins}(h:¬((i.op=9\/i.op=10)/\64<=adr m i)){u:aH}(e:eff m i=u){n:Int}(f:nxt m i=n):mB {u with pc:=n,count:=m.count+1}=mB (exec m i):=by
 refine Wh ?_;unfold exec;rw [if_neg h,e,f]
def ef0{m:aH}{i:Ins}(e:i.op=0):eff m i=(if i.k=0 then {m with halt:=1}else if i.k=1 then {m with cZ:=true}else {m with cZ:=decide (i.k=2)}):=by
 unfold eff;(iterate 7 rw [if_neg ah]);rw [if_pos e]
def ef1{m:aH}{i:Ins}(e:i.op=1):eff m i={m with regs:=m.regs.set i.d.toNat i.k}:=by unfold eff;rw [if_pos e]
def ef2{m:aH}{i:Ins}(e:i.op=2):eff m i={m with regs:=m.regs.set i.d.toNat ((m.regs).getD (i.a).toNat default)}:=by unfold eff;rw [if_neg ah,if_pos e]
def ef8{m:aH}{i:Ins}(e:i.op=8):eff m i={m with regs:=m.regs.set i.d.toNat (((m.regs).getD (i.a).toNat default)*2^i.k.toNat%65536)}:=by unfold eff;(iterate 2 rw [if_neg ah]);rw [if_pos e]
def ef9{m:aH}{i:Ins}(e:i.op=9):eff m i={m with regs:=m.regs.set i.d.toNat ((m.mem).getD (adr m i).toNat default)}:=by unfold eff;(iterate 3 rw [if_neg ah]);rw [if_pos e]
def auO{m:aH}{i:Ins}(e:i.op=10):eff m i={m with mem:=m.mem.set (adr m i).toNat ((m.regs).getD (i.d).toNat default)}:=by unfold eff;(iterate 4 rw [if_neg ah]);rw [if_pos e]
def auP{m:aH}{i:Ins}(e:i.op=14):eff m i={m with outs:=m.outs++ [((m.regs).getD (i.d).toNat default)]}:=by unfold eff;(iterate 5 rw [if_neg ah]);rw [if_pos e]
def arO{m:aH}{i:Ins}(e:i.op=15):eff m i={m with regs:=m.regs.set i.d.toNat (m.ins.getD 0 default),ins:=m.ins.drop 1}:=by unfold eff;(iterate 6 rw [if_neg ah]);rw [if_pos e]
def efj{m:aH}{i:Ins}(e:11<=i.op/\i.op<=13):eff m i=m:=by unfold eff;(iterate 8 rw [if_neg ah]);rw [if_pos ah]
def efd{m:aH}{i:Ins}(e:3<=i.op/\i.op<=7):eff m i={m with regs:=m.regs.set i.d.toNat (wdo (i.op-2) ((m.regs).getD (i.a).toNat default) ((m.regs).getD (i.k).toNat default))}:=by unfold eff;(iterate 9 rw [if_neg ah])
def nxp{m:aH}{i:Ins}(h:(i.op=0->i.k≠1)/\¬(11<=i.op/\i.op<=13)):nxt m i=(m.pc+1)%65536:=by unfold nxt;rw [if_neg (λq=>h.1 q.1 q.2),if_neg (λq=>h.2 ah),if_neg ah]
def n9{m:aH}{i:Ins}(h:¬(i.op=9\/i.op=10)):¬((i.op=9\/i.op=10)/\64<=adr m i):=λq=>h q.1
structure amj(pp:Int×Int×Bool×Bool×Int×List Int×Int×Int×List Int×List Int×List Int×Unit->Bool)(ff:Int×Int×Bool×Bool×Int×List Int×Int×Int×List Int×List Int×List Int×Unit->Int×Int×Bool×Bool×Int×List Int×Int×List Int×List Int×List Int×Unit):Prop where
 hp:∀(m:aH) (h:Int),pp (m.pc,m.save,m.cZ,m.waits,m.halt,m.ins,m.count,h,m.regs,m.mem,m.outs,())=true
 hf:∀(m:aH) (h:Int),ff (m.pc,m.save,m.cZ,m.waits,m.halt,m.ins,m.count,h,m.regs,m.mem,m.outs,())=mB {m with halt:=h}
structure amk(pp:Int×Int×Bool×Bool×Int×List Int×Int×Int×Int×List Int×List Int×List Int×Unit->Bool)(ff:Int×Int×Bool×Bool×Int×List Int×Int×Int×Int×List Int×List Int×List Int×Unit->Int×Int×Bool×Bool×Int×List Int×Int×List Int×List Int×List Int×Unit):Prop where
 hp:∀(m:aH) (d v:Int),MOK m->0<=d->d<=3->pp (m.pc,m.save,m.cZ,m.waits,m.halt,m.ins,m.count,d,v,m.regs,m.mem,m.outs,())=true
 hf:∀(m:aH) (d v:Int),MOK m->0<=d->d<=3->ff (m.pc,m.save,m.cZ,m.waits,m.halt,m.ins,m.count,d,v,m.regs,m.mem,m.outs,())=mB {m with regs:=m.regs.set d.toNat v,pc:=(m.pc+1)%65536,count:=m.count+1}
theorem aml{p1 f1 p2 f2 p3 f3 p4 f4}(U1:Y10 p1 f1)(U2:amj p2 f2)(U3:ac7 p3 f3)(U4:amk p4 f4)(m:aH)(i:Ins)(h:MOK m)(hi:dO i)(ho:i.op=9\/i.op=10):RS.F (p1,f1,p2,f2,p3,f3,p4,f4,()) (m.pc,m.save,m.cZ,m.waits,m.halt,m.ins,m.count,i,m.regs,m.mem,m.outs,()) (λy=>y=mB (exec m i)):=by
 obtain⟨_,⟨d0,d1⟩,⟨a0,a1⟩,k0,_,_,_,_,_,r9,_⟩:=hi;have k1:=r9 ah;have r4:=h.r4;have m6:=h.m64;have c:=h.ct;have pw:0<=m.pc/\m.pc<=65535:=h.pc;have H3:=λmem=>U3.hf {m with mem:=mem} (m.pc+1) c
 have P3:=λmem=>U3.hp {m with mem:=mem} (m.pc+1) c
 dsimp only at H3 P3;have H4:=λv=>U4.hf m i.d v h d0 d1
 have P4:=λv=>U4.hp m i.d v h d0 d1
 have wa:0<=((m.regs).getD (i.a).toNat default)/\((m.regs).getD (i.a).toNat default)<=65535:=h.rw.at i.a;dsimp only [RS,gm];simp (disch:=omega) only [RR,IR,U1.hp,U1.hf,U2.hp,U2.hf,H3,P3,H4,P4,r4,m6,d0,a0,qO];have ad:(((m.regs).getD (i.a).toNat default)+i.k)%65536=adr m i:=rfl;rw [ad];have a0':0<=adr m i:=by unfold adr;omega
 refine⟨ah,ah,λg=>Wh (by unfold exec;rw [if_pos ⟨ho,g⟩]),λg=>⟨λe=>⟨ah,ah,ah,ah,?_⟩,λe=>⟨ah,ah,ah,ah,ah,ah,?_⟩⟩⟩
 .exact fU (u:={m with regs:=m.regs.set i.d.toNat ((m.mem).getD (adr m i).toNat default)}) (λq=>by omega) (ef9 e) (nxp ah)
 .exact fU (u:={m with mem:=m.mem.set (adr m i).toNat ((m.regs).getD (i.d).toNat default)}) (λq=>by omega) (auO (ho.resolve_left e)) (nxp ah)
def amm{p1 f1 p2 f2}(U1:ac7 p1 f1)(U2:amk p2 f2)(m:aH)(i:Ins)(h:MOK m)(hi:dO i)(hq:i.op=14\/i.op=15)(hn:m.ins.length<1000000000)(ho:m.outs.length<900000000):RU.F (p1,f1,p2,f2,()) (m.pc,m.save,m.cZ,m.waits,m.halt,m.ins,m.count,i,m.regs,m.mem,m.outs,()) (λy=>y=mB (exec m i)):=by
 obtain⟨_,⟨d0,d1⟩,⟨a0,a1⟩,k0,_⟩:=hi;have r4:=h.r4;have m6:=h.m64;have c:=h.ct;have pw:0<=m.pc/\m.pc<=65535:=h.pc;have H3:=λo=>U1.hf {m with outs:=o} (m.pc+1) c
 have P3:=λo=>U1.hp {m with outs:=o} (m.pc+1) c
 dsimp only at H3 P3;have mk:∀l:List Int,l=m.ins\/l=m.ins.drop 1->MOK {m with ins:=l}:=λl hl=> {h with iw:=by rcases hl with rfl | rfl;exact h.iw;exact h.iw.drop 1}
 have H4:=λv=>U2.hf m i.d v h d0 d1
 have P4:=λv=>U2.hp m i.d v h d0 d1
 have H5:=λv=>U2.hf {m with ins:=m.ins.drop 1} i.d v (mk _ (Or.inr rfl)) d0 d1
 have P5:=λv=>U2.hp {m with ins:=m.ins.drop 1} i.d v (mk _ (Or.inr rfl)) d0 d1
 dsimp only at H5 P5;have e1:List.drop (Int.toNat 1) (List.take (Int.toNat (m.ins.length:Int)) m.ins)=m.ins.drop 1:=by rw [show Int.toNat (m.ins.length:Int)=m.ins.length by omega,List.take_of_length_le (Nat.le_refl _)];rfl
 dsimp only [RU,gm];simp (disch:=omega) only [RR,IR,H3,P3,H4,P4,H5,P5,e1,r4,m6,d0,List.length_cons,List.length_nil,qO];have n9:¬((i.op=9\/i.op=10)/\64<=adr m i):=n9 ah;have nx:nxt m i=(m.pc+1)%65536:=nxp ah;refine⟨λe=>⟨ah,ah,ah,?_⟩,λe=>⟨λg=>⟨ah,g,ah,ah,ah,?_⟩,λg=> ?_⟩⟩
 .exact fU (u:={m with outs:=m.outs++ [((m.regs).getD (i.d).toNat default)]}) n9 (auP e) nx
 .exact fU (u:={m with regs:=m.regs.set i.d.toNat (m.ins.getD 0 default),ins:=m.ins.drop 1}) n9 (arO (hq.resolve_left e)) nx
 .have e0:m.ins=[]:=by
   cases hm:m.ins with
   | nil=>rfl
   | cons a r=>rw [hm]at g;simp only [List.length_cons]at g;omega
  have:=fU (u:={m with regs:=m.regs.set i.d.toNat (m.ins.getD 0 default),ins:=m.ins.drop 1}) n9 (arO (hq.resolve_left e)) nx;rw [e0]at this;rw [<-this,e0];rfl
def amn{p1 f1 p2 f2}(U1:amj p1 f1)(U2:ac7 p2 f2)(m:aH)(i:Ins)(h:MOK m)(ho:i.op=0):RN.F (p1,f1,p2,f2,()) (m.pc,m.save,m.cZ,m.waits,m.halt,m.ins,m.count,i.k,m.regs,m.mem,m.outs,()) (λy=>i.k<=3->0<=i.k->y=mB (exec m i)):=by
 have c:=h.ct;have pw:0<=m.pc/\m.pc<=65535:=h.pc;have sw:0<=m.save/\m.save<=65535:=h.sv;have H1:=U1.hf m 1;have P1:=U1.hp m 1;have H2:=λb n=>U2.hf {m with cZ:=b} n c
 have P2:=λb n=>U2.hp {m with cZ:=b} n c
 have H3:=λn=>U2.hf {m with halt:=1} n c
 have P3:=λn=>U2.hp {m with halt:=1} n c
 dsimp only at H2 P2 H3 P3;have n9:¬((i.op=9\/i.op=10)/\64<=adr m i):=n9 ah;have ef:=ef0 (m:=m) ho;have nx:i.k≠1->nxt m i=(m.pc+1)%65536:=λe=>nxp ⟨λ_=>e,ah⟩
 dsimp only [RN,gm];simp (disch:=omega) only [RR,H1,P1,H2,P2,H3,P3];refine⟨λe _ _=> ?_,λe=>⟨λe2 _ _=> ?_,λe2=>⟨λe3 _ _=> ?_,λe3 g0 g1=> ?_⟩⟩⟩
 .rw [show m.save%65536=m.save by omega];exact fU (u:={m with cZ:=true}) n9 (by rw [ef,if_neg ah,if_pos e]) (by unfold nxt;rw [if_pos ⟨ho,e⟩])
 .exact fU (u:={m with cZ:=true}) n9 (by rw [ef,if_neg ah,if_neg ah,e2];rfl) (nx ah)
 .exact fU (u:={m with cZ:=false}) n9 (by rw [ef,if_neg ah,if_neg ah,e3];rfl) (nx ah)
 .exact fU (u:={m with halt:=1}) n9 (by rw [ef,if_pos ah]) (nx ah)
def Wi{a b:Int}(ha:Wo a)(hb:Wo b):(F6 1 a b=true↔a=b)/\(F6 2 a b=true↔a<b):=by
 rw [Tc,Td,Cg,Cg,aV (show 0<=a/\a<=65535 from ha),aV (show 0<=b/\b<=65535 from hb)];simp
def amo{p1 f1 p2 f2 p5 f5}(U1:Y24 p1 f1)(U2:ac7 p2 f2){p3:Int×Int×Bool×Bool×Int×List Int×Int×Ins×List Int×List Int×List Int×Unit->Bool}{f3:Int×Int×Bool×Bool×Int×List Int×Int×Ins×List Int×List Int×List Int×Unit->Int×Int×Bool×Bool×Int×List Int×Int×List Int×List Int×List Int×Unit}(hp3:∀(m:aH) (i:Ins),MOK m->dO i->(i.op=14\/i.op=15)->m.ins.length<1000000000->m.outs.length<900000000->p3 (m.pc,m.save,m.cZ,m.waits,m.halt,m.ins,m.count,i,m.regs,m.mem,m.outs,())=true)(hf3:∀(m:aH) (i:Ins),MOK m->dO i->(i.op=14\/i.op=15)->m.ins.length<1000000000->m.outs.length<900000000->f3 (m.pc,m.save,m.cZ,m.waits,m.halt,m.ins,m.count,i,m.regs,m.mem,m.outs,())=mB (exec m i)){p4:Int×Int×Bool×Bool×Int×List Int×Int×Ins×List Int×List Int×List Int×Unit->Bool}{f4:Int×Int×Bool×Bool×Int×List Int×Int×Ins×List Int×List Int×List Int×Unit->Int×Int×Bool×Bool×Int×List Int×Int×List Int×List Int×List Int×Unit}(hp4:∀(m:aH) (i:Ins),MOK m->dO i->(i.op=9\/i.op=10)->p4 (m.pc,m.save,m.cZ,m.waits,m.halt,m.ins,m.count,i,m.regs,m.mem,m.outs,())=true)(hf4:∀(m:aH) (i:Ins),MOK m->dO i->(i.op=9\/i.op=10)->f4 (m.pc,m.save,m.cZ,m.waits,m.halt,m.ins,m.count,i,m.regs,m.mem,m.outs,())=mB (exec m i))(U5:amk p5 f5){p6:Int×Int×Unit->Bool}{f6:Int×Int×Unit->Int×Unit}(hp6:∀(v k:Int),Wo v->0<=k->k<=15->p6 (v,k,())=true)(hf6:∀(v k:Int),Wo v->0<=k->k<=15->f6 (v,k,())=(v*2^k.toNat%65536,())){p7:Int×Int×Bool×Bool×Int×List Int×Int×Int×List Int×List Int×List Int×Unit->Bool}{f7:Int×Int×Bool×Bool×Int×List Int×Int×Int×List Int×List Int×List Int×Unit->Int×Int×Bool×Bool×Int×List Int×Int×List Int×List Int×List Int×Unit}(hp7:∀(m:aH) (i:Ins),MOK m->i.op=0->p7 (m.pc,m.save,m.cZ,m.waits,m.halt,m.ins,m.count,i.k,m.regs,m.mem,m.outs,())=true)(hf7:∀(m:aH) (i:Ins),MOK m->i.op=0->i.k<=3->0<=i.k->f7 (m.pc,m.save,m.cZ,m.waits,m.halt,m.ins,m.count,i.k,m.regs,m.mem,m.outs,())=mB (exec m i))(m:aH)(i:Ins)(h:MOK m)(hi:dO i)(hn:m.ins.length<1000000000)(ho:m.outs.length<900000000):RV.F (p1,f1,p2,f2,p3,f3,p4,f4,p5,f5,p6,f6,p7,f7,()) (m.pc,m.save,m.cZ,m.waits,m.halt,m.ins,m.count,i,m.regs,m.mem,m.outs,()) (λy=>y=mB (exec m i)):=by
 have hi':=hi;obtain⟨⟨o0,o1⟩,⟨d0,d1⟩,⟨a0,a1⟩,k0,r0,r1,r2,r3,r8,r9,_⟩:=hi;have r4:=h.r4;have c:=h.ct;have pw:0<=m.pc/\m.pc<=65535:=h.pc;have wa:=h.rw.at i.a;have wd:=h.rw.at i.d;obtain⟨q1,q2⟩:=Wi wd wa;have wa':0<=((m.regs).getD (i.a).toNat default)/\((m.regs).getD (i.a).toNat default)<=65535:=wa;have H5:=λv=>U5.hf m i.d v h d0 d1
 have P5:=λv=>U5.hp m i.d v h d0 d1
 have H2:=λn=>U2.hf m n c
 have P2:=λn=>U2.hp m n c
 dsimp only [RV,gm];rcases(by omega:i.op=0\/i.op=1\/i.op=2\/(3<=i.op/\i.op<=7)\/i.op=8\/(i.op=9\/i.op=10)\/i.op=11\/i.op=12\/i.op=13\/(i.op=14\/i.op=15))with e | e | e | e | e | e | e | e | e | e
 case inr.inr.inr.inl=>
  have n0:∀z:Int,z<3\/7<z->¬i.op=z:=λz g q=>by omega
  have kk:=r3 e;simp (disch:=omega) only [RR,IR,n0 0 ah,n0 1 ah,n0 2 ah,n0 8 ah,n0 9 ah,n0 10 ah,n0 11 ah,n0 12 ah,n0 13 ah,n0 14 ah,n0 15 ah,U1.hp,U1.hf,H5,P5,r4,d0,a0,k0];refine⟨ah,ah,ah,ah,?_⟩;rw [show i.op-3+1=i.op-2 by omega];exact fU (u:={m with regs:=m.regs.set i.d.toNat (wdo (i.op-2) ((m.regs).getD (i.a).toNat default) ((m.regs).getD (i.k).toNat default))}) (n9 ah) (efd e) (nxp ah)
 case inr.inr.inr.inr.inr.inl=>
  rcases e with e | e<;>simp (disch:=omega) only [RR,IR,e,Int.reduceEq,hp4 m i h hi' ah,hf4 m i h hi' ah,r4,d0,a0,k0]
  all_goals exact⟨ah,ah⟩
 case inr.inr.inr.inr.inr.inr.inr.inr.inr=>
  rcases e with e | e<;>simp (disch:=omega) only [RR,IR,e,Int.reduceEq,hp3 m i h hi' ah hn ho,hf3 m i h hi' ah hn ho,r4,d0,a0,k0]
  all_goals exact⟨ah,ah⟩
 case inl=>
  simp (disch:=omega) only [RR,IR,e,Int.reduceEq,hp7 m i h e,r4,d0,a0,k0];exact⟨ah,ah,hf7 m i h e (r0 e).2.2 k0⟩
 case inr.inr.inr.inr.inl=>
  simp (disch:=omega) only [RR,IR,e,Int.reduceEq,hp6 _ _ wa k0 (r8 e),hf6 _ _ wa k0 (r8 e),H5,P5,r4,d0,a0,k0];exact⟨ah,ah,fU (u:={m with regs:=m.regs.set i.d.toNat (((m.regs).getD (i.a).toNat default)*2^i.k.toNat%65536)}) (n9 ah) (ef8 e) (nxp ah)⟩
 all_goals simp (disch:=omega) only [RR,IR,e,Int.reduceEq,H5,P5,H2,P2,r4,d0,a0,k0]
 .exact⟨ah,ah,fU (u:={m with regs:=m.regs.set i.d.toNat i.k}) (n9 ah) (ef1 e) (nxp ah)⟩
 .exact⟨ah,ah,fU (u:={m with regs:=m.regs.set i.d.toNat ((m.regs).getD (i.a).toNat default)}) (n9 ah) (ef2 e) (nxp ah)⟩
 .have ef:eff m i=m:=efj ah;have k1:=r9 ah;refine⟨ah,ah,ah,ah,λg=> ?_,λg=> ?_⟩
  .rw [show i.k%65536=i.k by omega];exact fU (u:=m) (n9 ah) ef (by unfold nxt;rw [if_neg ah,if_pos ⟨Or.inl e,by rw [e];exact q1.2 g⟩])
  .exact fU (u:=m) (n9 ah) ef (by unfold nxt;rw [if_neg ah,if_neg (λq=>g (q1.1 (by have:=q.2;rw [e]at this;exact this))),if_neg ah])
 .have ef:eff m i=m:=efj ah;have k1:=r9 ah;refine⟨ah,ah,ah,ah,λg=> ?_,λg=> ?_⟩
  .rw [show i.k%65536=i.k by omega];exact fU (u:=m) (n9 ah) ef (by unfold nxt;rw [if_neg ah,if_pos ⟨Or.inr e,by rw [e];exact q2.2 g⟩])
  .exact fU (u:=m) (n9 ah) ef (by unfold nxt;rw [if_neg ah,if_neg (λq=>g (q2.1 (by have:=q.2;rw [e]at this;exact this))),if_neg ah])
 .have ef:eff m i=m:=efj ah;rw [show((m.regs).getD (i.a).toNat default)%65536=((m.regs).getD (i.a).toNat default) by omega];exact⟨ah,ah,fU (u:=m) (n9 ah) ef (by unfold nxt;rw [if_neg ah,if_neg ah,if_pos e];rfl)⟩
def smp(m:aH)(b:Bool):aH:=if(m.waits || b)=true/\m.cZ=true then {m with waits:=false,cZ:=false,save:=m.pc,pc:=48}else {m with waits:=m.waits || b}
def ac9(m:aH)(b:Bool):RG.F () (m.pc,m.save,m.cZ,m.waits,m.halt,m.ins,m.count,b,m.regs,m.mem,m.outs,()) (λy=>y=mB (smp m b)):=by
 dsimp only [RG,gm];unfold smp;cases hw:m.waits<;>cases hb:b<;>cases hl:m.cZ<;>simp
def ada(l:List Int)(n:Int)(h:l.length<1000000000):RY.F () (l,n,()) (λy=>y=(bp (n∈l),())):=by
 dsimp only [RY,gm];simp (disch:=omega) only [RR];refine ak (λ(y:List Int×Int×Int×Unit)=>y.1=l/\y.2.1=n/\0<=y.2.2.1/\y.2.2.1<=l.length/\n∉l.take y.2.2.1.toNat) (λy=>(l.length-y.2.2.1).toNat) ⟨rfl,rfl,by simp,by simp,by simp⟩ ?_;rintro⟨(l:List Int),(n:Int),(i:Int),⟨⟩⟩ hI;dsimp only at hI ⊢;obtain⟨rfl,rfl,h1,h2,h3⟩:=hI;simp (disch:=omega) only [RR];refine⟨λg=>⟨h1,g,λe=> ?_,λe=>⟨⟨ah,ah,λq=> ?_⟩,ah⟩⟩,λg=> ?_⟩
 .rw [aV (by rw [<-e];exact bN h1 g)]
 .rw [show(i+1).toNat=i.toNat+1 by omega,List.take_succ_eq_append_getElem ah,List.mem_append,List.mem_singleton,<-getD_lt (d:=default) (show i.toNat<l.length by omega)]at q;exact q.elim h3 (λz=>e z.symm)
 .rw [List.take_of_length_le ah]at h3;rw [bP h3]
def fm(i:Ins):Bool:=if i.op=0 then decide (i.d=0)&&decide (i.a=0)&&decide (i.k<=3)else if i.op=1 then decide (i.a=0)else if i.op=2 then decide (i.k=0)else if 3<=i.op/\i.op<=7 then decide (i.k<4)else if i.op=8 then decide (i.k<16)else if i.op=13 then decide (i.d=0)&&decide (i.k=0)else if i.op=14\/i.op=15 then decide (i.a=0)&&decide (i.k=0)else true
def auQ(b:Bool):bp (b=true)=b:=by
 cases b with
 | true=>exact aV rfl
 | false=>exact bP (by decide)
def amq(i:Ins):(inB i.op 0 15&&inB i.d 0 3&&inB i.a 0 3&&inB i.k 0 255&&fm i)=bp (dO i):=by
 have h:((0<=i.op/\i.op<=15)/\(0<=i.d/\i.d<=3)/\(0<=i.a/\i.a<=3)/\(0<=i.k/\i.k<=255)/\fm i=true)↔dO i:=by
  unfold dO fm;split
  .simp only [Bool.and_eq_true,decide_eq_true_eq];omega
  split
  .simp only [decide_eq_true_eq];omega
  split
  .simp only [decide_eq_true_eq];omega
  split
  .simp only [decide_eq_true_eq];omega
  split
  .simp only [decide_eq_true_eq];omega
  split
  .simp only [Bool.and_eq_true,decide_eq_true_eq];omega
  split
  .simp only [Bool.and_eq_true,decide_eq_true_eq];omega
  .simp only [eq_self,and_true];omega
 rw [<-uE h];simp only [Cg,lN,Bool.and_assoc,auQ]
def uJ(i:Ins):PE.F () (i,()) (λy=>y=(fm i,())):=by
 dsimp only [PE,gm];rcases(by omega:(i.op=0\/i.op=1\/i.op=2\/i.op=3\/i.op=4\/i.op=5\/i.op=6\/i.op=7\/i.op=8\/i.op=13\/i.op=14\/i.op=15)\/(¬(0<=i.op/\i.op<=8)/\¬(13<=i.op/\i.op<=15)))with(e | e | e | e | e | e | e | e | e | e | e | e) | ⟨n1,n2⟩
 case inr=>
  have n:∀z:Int,(0<=z/\z<=8)\/(13<=z/\z<=15)->¬i.op=z:=λz g q=>by omega
  have n3:¬(3<=i.op/\i.op<=7):=λq=>by omega
  simp (disch:=omega) only [RR,IR,n];unfold fm;simp (disch:=omega) only [n,n3,if_false,or_self]
 all_goals simp (disch:=omega) only [RR,IR,e,Int.reduceEq]
 all_goals unfold fm
 all_goals simp [e]
def GD{p1 f1}(U1:Y1 p1 f1){p2:Ins×Unit->Bool}{f2:Ins×Unit->Bool×Unit}(hp2:∀i,p2 (i,())=true)(hf2:∀i,f2 (i,())=(fm i,()))(i:Ins):PG.F (p1,f1,p2,f2,()) (i,()) (λy=>y=(bp (dO i),())):=by
 dsimp only [PG,gm];simp (disch:=omega) only [RR,IR,U1.hp,U1.hf,hp2,hf2];rw [amq]
noncomputable def tkI (w:Int):Int×Int×Int×Int×Bool×Unit:=if bp (Wo w/\dO (sP w))=true then((sP w).op,(sP w).d,(sP w).a,(sP w).k,true,())else(0,0,0,0,false,())
theorem amr{p1 f1 p2 f2}(U1:ag2 p1 f1)(U2:Y9 p2 f2)(w:Int):RF.F (p1,f1,p2,f2,()) (w,()) (λy=>y=tkI w):=by
 dsimp only [RF,gm];simp (disch:=omega) only [RR,U1.hp,U1.hf,U2.hp,U2.hf,Cg];by_cases h:Wo w
 .obtain⟨w0,w1⟩:=id h;have e:∀x y z u:Int,Co.mk .ins (x,y,z,u,())=⟨x,y,z,u⟩:=λ_ _ _ _=>rfl
  have q:∀n:Int,0<n->0<=w/n/\w/n<=65535:=λn hn=>⟨Int.ediv_nonneg w0 ah,Int.le_trans (Int.ediv_le_self _ w0) w1⟩
  have q1:=q 4096 (by decide);have q2:=q 1024 (by decide);have q3:=q 256 (by decide);rw [aV (show 0<=w/\w<=65535 from h)];simp (disch:=omega) only [RR,e,Int.tdiv_eq_ediv_of_nonneg,Int.tmod_eq_emod_of_nonneg];have ed:(⟨w/4096,w/1024%4,w/256%4,w%256⟩:Ins)=sP w:=rfl;unfold tkI;by_cases k:dO (sP w)
  .rw [ed,aV k,aV ⟨h,k⟩];simp;rfl
  .rw [ed,bP k,bP (λg=>k g.2)];simp
 .rw [bP (show¬(0<=w/\w<=65535)from h)];unfold tkI;rw [bP (λg=>h g.1)];simp
noncomputable def F9 (i:Ins):Int:=if bp (dO i)=true then Ta i else 0
def Ak(i:Ins):Wo (F9 i):=by
 unfold F9;split
 .rename_i h;obtain⟨⟨o0,o1⟩,⟨d0,d1⟩,⟨a0,a1⟩,k0,h⟩:=aQ.1 h;unfold Ta Wo;omega
 .exact wo0
def ams{p1 f1}(U1:ag2 p1 f1)(i:Ins):Rs.F (p1,f1,()) (i,()) (λy=>y=(F9 i,())):=by
 dsimp only [Rs,gm];simp (disch:=omega) only [RR,IR,U1.hp,U1.hf];unfold F9 Ta;refine⟨λh=>by rw [h];rfl,λh=> ?_⟩;rw [if_pos h];obtain⟨⟨o0,o1⟩,⟨d0,d1⟩,⟨a0,a1⟩,k0,h⟩:=aQ.1 h;have k1:i.k<=255:=by omega
 simp (disch:=omega) only [w64]
structure arP(pp:Ins×Unit->Bool)(ff:Ins×Unit->Int×Unit):Prop where
 hp:∀i,pp (i,())=true
 hf:∀i,ff (i,())=(F9 i,())
def amt{p1 f1}(U1:arP p1 f1)(l:List Ins)(hl:l.length<1000000):Rt.F (p1,f1,()) (l,()) (λy=>y=(l.map F9,())):=by
 dsimp only [Rt,gm];simp (disch:=omega) only [RR,List.length_nil];refine ak (λ(y:List Ins×Int×List Int×Unit)=>y.1=l/\0<=y.2.1/\y.2.1<=l.length/\y.2.2.1=(l.take y.2.1.toNat).map F9) (λy=>(l.length-y.2.1).toNat) ⟨rfl,by simp,by simp,by simp⟩ ?_;rintro⟨(l:List Ins),(i:Int),(o:List Int),⟨⟩⟩ hI;dsimp only at hI ⊢;obtain⟨rfl,h1,h2,rfl⟩:=hI;simp (disch:=omega) only [RR,U1.hp,U1.hf,List.length_map,List.length_cons,List.length_nil];have h3:=List.length_take_le' i.toNat l;refine⟨λh4=>⟨ah,ah,ah,⟨ah,ah,?_⟩,ah⟩,λh4=>by rw [List.take_of_length_le ah]⟩;rw [<-bB (d:=default) h1 h4 rfl,List.map_append];rfl
def amu{l:List Int}(h:Wos l){n:Int}(w:Wo n):Wos (n::l):=λx hx=>(List.mem_cons.1 hx).elim (λe=>e▸w) (h x)
noncomputable def kg (w i:List Int):aH:=if bp (w.length<=64/\Wos w/\Wos i)=true then⟨[0,0,0,0],0,w++List.replicate (64-w.length) 0,0,false,false,0,i,[],0⟩else M5
def ag5{w i:List Int}(h:w.length<=64)(hw:Wos w)(hi:Wos i):MOK (kg w i):=by
 unfold kg;rw [aV ⟨h,hw,hi⟩,if_pos rfl];have z:∀n:Nat,Wos (List.replicate n 0):=λn x hx=>by rw [List.eq_of_mem_replicate hx];exact wo0
 exact⟨rfl,z 4,by show(w++List.replicate (64-w.length) 0).length=64;rw [List.length_append,List.length_replicate];omega,λx hx=>(List.mem_append.1 hx).elim (hw x) (z _ x),wo0,wo0,hi,λx hx=>(by cases hx),⟨show(0:Int)<=0 by decide,show(0:Int)<=4 by decide⟩,⟨show(0:Int)<=0 by decide,show(0:Int)<=1000000 by decide⟩⟩
def amv{p1 f1}(U1:acX p1 f1)(w i:List Int)(hw:w.length<1000000)(hi:i.length<1000000):Rq.F (p1,f1,()) (w,i,()) (λy=>y=((kg w i).pc,(kg w i).save,(kg w i).cZ,(kg w i).waits,(kg w i).halt,(kg w i).count,(kg w i).regs,(kg w i).mem,(kg w i).ins,())):=by
 have P:=U1.hp w ah;have P':=U1.hp i ah;have Q:=U1.hf w ah;have Q':=U1.hf i ah;dsimp only [Rq,gm];simp (disch:=omega) only [RR,P,P',Q,Q',qO,List.nil_append,List.length_nil];by_cases c:w.length<=64/\Wos w/\Wos i
 .have e:kg w i=⟨[0,0,0,0],0,w++List.replicate (64-w.length) 0,0,false,false,0,i,[],0⟩:=by unfold kg;rw [aV c,if_pos rfl]
  obtain⟨c1,c2,c3⟩:=c;rw [e,aV c2,aV c3];refine⟨λq=>absurd q (by simp;omega),λ_=>⟨ah,?_⟩⟩;have lm:(w++List.replicate (64-w.length) (0:Int)).length=64:=by rw [List.length_append,List.length_replicate];omega
  have am:∀k:Nat,k<64->(w++List.replicate (64-w.length) (0:Int))[k]? =some (if k<w.length then w.getD k default else 0):=λk hk=>by
   by_cases g:k<w.length
   .rw [if_pos g,List.getElem?_append_left g,List.getElem?_eq_getElem g,getD_lt g]
   .rw [if_neg g,List.getElem?_append_right ah,List.getElem?_replicate,if_pos ah]
  generalize w++List.replicate (64-w.length) (0:Int)=M at lm am;refine ak (λ(y:List Int×Int×Int×Int×Bool×Bool×Int×Int×Int×Int×Bool×Bool×Int×Int×List Int×List Int×List Int×Unit)=>y.1=w/\0<=y.2.1/\y.2.1<=64/\y.2.2.2.2.2.2.2.2=(0,0,false,false,0,0,[0,0,0,0],M.take y.2.1.toNat,i,())) (λy=>(64-y.2.1).toNat) ⟨rfl,by simp,by simp,rfl⟩ ?_;rintro⟨(w:List Int),(k:Int),u1,u2,u3,u4,u5,u6,v1,v2,v3,v4,v5,v6,r,l,j,⟨⟩⟩ hI;dsimp only at hI ⊢;obtain⟨rfl,h1,h2,h3⟩:=hI;simp only [Prod.mk.injEq,and_true]at h3;obtain⟨rfl,rfl,rfl,rfl,rfl,rfl,rfl,rfl,rfl⟩:=h3;have tl:(M.take k.toNat).length<=64:=by rw [List.length_take];omega
  have nx:k<64->M.take (k+1).toNat=M.take k.toNat++ [if k.toNat<w.length then w.getD k.toNat default else 0]:=λg=>by
   rw [show(k+1).toNat=k.toNat+1 by omega,List.take_add_one,am _ ah];rfl
  simp (disch:=omega) only [RR,List.length_cons,List.length_nil];refine⟨λg=>⟨λg2=>⟨h1,g2,ah,⟨ah,ah,?_⟩,ah⟩,λg2=>⟨ah,⟨ah,ah,?_⟩,ah⟩⟩,λg=> ?_⟩
  .rw [nx g,if_pos ah]
  .rw [nx g,if_neg ah]
  .rw [List.take_of_length_le ah]
 .have e:kg w i=M5:=by unfold kg;rw [bP c,if_neg (by decide)]
  rw [e];refine⟨λ_=>rfl,λg=>absurd ⟨ah,aQ.1 g.1.2,aQ.1 g.2⟩ c⟩
theorem Ga(m:aH)(b:Bool):stepM m b=(if 64<=(smp m b).pc then {smp m b with halt:=4}else if bp (dO (sP (((smp m b).mem).getD ((smp m b).pc).toNat default)))=false then {smp m b with halt:=2}else exec (smp m b) (sP (((smp m b).mem).getD ((smp m b).pc).toNat default))):=rfl
def adb{m:aH}(h:MOK m)(b:Bool):MOK (smp m b):=by
 unfold smp;split
 .exact {h with sv:=h.pc,pc:=⟨show(0:Int)<=48 by decide,show(48:Int)<=65535 by decide⟩}
 .exact {h with}
def Te(m:aH)(b:Bool):(smp m b).ins=m.ins/\(smp m b).outs=m.outs/\(smp m b).count=m.count:=by unfold smp;split<;>exact⟨rfl,rfl,rfl⟩
def amw{m:aH}(h:MOK m){i:Ins}(hi:dO i):Wo (nxt m i):=by
 obtain⟨_,_,_,k0,_,_,_,_,_,r9,_⟩:=hi;unfold nxt;split
 .exact h.sv
 split
 .rename_i c;exact⟨k0,by have:=r9 ah;omega⟩
 split
 .exact h.rw.at _
 .unfold Wo;omega
def ag6(m:aH)(i:Ins):(eff m i).count=m.count/\(eff m i).ins.length<=m.ins.length/\(eff m i).outs.length<=m.outs.length+1:=by
 unfold eff
 repeat' split
 all_goals refine⟨rfl,?_,?_⟩
 all_goals first | exact Nat.le_refl _ | exact Nat.le_succ _ | (simp only [List.length_append,List.length_cons,List.length_nil];omega) | (simp only [List.length_drop];omega)
def mH{m:aH}(h:MOK m){i:Ins}(hi:dO i)(c:m.count<1000000):MOK (exec m i):=by
 unfold exec;split
 .exact {h with ha:=⟨show(0:Int)<=3 by decide,show(3:Int)<=4 by decide⟩}
 .have:=h.ct;exact {ame h hi with pc:=amw h hi,ct:=⟨show 0<=m.count+1 by omega,show m.count+1<=1000000 by omega⟩}
def ag7(m:aH)(i:Ins):(exec m i).ins.length<=m.ins.length/\(exec m i).outs.length<=m.outs.length+1:=by
 unfold exec;split
 .exact⟨Nat.le_refl _,Nat.le_succ _⟩
 .exact(ag6 m i).2
def M7{m:aH}(h:MOK m)(c:m.count<1000000)(b:Bool):MOK (stepM m b):=by
 have s:=adb h b;rw [Ga];split
 .exact {s with ha:=⟨show(0:Int)<=4 by decide,show(4:Int)<=4 by decide⟩}
 split
 .exact {s with ha:=⟨show(0:Int)<=2 by decide,show(2:Int)<=4 by decide⟩}
 .rename_i g;exact mH s (aQ.1 (by simpa using g)) (by rw [(Te m b).2.2];exact c)
def M8(m:aH)(b:Bool):(stepM m b).ins.length<=m.ins.length/\(stepM m b).outs.length<=m.outs.length+1:=by
 obtain⟨e1,e2,_⟩:=Te m b;rw [Ga];split
 .exact⟨by rw [<-e1];exact Nat.le_refl _,by rw [<-e2];exact Nat.le_succ _⟩
 split
 .exact⟨by rw [<-e1];exact Nat.le_refl _,by rw [<-e2];exact Nat.le_succ _⟩
 .rw [<-e1,<-e2];exact ag7 _ _
noncomputable def stS (m:aH) (b:Bool):aH:=if bp (MOK m)=true then(if m.halt≠0\/m.count=1000000 then m else stepM m b)else M5
structure auR(pp:Int×Unit->Bool)(ff:Int×Unit->Int×Int×Int×Int×Bool×Unit):Prop where
 hp:∀w,pp (w,())=true
 hf:∀w,ff (w,())=tkI w
def amx{p1 f1 p2 f2 p3 f3 p5 f5}(U1:auR p1 f1)(U2:ag1 p2 f2)(U3:amd p3 f3){p4:Int×Int×Bool×Bool×Int×List Int×Int×Ins×List Int×List Int×List Int×Unit->Bool}{f4:Int×Int×Bool×Bool×Int×List Int×Int×Ins×List Int×List Int×List Int×Unit->Int×Int×Bool×Bool×Int×List Int×Int×List Int×List Int×List Int×Unit}(hp4:∀(m:aH) (i:Ins),MOK m->dO i->m.ins.length<1000000000->m.outs.length<900000000->p4 (m.pc,m.save,m.cZ,m.waits,m.halt,m.ins,m.count,i,m.regs,m.mem,m.outs,())=true)(hf4:∀(m:aH) (i:Ins),MOK m->dO i->m.ins.length<1000000000->m.outs.length<900000000->f4 (m.pc,m.save,m.cZ,m.waits,m.halt,m.ins,m.count,i,m.regs,m.mem,m.outs,())=mB (exec m i))(U5:amj p5 f5){p6:Int×Int×Bool×Bool×Int×List Int×Int×Bool×List Int×List Int×List Int×Unit->Bool}{f6:Int×Int×Bool×Bool×Int×List Int×Int×Bool×List Int×List Int×List Int×Unit->Int×Int×Bool×Bool×Int×List Int×Int×List Int×List Int×List Int×Unit}(hp6:∀(m:aH) (b:Bool),p6 (m.pc,m.save,m.cZ,m.waits,m.halt,m.ins,m.count,b,m.regs,m.mem,m.outs,())=true)(hf6:∀(m:aH) (b:Bool),f6 (m.pc,m.save,m.cZ,m.waits,m.halt,m.ins,m.count,b,m.regs,m.mem,m.outs,())=mB (smp m b))(m:aH)(b:Bool)(h:MSh m)(ho:m.outs.length<900000000):RX.F (p1,f1,p2,f2,p3,f3,p4,f4,p5,f5,p6,f6,()) (m,b,()) (λy=>y=mB (stS m b)):=by
 have P6:=hp6 m b;have H6:=hf6 m b;dsimp only [RX,gm];simp (disch:=omega) only [RR,MRB,U1.hp,U1.hf,U2.hp m h,U2.hf m h,U3.hp m h,U3.hf m h,P6,H6];unfold stS;refine⟨λg=>by rw [if_neg (by rw [g];decide)];rfl,λg=> ?_⟩;have ok:=aQ.1 g;have s:=adb ok b;obtain⟨e1,e2,_⟩:=Te m b;have m64:=s.m64;have pw:0<=(smp m b).pc/\(smp m b).pc<=65535:=s.pc;have P5:=U5.hp (smp m b);have H5:=U5.hf (smp m b);rw [if_pos g];refine⟨λq=>by rw [if_pos q],λq=> ?_⟩;rw [if_neg ah,Ga];have wm:=s.mw.at (smp m b).pc;simp only [P5,H5];refine⟨λq=>⟨trivial,by rw [if_pos q]⟩,λq=>⟨ah,ah,ah,ah,?_⟩⟩;rw [if_neg ah];by_cases k:dO (sP (((smp m b).mem).getD ((smp m b).pc).toNat default))
 .have t:tkI (((smp m b).mem).getD ((smp m b).pc).toNat default)=((sP (((smp m b).mem).getD ((smp m b).pc).toNat default)).op,(sP (((smp m b).mem).getD ((smp m b).pc).toNat default)).d,(sP (((smp m b).mem).getD ((smp m b).pc).toNat default)).a,(sP (((smp m b).mem).getD ((smp m b).pc).toNat default)).k,true,()):=by unfold tkI;rw [aV ⟨wm,k⟩,if_pos rfl]
  rw [t,aV k,if_neg (by decide)];have P4:=hp4 (smp m b) _ s k (by rw [e1];exact h.2.2.1) (by rw [e2];exact ho);have H4:=hf4 (smp m b) _ s k (by rw [e1];exact h.2.2.1) (by rw [e2];exact ho);exact⟨λc=>(by cases c),λ_=>⟨P4,H4⟩⟩
 .have t:tkI (((smp m b).mem).getD ((smp m b).pc).toNat default)=(0,0,0,0,false,()):=by unfold tkI;rw [bP (λq=>k q.2),if_neg (by decide)]
  rw [t,bP k,if_pos rfl];exact⟨λ_=>⟨trivial,rfl⟩,λc=>(by cases c)⟩
noncomputable def Dx (q:List Int):Nat->aH->aH
 | 0,m=>m
 | k+1,m=>if m.halt=0/\m.count<1000000 then Dx q k (stepM m (bp (m.count∈q)))else m
def Wj(q:List Int):∀(k:Nat) {m:aH},MOK m->MOK (Dx q k m)
 | 0,m,h=>h
 | k+1,m,h=>by
  unfold Dx;split
  .rename_i c;exact Wj q k (M7 h c.2 _)
  .exact h
def Wm(q:List Int):∀(k:Nat) (m:aH),(Dx q k m).ins.length<=m.ins.length/\(Dx q k m).outs.length<=m.outs.length+k
 | 0,m=>⟨Nat.le_refl _,Nat.le_refl _⟩
 | k+1,m=>by
  unfold Dx;split
  .have a:=Wm q k (stepM m (bp (m.count∈q)));have b:=M8 m (bp (m.count∈q));omega
  .omega
noncomputable def pO (q:List Int) (n:Int) (m:aH):aH:=if bp (MOK m/\n<=400)=true then Dx q n.toNat m else M5
structure auS(pp:List Int×Int×Unit->Bool)(ff:List Int×Int×Unit->Bool×Unit):Prop where
 hp:∀l n,l.length<1000000000->pp (l,n,())=true
 hf:∀l n,l.length<1000000000->ff (l,n,())=(bp (n∈l),())
theorem amy{p1 f1 p3 f3 p4 f4}(U1:ag1 p1 f1){p2:aH×Bool×Unit->Bool}{f2:aH×Bool×Unit->Int×Int×Bool×Bool×Int×List Int×Int×List Int×List Int×List Int×Unit}(hp2:∀m b,MSh m->m.outs.length<900000000->p2 (m,b,())=true)(hf2:∀m b,MSh m->m.outs.length<900000000->f2 (m,b,())=mB (stS m b))(U3:amd p3 f3)(U4:auS p4 f4)(m:aH)(q:List Int)(n:Int)(h:MSh m)(hq:q.length<1000000000)(ho:m.outs.length<800000000):RZ.F (p1,f1,p2,f2,p3,f3,p4,f4,()) (m,q,n,()) (λy=>y=mB (pO q n m)):=by
 dsimp only [RZ,gm];simp (disch:=omega) only [RR,MRB,U1.hp m h,U1.hf m h,U3.hp m h,U3.hf m h];refine⟨λg=> ?_,λg=> ?_⟩
 .unfold pO;rw [lN,if_neg]
  .rfl
  .rcases g with g | g
   .rw [g];simp
   .rw [bP (show¬n<=400 by omega)];simp
 have ok:=aQ.1 g.1;have e:pO q n m=Dx q n.toNat m:=by unfold pO;rw [aV ⟨ok,ah⟩,if_pos rfl]
 rw [e];have n4:n<=400:=by omega
 refine ak (λ(y:List Int×Int×Int×Int×Int×Bool×Bool×Int×Int×Int×Int×Bool×Bool×Int×List Int×Int×List Int×List Int×List Int×Unit)=>∃(x:aH) (k:Nat),y.1=q/\y.2.1=n/\y.2.2.1=k/\k<=n.toNat/\y.2.2.2.2.2.2.2.2.2=mB x/\MOK x/\x.ins.length<=m.ins.length/\x.outs.length<=m.outs.length+k/\Dx q (n.toNat-k) x=Dx q n.toNat m) (λy=>(n-y.2.2.1).toNat)
  ⟨m,0,rfl,rfl,rfl,ah,rfl,ok,Nat.le_refl _,Nat.le_refl _,rfl⟩ ?_
 rintro⟨(q:List Int),(n:Int),(i:Int),u1,u2,u3,u4,u5,u6,v1,v2,v3,v4,v5,v6,v7,v8,v9,v10,⟨⟩⟩ ⟨x,k,hI⟩;dsimp only at hI ⊢;obtain⟨rfl,rfl,rfl,h1,h2,h3,h4,h5,h6⟩:=hI;simp only [Prod.mk.injEq,and_true]at h2;obtain⟨rfl,rfl,rfl,rfl,rfl,rfl,rfl,rfl,rfl,rfl⟩:=h2;have xs:MSh x:=⟨by rw [h3.r4];decide,by rw [h3.m64];decide,by have:=h.2.2.1;omega,ah⟩;have mK:Co.mk .gG (x.regs,x.pc,x.mem,x.save,x.cZ,x.waits,x.halt,x.ins,x.outs,x.count,())=x:=rfl;simp (disch:=omega) only [RR,mK,U4.hp _ _ hq,U4.hf _ _ hq,hp2 x _ xs ah,hf2 x _ xs ah];refine⟨λg=> ?_,λg=> ?_⟩
 .have e:stS x (bp (x.count∈q))=stepM x (bp (x.count∈q)):=by unfold stS;rw [aV h3,if_pos rfl,if_neg ah]
  rw [e];have l:=M8 x (bp (x.count∈q));refine⟨⟨stepM x (bp (x.count∈q)),k+1,rfl,ah,rfl,M7 h3 ah _,ah,ah,?_⟩,ah⟩;rw [<-h6,show n.toNat-k=(n.toNat- (k+1))+1 by omega]
  conv=>rhs;unfold Dx
  rw [if_pos ah]
 .rw [<-h6];by_cases c:(k:Int)<n
  .rw [show n.toNat-k=(n.toNat- (k+1))+1 by omega];unfold Dx;rw [if_neg (λz=>by rw [decide_eq_true c,decide_eq_true z.1,decide_eq_true z.2]at g;cases g)]
  .rw [show n.toNat-k=0 by omega];rfl
def amA{p1 f1}(U1:Y38 p1 f1)(b:List Int)(p:Int)(hb:Bt b)(h1:0<=p)(h2:p<900000000):R3.F (p1,f1,()) (b,p,()) (λ(y:List Int×Int×List Int×Unit)=>y.1=b/\p<=y.2.1/\y.2.1<=p+10/\y.2.2.1.length<=5):=by
 obtain⟨a1,a2,a3,a4⟩:=U1.hf 5 b p hb h1 ah;dsimp only [R3,gm];simp (disch:=omega) only [RR,U1.hp 5 b p hb h1 ah,a1,a2,List.length_nil];refine ak (λ(y:Int×List Int×Int×List Int×Unit)=>0<=y.1/\y.1<=5/\y.2.1=b/\p<=y.2.2.1/\y.2.2.1+y.1<=p+6/\(y.2.2.2.1.length:Int)+y.1<=5) (λy=>y.1.toNat) ⟨a3,by dsimp only;omega,rfl,by dsimp only;omega,by dsimp only;omega,by dsimp only [List.length_nil];omega⟩ ?_;rintro⟨(k:Int),(b':List Int),(q:Int),(l:List Int),⟨⟩⟩ hI;dsimp only at hI ⊢;obtain⟨k1,k2,rfl,k3,k4,k5⟩:=hI;obtain⟨c1,c2,_,_⟩:=U1.hf 50 b' q hb ah ah;simp (disch:=omega) only [RR,U1.hp 50 b' q hb ah ah,c1,c2,List.length_cons,List.length_nil,List.length_append];exact⟨λg=>⟨ah,⟨ah,ah,ah,ah,ah⟩,ah⟩,λg=>⟨ah,ah,ah⟩⟩
def amB{p1 f1}(U1:Y38 p1 f1)(t:Int)(b:List Int)(p:Int)(hb:Bt b)(t0:0<=t/\t<=1000)(h1:0<=p)(h2:p<900000000):Rx.F (p1,f1,()) (t,b,p,()) (λ(y:List Int×Int×List Ins×Unit)=>y.1=b/\p<=y.2.1/\y.2.1<=p+500/\y.2.2.1.length<=10):=by
 have R:=pkR hb U1.hf;have P:=λn p h1 h2=>U1.hp n b p hb h1 h2
 dsimp only [Rx,gm];simp (disch:=omega) only [RR,R,P,List.length_cons,List.length_nil];exact⟨ah,ah,ah⟩
def amC{p1 f1 p2 f2}(U1:Y71 p1 f1)(U2:Y38 p2 f2)(t:Int)(b:List Int)(p:Int)(hb:Bt b)(t0:0<=t/\t<=1000)(h1:0<=p)(h2:p<700000000):Rw.F (p1,f1,p2,f2,()) (t,b,p,()) (λ(y:List Int×Int×List Ins×Unit)=>y.1=b/\p<=y.2.1/\y.2.1<=p+500/\y.2.2.1.length<=10):=by
 have R:=pkR hb U2.hf;have P:=λn p h1 h2=>U2.hp n b p hb h1 h2
 obtain⟨_,_,a3,a4⟩:=U2.hf 4 b (p+1+1) hb ah ah;dsimp only [Rw,gm];simp (disch:=omega) only [RR,R,P,List.length_cons,List.length_nil,List.length_append];refine ak (λ(y:Int×Int×List Int×Int×List Ins×Unit)=>0<=y.2.1/\y.2.1<=4/\y.2.2.1=b/\p<=y.2.2.2.1/\y.2.2.2.1+50*y.2.1<=p+300/\(y.2.2.2.2.1.length:Int)+y.2.1<=7) (λy=>y.2.1.toNat) ⟨a3,by dsimp only;omega,rfl,by dsimp only;omega,by dsimp only;omega,by dsimp only [List.length_cons,List.length_nil];omega⟩ ?_;rintro⟨(t:Int),(k:Int),(b':List Int),(q:Int),(l:List Ins),⟨⟩⟩ hI;dsimp only at hI ⊢;obtain⟨k1,k2,rfl,k3,k4,k5⟩:=hI;obtain⟨c1,c2,c3,c4⟩:=U1.hf b' q hb ah ah;simp (disch:=omega) only [RR,U1.hp b' q hb ah ah,c1,List.length_cons,List.length_nil,List.length_append];refine⟨λg=>⟨λ_=>⟨ah,⟨ah,ah,ah,ah,ah⟩,ah⟩,λ_=>⟨ah,⟨ah,ah,ah,ah,ah⟩,ah⟩⟩,λg=>⟨ah,ah,ah,ah⟩⟩
structure ImD(b:List Int)(p:Int)(y:List Int×Int×List Int×Unit):Prop where
 b:y.1=b
 lo:p<=y.2.1
 hi:y.2.1<=p+8000
 len:y.2.2.1.length<=64
 w:Wos y.2.2.1
structure auT(pp:List Ins×Unit->Bool)(ff:List Ins×Unit->List Int×Unit):Prop where
 hp:∀l,l.length<1000000->pp (l,())=true
 hf:∀l,l.length<1000000->ff (l,())=(l.map F9,())
def amD{p1 f1 p2 f2 p4 f4 p5 f5 p7 f7 p8 f8 p9 f9}(U1:auT p1 f1)(U2:arP p2 f2){p3:Int×List Int×Int×Unit->Bool}{f3:Int×List Int×Int×Unit->List Int×Int×List Ins×Unit}(hp3:∀t b p,Bt b->(0<=t/\t<=1000)->0<=p->p<700000000->p3 (t,b,p,())=true)(hf3:∀t b p,Bt b->(0<=t/\t<=1000)->0<=p->p<700000000->(f3 (t,b,p,())).1=b/\p<=(f3 (t,b,p,())).2.1/\(f3 (t,b,p,())).2.1<=p+500/\(f3 (t,b,p,())).2.2.1.length<=10)(U4:Y71 p4 f4)(U5:Y70 p5 f5){p6:Int×List Int×Int×Unit->Bool}{f6:Int×List Int×Int×Unit->List Int×Int×List Ins×Unit}(hp6:∀t b p,Bt b->(0<=t/\t<=1000)->0<=p->p<900000000->p6 (t,b,p,())=true)(hf6:∀t b p,Bt b->(0<=t/\t<=1000)->0<=p->p<900000000->(f6 (t,b,p,())).1=b/\p<=(f6 (t,b,p,())).2.1/\(f6 (t,b,p,())).2.1<=p+500/\(f6 (t,b,p,())).2.2.1.length<=10)(U7:Y39 p7 f7)(U8:Y38 p8 f8)(U9:Y40 p9 f9)(b:List Int)(p:Int)(hb:Bt b)(h1:0<=p)(h2:p<600000000):Ry.F (p1,f1,p2,f2,p3,f3,p4,f4,p5,f5,p6,f6,p7,f7,p8,f8,p9,f9,()) (b,p,()) (λy=>ImD b p y):=by
 have R:=pkR hb U8.hf;have P:=λn p h1 h2=>U8.hp n b p hb h1 h2
 obtain⟨_,_,a3,a4⟩:=U8.hf 5 b (p+1) hb ah ah;dsimp only [Ry,gm];simp (disch:=omega) only [RR,R,P,List.length_cons,List.length_nil,List.length_append];refine⟨λ_=>⟨ah,?_⟩,λ_=> ?_⟩
 all_goals refine ak (λ(y:Int×List Int×Int×List Ins×Unit)=>0<=y.1/\y.1<=5/\y.2.1=b/\p<=y.2.2.1/\y.2.2.1+550*y.1<=p+2800/\(y.2.2.2.1.length:Int)<=44) (λy=>y.1.toNat) ⟨by dsimp only;omega,by dsimp only;omega,rfl,by dsimp only;omega,by dsimp only;omega,by simp⟩ ?_
 all_goals
  rintro⟨(k:Int),(b':List Int),(q:Int),(l:List Ins),⟨⟩⟩ hI;dsimp only at hI ⊢;obtain⟨k1,k2,rfl,k3,k4,k5⟩:=hI;obtain⟨_,_,d3,d4⟩:=U8.hf 8 b' (q+1) hb ah ah;simp (disch:=omega) only [RR,R,P,List.length_cons,List.length_nil,List.length_append];refine⟨λg=>⟨λ_=> ?_,λ_=>⟨λ_=> ?_,λ_=> ?_⟩⟩,λg=>⟨ah,U1.hp _ (by simp;omega),?_⟩⟩
  .obtain⟨z1,z2,z3,z4⟩:=hf3 l.length b' (q+1) hb ah ah ah;exact⟨hp3 l.length b' (q+1) hb ah ah ah,ah,⟨ah,ah,z1,ah,ah,ah⟩,ah⟩
  .obtain⟨z1,z2,z3,z4⟩:=hf6 l.length b' (q+1) hb ah ah ah;exact⟨hp6 l.length b' (q+1) hb ah ah ah,ah,⟨ah,ah,z1,ah,ah,ah⟩,ah⟩
  .refine ak (λ(y:Int×Int×List Int×Int×List Ins×Unit)=>y.1=k/\0<=y.2.1/\y.2.1<=8/\y.2.2.1=b'/\q<=y.2.2.2.1/\y.2.2.2.1+30*y.2.1<=q+300/\(y.2.2.2.2.1.length:Int)+y.2.1<=42) (λy=>y.2.1.toNat) ⟨rfl,by dsimp only;omega,by dsimp only;omega,rfl,by dsimp only;omega,by dsimp only;omega,by dsimp only;omega⟩ ?_;rintro⟨(k:Int),(j:Int),(b'':List Int),(q':Int),(l':List Ins),⟨⟩⟩ hI;dsimp only at hI ⊢;obtain⟨rfl,j1,j2,rfl,j3,j4,j5⟩:=hI;obtain⟨c1,c2,c3,_⟩:=U5.hf b'' q' hb ah ah;simp (disch:=omega) only [RR,U5.hp b'' q' hb ah ah,c1,List.length_cons,List.length_nil,List.length_append];exact⟨λ_=>⟨ah,⟨ah,ah,ah,ah,ah⟩,ah⟩,λ_=>⟨⟨ah,ah,ah,ah,ah⟩,ah⟩⟩
  .rw [U1.hf _ (by simp;omega)];have ww:∀l:List Ins,Wos (l.map F9):=λl x hx=>by obtain⟨i,_,rfl⟩:=List.mem_map.1 hx;exact Ak i
   refine ak (λ(y:List Int×Int×List Int×Unit)=>y.1=b'/\q<=y.2.1/\y.2.1<=q+40*y.2.2.1.length/\y.2.2.1.length<=48/\Wos y.2.2.1) (λy=>48-y.2.2.1.length) ⟨rfl,by dsimp only;omega,by dsimp only;omega,by simp;omega,ww _⟩ ?_;rintro⟨(b'':List Int),(r:Int),(o:List Int),⟨⟩⟩ hI;dsimp only at hI ⊢;obtain⟨rfl,j1,j2,j3,j4⟩:=hI;obtain⟨e1,e2,e3,e4⟩:=U9.hf b'' r hb ah ah;obtain⟨c1,c2,c3,_⟩:=U5.hf b'' (f9 (b'',r,())).2.2.1 hb ah ah;have p5':=U5.hp b'' (f9 (b'',r,())).2.2.1 hb ah ah;obtain⟨_,_,g3,g4⟩:=U8.hf 4 b'' r hb ah ah;simp (disch:=omega) only [RR,R,P,U9.hp b'' r hb ah ah,e1,p5',c1,U2.hp,U2.hf,List.length_cons,List.length_nil,List.length_append,qO];refine⟨λ_=>⟨ah,⟨ah,ah,ah,j4.snoc (Wos.at (amu (amu (amu (λ_ h=>(by cases h)) (Ak _)) e4) wo0) _)⟩,ah⟩,λ_=>⟨ah,ah,ah,ah,ah,?_⟩⟩;refine ak (λ(y:Int×List Int×Int×List Int×Unit)=>0<=y.1/\y.1<=4/\y.2.1=b''/\r<=y.2.2.1/\y.2.2.1+50*y.1<=r+300/\(y.2.2.2.1.length:Int)+y.1<=52/\Wos y.2.2.2.1) (λy=>y.1.toNat) ⟨g3,by dsimp only;omega,rfl,by dsimp only;omega,by dsimp only;omega,by simp only [List.length_drop,List.length_take];omega,λx hx=>j4 x (List.mem_of_mem_take (List.mem_of_mem_drop hx))⟩ ?_;rintro⟨(m:Int),(b3:List Int),(t:Int),(u:List Int),⟨⟩⟩ hI;dsimp only at hI ⊢;obtain⟨m1,m2,rfl,m3,m4,m5,m6⟩:=hI;obtain⟨c1,c2,c3,_⟩:=U4.hf b3 t hb ah ah;obtain⟨o1,o2⟩:=U7.hf 9 b3 t hb ah ah;have OP:=U7.hp 9 b3 t hb ah ah;obtain⟨_,_,n3,n4⟩:=U8.hf (u.length+2) b3 (t+1) hb ah ah;obtain⟨e1,e2,e3,e4⟩:=U9.hf b3 (t+1+1) hb ah ah;have W9:=U9.hp b3 (t+1+1) hb ah ah;simp (disch:=omega) only [RR,R,P,U4.hp b3 t hb ah ah,c1,U2.hp,U2.hf,OP,o1,o2,W9,e1,List.length_cons,List.length_nil,List.length_append,qO];have w2:Wos (u++ [F9 (Co.mk .ins (14,3,0,0,())),F9 (Co.mk .ins (0,0,0,1,()))]):=by
    rw [show∀x y:Int,u++ [x,y]=(u++ [x])++ [y] by simp];exact(m6.snoc (Ak _)).snoc (Ak _)
   refine⟨λ_=>⟨ah,⟨ah,ah,ah,ah,ah,m6.snoc (Ak _)⟩,ah⟩,λ_=>⟨ah,λ_=>⟨rfl,?_,?_,?_,w2.set e4 _⟩,λ_=>⟨rfl,?_,?_,?_,w2⟩⟩⟩
   .dsimp only;omega
   .dsimp only;omega
   .dsimp only;rw [List.length_set,List.length_append,List.length_cons,List.length_cons,List.length_nil];omega
   .dsimp only;omega
   .dsimp only;omega
   .dsimp only;rw [List.length_append,List.length_cons,List.length_cons,List.length_nil];omega
abbrev YMc:=Int×Int×Bool×Bool×Int×List Int×Int×List Int×Int×List Int×List Int×List Int×Unit
abbrev mE(y : YMc) : aH := ⟨y.2.2.2.2.2.2.2.2.2.1, y.1, y.2.2.2.2.2.2.2.2.2.2.1, y.2.1, y.2.2.1, y.2.2.2.1, y.2.2.2.2.1, y.2.2.2.2.2.1, y.2.2.2.2.2.2.2.2.2.2.2.1, y.2.2.2.2.2.2.1⟩
structure McD(b:List Int)(p:Int)(y:YMc):Prop where
 b:y.2.2.2.2.2.2.2.1=b
 lo:p<=y.2.2.2.2.2.2.2.2.1
 hi:y.2.2.2.2.2.2.2.2.1<=p+9500
 ok:MOK (mE y)
 i:(mE y).ins.length<=10
 o:(mE y).outs.length<=100
def arQ{X:aH}(h:MOK X){r:List Int}{pc ha:Int}{l w:Bool}(h1:Wo pc)(h2:0<=ha/\ha<=4)(h3:r.length=4)(h4:Wos r):MOK ⟨r,pc,X.mem,X.save,l,w,ha,X.ins,X.outs,X.count⟩:=
 {h with r4:=h3,rw:=h4,pc:=h1,ha:=h2}
def amE{p5 f5 p6 f6}{p1:List Int×List Int×Unit->Bool}{f1:List Int×List Int×Unit->Int×Int×Bool×Bool×Int×Int×List Int×List Int×List Int×Unit}(hp1:∀w i,w.length<1000000->i.length<1000000->p1 (w,i,())=true)(hf1:∀w i,w.length<1000000->i.length<1000000->f1 (w,i,())=((kg w i).pc,(kg w i).save,(kg w i).cZ,(kg w i).waits,(kg w i).halt,(kg w i).count,(kg w i).regs,(kg w i).mem,(kg w i).ins,())){p2:aH×List Int×Int×Unit->Bool}{f2:aH×List Int×Int×Unit->Int×Int×Bool×Bool×Int×List Int×Int×List Int×List Int×List Int×Unit}(hp2:∀m q n,MSh m->q.length<1000000000->m.outs.length<800000000->p2 (m,q,n,())=true)(hf2:∀m q n,MSh m->q.length<1000000000->m.outs.length<800000000->f2 (m,q,n,())=mB (pO q n m)){p3:List Int×Int×Unit->Bool}{f3:List Int×Int×Unit->List Int×Int×List Int×Unit}(hp3:∀b p,Bt b->0<=p->p<600000000->p3 (b,p,())=true)(hf3:∀b p,Bt b->0<=p->p<600000000->ImD b p (f3 (b,p,()))){p4:List Int×Int×Unit->Bool}{f4:List Int×Int×Unit->List Int×Int×List Int×Unit}(hp4:∀b p,Bt b->0<=p->p<900000000->p4 (b,p,())=true)(hf4:∀b p,Bt b->0<=p->p<900000000->(f4 (b,p,())).1=b/\p<=(f4 (b,p,())).2.1/\(f4 (b,p,())).2.1<=p+10/\(f4 (b,p,())).2.2.1.length<=5)(U5:Y39 p5 f5)(U6:Y38 p6 f6){p7:Int×List Int×Int×Unit->Bool}{f7:Int×List Int×Int×Unit->List Int×Int×List Int×Unit}(hp7:∀n b p,Bt b->(0<=n/\n<=100)->0<=p->p<800000000->p7 (n,b,p,())=true)(hf7:∀n b p,Bt b->(0<=n/\n<=100)->0<=p->p<800000000->(f7 (n,b,p,())).1=b/\p<=(f7 (n,b,p,())).2.1/\(f7 (n,b,p,())).2.1<=p+300/\(f7 (n,b,p,())).2.2.1.length=n/\wOK (f7 (n,b,p,())).2.2.1)(b:List Int)(p:Int)(hb:Bt b)(h1:0<=p)(h2:p<500000000):R4.F (p1,f1,p2,f2,p3,f3,p4,f4,p5,f5,p6,f6,p7,f7,()) (b,p,()) (λy=>McD b p y):=by
 obtain⟨i1,i2,i3,i4,i5⟩:=hf3 b p hb h1 ah;have P3:=hp3 b p hb h1 ah;generalize hy:f3 (b,p,())=y at i1 i2 i3 i4 i5;obtain⟨b',q0,w,⟨⟩⟩:=y;dsimp only at i1 i2 i3 i4 i5;subst i1;have R:=pkR hb U6.hf;have P:=λn p h1 h2=>U6.hp n b' p hb h1 h2
 obtain⟨_,_,a3,a4⟩:=U6.hf 5 b' q0 hb ah ah;obtain⟨w1,w2,w3,w4,w5⟩:=hf7 (f6 (5,b',q0,())).1 b' (q0+1) hb ah ah ah;have P7:=hp7 (f6 (5,b',q0,())).1 b' (q0+1) hb ah ah ah;generalize hz:f7 ((f6 (5,b',q0,())).1,b',q0+1,())=z at w1 w2 w3 w4 w5;obtain⟨b2,q1,is,⟨⟩⟩:=z;dsimp only at w1 w2 w3 w4 w5;subst w1;have P1:=hp1 w is ah ah;have H1:=hf1 w is ah ah;have ok:=ag5 i4 i5 w5;have oe:(kg w is).outs=[]:=by unfold kg;split<;>rfl
 have ie:(kg w is).ins.length<=10:=by unfold kg;split;(dsimp only;omega);exact Nat.zero_le _
 generalize kg w is=M at P1 H1 ok oe ie;have mK:Co.mk .gG (M.regs,M.pc,M.mem,M.save,M.cZ,M.waits,M.halt,M.ins,[],M.count,())=M:=by cases M;dsimp only at oe;subst oe;rfl
 have P4:=hp4 b2 q1 hb ah ah;obtain⟨q1',q2',q3',q4'⟩:=hf4 b2 q1 hb ah ah;generalize hr:f4 (b2,q1,())=r at q1' q2' q3' q4';obtain⟨b3,q2,qs,⟨⟩⟩:=r;dsimp only at q1' q2' q3' q4';subst q1';have ms:MSh M:=⟨by rw [ok.r4];decide,by rw [ok.m64];decide,ah,by rw [oe];decide⟩;obtain⟨_,_,n3,n4⟩:=U6.hf 40 b3 q2 hb ah ah;have P2:=hp2 M qs (f6 (40,b3,q2,())).1 ms ah (by rw [oe];decide);have H2:=hf2 M qs (f6 (40,b3,q2,())).1 ms ah (by rw [oe];decide);have hX:MOK (pO qs (f6 (40,b3,q2,())).1 M):=by unfold pO;rw [aV ⟨ok,ah⟩,if_pos rfl];exact Wj _ _ ok
 have lX:(pO qs (f6 (40,b3,q2,())).1 M).ins.length<=10/\(pO qs (f6 (40,b3,q2,())).1 M).outs.length<=100:=by
  unfold pO;rw [aV ⟨ok,ah⟩,if_pos rfl];have:=Wm qs (f6 (40,b3,q2,())).1.toNat M;rw [oe]at this;simp only [List.length_nil]at this;omega
 generalize pO qs (f6 (40,b3,q2,())).1 M=X at P2 H2 hX lX;obtain⟨v1,v2,v3,v4,v5⟩:=hf7 4 b3 (q2+1+1) hb ah ah ah;have P7':=hp7 4 b3 (q2+1+1) hb ah ah ah;generalize hv:f7 (4,b3,q2+1+1,())=v at v1 v2 v3 v4 v5;obtain⟨b4,q3,vs,⟨⟩⟩:=v;dsimp only at v1 v2 v3 v4 v5;subst v1;have O:=λn p h1 h2=>(U5.hf n b4 p hb h1 h2).1
 have O':=λn p h1 h2=>(U5.hf n b4 p hb h1 h2).2
 have OP:=λn p h1 h2=>U5.hp n b4 p hb h1 h2
 dsimp only [R4,gm];simp (disch:=omega) only [RR,P3,hy,R,P,P7,hz,P1,H1,mK,P4,hr,P2,H2,P7',hv,O,O',OP];have pk:∀t:Int,0<=t->t<1000000000->Wo (f6 (66,b4,t,())).1:=λt h1 h2=>by obtain⟨_,_,c3,c4⟩:=U6.hf 66 b4 t hb h1 h2;unfold Wo;omega
 have v4':vs.length=4:=by omega
 repeat' (first | (refine⟨?_,?_⟩) | intro _)
 all_goals first | omega | (refine⟨rfl,by dsimp only;omega,by dsimp only;omega,arQ hX (by first | exact hX.pc | exact pk _ ah ah) (by first | exact hX.ha | exact⟨show(0:Int)<=0 by decide,show(0:Int)<=4 by decide⟩) (by first | exact hX.r4 | exact v4') (by first | exact hX.rw | exact v5),lX.1,lX.2⟩)
abbrev YMo:=Int×List Int×Int×Bool×Bool×Int×List Int×Int×List Int×Int×List Int×List Int×Unit
structure MoD(b:List Int)(p:Int)(y:YMo):Prop where
 b:y.2.2.2.2.2.2.2.2.1=b
 lo:p<=y.2.2.2.2.2.2.2.2.2.1
 hi:y.2.2.2.2.2.2.2.2.2.1<=p+9600
 r:y.2.2.2.2.2.2.2.2.2.2.1.length<=10
 m:y.2.1.length<=64
 i:y.2.2.2.2.2.2.1.length<=10
 o:y.2.2.2.2.2.2.2.2.2.2.2.1.length<=110
structure arR(pp:List Int×Int×Unit->Bool)(ff:List Int×Int×Unit->YMc):Prop where
 hp:∀b p,Bt b->0<=p->p<500000000->pp (b,p,())=true
 hf:∀b p,Bt b->0<=p->p<500000000->McD b p (ff (b,p,()))
def amF{p1 f1 p2 f2 p3 f3}(U1:arR p1 f1)(U2:Y39 p2 f2)(U3:Y38 p3 f3)(n:Int)(b:List Int)(p:Int)(hb:Bt b)(h1:0<=p)(h2:p<400000000):R7.F (p1,f1,p2,f2,p3,f3,()) (n,b,p,()) (λy=>MoD b p y):=by
 obtain⟨i1,i2,i3,i4,i5,i6⟩:=U1.hf b p hb h1 ah;have P1:=U1.hp b p hb h1 ah;generalize hy:f1 (b,p,())=y at i1 i2 i3 i4 i5 i6;obtain⟨pc,sv,lt,wt,ha,ins,ct,b',q,regs,mem,outs,⟨⟩⟩:=y;have r4:=i4.r4;have m6:=i4.m64;dsimp only at i1 i2 i3 i5 i6 r4 m6;subst i1;have R:=pkR hb U3.hf;have P:=λn p h1 h2=>U3.hp n b' p hb h1 h2
 obtain⟨O,O'⟩:=U2.hf n b' q hb ah ah;have OP:=U2.hp n b' q hb ah ah;dsimp only [R7,gm];simp (disch:=omega) only [RR,P1,hy,R,P,O,O',OP,List.length_cons,List.length_nil];have tl:∀n:Nat,(List.drop (Int.toNat 1) (List.take n mem)).length<=64:=λn=>by rw [List.length_drop,List.length_take];omega
 repeat' (first | (refine⟨?_,?_⟩) | intro _)
 all_goals first | omega | (refine⟨rfl,by dsimp only;omega,by dsimp only;omega,?_,?_,by dsimp only;omega,?_⟩<;>first | (dsimp only;omega) | exact tl _ | (dsimp only;simp only [List.length_append,List.length_set,List.length_cons,List.length_nil];omega))
structure MaD(b:List Int)(p:Int)(y:YMc):Prop where
 b:y.2.2.2.2.2.2.2.1=b
 lo:p<=y.2.2.2.2.2.2.2.2.1
 hi:y.2.2.2.2.2.2.2.2.1<=p+9700
 r:(mE y).regs.length=4
 m:(mE y).mem.length=64
 i:(mE y).ins.length<=10
 o:(mE y).outs.length<=100
def amG{p1 f1 p2 f2}(U1:arR p1 f1)(U2:Y38 p2 f2)(c:Blk)(b:List Int)(p:Int)(hb:Bt b)(h1:0<=p)(h2:p<400000000):R5.F (p1,f1,p2,f2,()) (c,b,p,()) (λy=>MaD b p y):=by
 obtain⟨i1,i2,i3,i4,i5,i6⟩:=U1.hf b p hb h1 ah;have P1:=U1.hp b p hb h1 ah;generalize hy:f1 (b,p,())=y at i1 i2 i3 i4 i5 i6;obtain⟨pc,sv,lt,wt,ha,ins,ct,b',q,regs,mem,outs,⟨⟩⟩:=y;have r4:=i4.r4;have m6:=i4.m64;dsimp only at i1 i2 i3 i5 i6 r4 m6;subst i1;dsimp only [R5,gm];simp (disch:=omega) only [RR,P1,hy];refine ak (λ(y:Int×List Int×Int×Blk×Int×Int×Bool×Bool×Int×Int×Int×Int×Bool×Bool×Int×List Int×Int×List Int×List Int×List Int×Unit)=>0<=y.1/\y.1<=4/\y.2.1=b'/\q<=y.2.2.1/\y.2.2.1<=q+3*y.1/\y.2.2.2.2.2.2.2.2.2.2.2.2.2.2.2.1.length<=10/\y.2.2.2.2.2.2.2.2.2.2.2.2.2.2.2.2.2.1.length=4/\y.2.2.2.2.2.2.2.2.2.2.2.2.2.2.2.2.2.2.1.length=64/\y.2.2.2.2.2.2.2.2.2.2.2.2.2.2.2.2.2.2.2.1.length<=100) (λy=>(4-y.1).toNat) ⟨by dsimp only;omega,by dsimp only;omega,rfl,by dsimp only;omega,by dsimp only;omega,i5,r4,m6,i6⟩ ?_;rintro⟨(k:Int),(b2:List Int),(t:Int),(c:Blk),u1,u2,u3,u4,u5,u6,v1,v2,v3,v4,v5,(v6:List Int),v7,(r:List Int),(m:List Int),(o:List Int),⟨⟩⟩ hI;dsimp only at hI ⊢;obtain⟨k1,k2,rfl,k3,k4,k5,k6,k7,k8⟩:=hI;have R:=pkR hb U2.hf;have P:=λn p h1 h2=>U2.hp n b2 p hb h1 h2
 simp (disch:=omega) only [RR,R,P,List.length_cons,List.length_nil,List.length_set,k6];refine⟨λg=>⟨λ_=> ?_,λ_=> ?_⟩,λg=>⟨rfl,by dsimp only;omega,by dsimp only;omega,k6,k7,k5,k8⟩⟩
 .repeat' (first | (refine⟨?_,?_⟩) | intro _)
  all_goals omega
 .repeat' (first | (refine⟨?_,?_⟩) | intro _)
  all_goals omega
def wZ(a1 a2 a3 a4 a5 a6:Int)(o:IOp)(ops:List IOp)(h:ops.length<1000000):PX.F () (a1,a2,a3,a4,a5,a6,o,ops,()) (λy=>y=(a1,a2,a3,a4,a5,a6,(ops.length:Int),ops++ [o],())):=by
 dsimp only [PX,gm];simp (disch:=omega) only [RR,List.length_append,List.length_cons,List.length_nil];rw [show((ops.length+(0+1):Nat):Int)-1=ops.length by omega];exact⟨ah,rfl⟩
structure ade(pp:Int×Int×Int×Int×Int×Int×IOp×List IOp×Unit->Bool)(ff:Int×Int×Int×Int×Int×Int×IOp×List IOp×Unit->Int×Int×Int×Int×Int×Int×Int×List IOp×Unit):Prop where
 hp:∀(a1 a2 a3 a4 a5 a6:Int) (o:IOp) (ops:List IOp),ops.length<1000000->pp (a1,a2,a3,a4,a5,a6,o,ops,())=true
 hf:∀(a1 a2 a3 a4 a5 a6:Int) (o:IOp) (ops:List IOp),ops.length<1000000->ff (a1,a2,a3,a4,a5,a6,o,ops,())=(a1,a2,a3,a4,a5,a6,(ops.length:Int),ops++ [o],())
def w9{p1 f1}(U1:ade p1 f1)(a1 a2 a3 a4 a5 a6 k:Int)(ops:List IOp)(h:ops.length<1000000):PZ.F (p1,f1,()) (a1,a2,a3,a4,a5,a6,k,ops,()) (λy=>y=(a1,a2,a3,a4,a5,a6,(ops.length:Int),ops++ [⟨2,0,0,k,0⟩],())):=by
 dsimp only [PZ,gm];simp (disch:=omega) only [RR,U1.hp,U1.hf,h];rfl
def xg{p1 f1}(U1:ade p1 f1)(a1 a2 a3 a4 a5 a6 k x:Int)(ops:List IOp)(h:ops.length<1000000):PY.F (p1,f1,()) (a1,a2,a3,a4,a5,a6,k,x,ops,()) (λy=>y=(a1,a2,a3,a4,a5,a6,ops++ [⟨8,x,0,k,0⟩],())):=by
 dsimp only [PY,gm];simp (disch:=omega) only [RR,U1.hp,U1.hf,h];rfl
def n1a(l:List IOp)(o:IOp):((l++ [o]).length:Int)=l.length+1:=by rw [List.length_append];rfl
structure ag8(pp:Int×Int×Int×Int×Int×Int×Int×List IOp×Unit->Bool)(ff:Int×Int×Int×Int×Int×Int×Int×List IOp×Unit->Int×Int×Int×Int×Int×Int×Int×List IOp×Unit):Prop where
 hp:∀(a1 a2 a3 a4 a5 a6 k:Int) (ops:List IOp),ops.length<1000000->pp (a1,a2,a3,a4,a5,a6,k,ops,())=true
 hf:∀(a1 a2 a3 a4 a5 a6 k:Int) (ops:List IOp),ops.length<1000000->ff (a1,a2,a3,a4,a5,a6,k,ops,())=(a1,a2,a3,a4,a5,a6,(ops.length:Int),ops++ [⟨2,0,0,k,0⟩],())
def Ci{p1 f1 p2 f2}(U1:ag8 p1 f1)(U2:ade p2 f2)(a1 a2 a3 a4 a5 a6 k a:Int)(o:IOp)(ops:List IOp)(h:ops.length<990000):P8.F (p1,f1,p2,f2,()) (a1,a2,a3,a4,a5,a6,k,a,o,ops,()) (λy=>y=(a1,a2,a3,a4,a5,a6,(ops.length:Int)+2,ops++ [⟨2,0,0,a,0⟩,o,⟨3,ops.length,ops.length+1,k,0⟩],())):=by
 have m1:∀(l:List IOp) (o:IOp),l.length<990000->(l++ [o]).length<1000000:=λl o h=>by rw [List.length_append];simp only [List.length_cons,List.length_nil];omega
 have m2:∀(l:List IOp) (o o2:IOp),l.length<990000->((l++ [o])++ [o2]).length<1000000:=λl o o2 h=>by simp only [List.length_append,List.length_cons,List.length_nil];omega
 dsimp only [P8,gm];simp (disch:=first | omega | (apply m1;omega) | (apply m2;omega)) only [RR,U1.hp,U1.hf,U2.hp,U2.hf,n1a];simp;rfl
structure arS(pp:Int×Int×Int×Int×Int×Int×Int×Int×IOp×List IOp×Unit->Bool)(ff:Int×Int×Int×Int×Int×Int×Int×Int×IOp×List IOp×Unit->Int×Int×Int×Int×Int×Int×Int×List IOp×Unit):Prop where
 hp:∀(a1 a2 a3 a4 a5 a6 k a:Int) (o:IOp) (ops:List IOp),ops.length<990000->pp (a1,a2,a3,a4,a5,a6,k,a,o,ops,())=true
 hf:∀(a1 a2 a3 a4 a5 a6 k a:Int) (o:IOp) (ops:List IOp),ops.length<990000->ff (a1,a2,a3,a4,a5,a6,k,a,o,ops,())=(a1,a2,a3,a4,a5,a6,(ops.length:Int)+2,ops++ [⟨2,0,0,a,0⟩,o,⟨3,ops.length,ops.length+1,k,0⟩],())
structure arT(pp:Int×Int×Int×Int×Int×Int×Int×Int×List IOp×Unit->Bool)(ff:Int×Int×Int×Int×Int×Int×Int×Int×List IOp×Unit->Int×Int×Int×Int×Int×Int×List IOp×Unit):Prop where
 hp:∀(a1 a2 a3 a4 a5 a6 k x:Int) (ops:List IOp),ops.length<1000000->pp (a1,a2,a3,a4,a5,a6,k,x,ops,())=true
 hf:∀(a1 a2 a3 a4 a5 a6 k x:Int) (ops:List IOp),ops.length<1000000->ff (a1,a2,a3,a4,a5,a6,k,x,ops,())=(a1,a2,a3,a4,a5,a6,ops++ [⟨8,x,0,k,0⟩],())
def Dy{p1 f1 p2 f2 p3 f3 p4 f4}(U1:ag8 p1 f1)(U2:ade p2 f2)(U3:arS p3 f3)(U4:arT p4 f4)(a1 a2 a3 a4 a5 a6:Int)(i:Ins)(n:Int)(ops:List IOp)(hi:i.op=9\/i.op=10)(h:ops.length<950000):Qa.F (p1,f1,p2,f2,p3,f3,p4,f4,()) (a1,a2,a3,a4,a5,a6,i,n,ops,()) (λy=>y=(a1,a2,a3,a4,a5,a6,ops++gq n ops.length i,())):=by
 have m3:∀(l:List IOp) (o1 o2 o3:IOp),l.length<950000->(l++ [o1,o2,o3]).length<1000000:=λl o1 o2 o3 h=>by simp only [List.length_append,List.length_cons,List.length_nil];omega
 have m4:∀(l:List IOp) (o1 o2 o3 o4:IOp),l.length<950000->((l++ [o1,o2,o3])++ [o4]).length<1000000:=λl o1 o2 o3 o4 h=>by simp only [List.length_append,List.length_cons,List.length_nil];omega
 have n3:∀(l:List IOp) (o1 o2 o3:IOp),((l++ [o1,o2,o3]).length:Int)=l.length+3:=λl o1 o2 o3=>by rw [List.length_append];rfl
 dsimp only [Qa,gm];simp (disch:=first | omega | (apply m3;omega) | (apply m4;omega)) only [RR,IR,U1.hp,U1.hf,U2.hp,U2.hf,U3.hp,U3.hf,U4.hp,U4.hf,n3];unfold gq;refine⟨λe=> ?_,λe=> ?_⟩
 .rw [if_neg ah,if_neg ah,if_neg ah,if_pos e];simp;rfl
 .rw [if_neg ah,if_neg ah,if_neg ah,if_neg ah,if_pos ah];simp;rfl
def rP(k:Int)(k0:0<=k)(k1:k<=15):P9.F () (k,()) (λy=>y=(2^k.toNat,())):=by
 dsimp only [P9,gm];simp (disch:=omega) only [RR];refine ak (λ(y:Int×Int×Int×Unit)=>y.1=k/\0<=y.2.2.1/\y.2.2.1<=k/\y.2.1=2^y.2.2.1.toNat) (λy=>(k-y.2.2.1).toNat) ⟨rfl,by simp,k0,rfl⟩ ?_;rintro⟨(z:Int),(a:Int),(i:Int),⟨⟩⟩ hI;dsimp only at hI ⊢;obtain⟨rfl,j1,j2,rfl⟩:=hI;have pw:=acW j1 ah;unfold Wo at pw;simp (disch:=omega) only [RR];refine⟨λg=>⟨⟨ah,ah,?_⟩,ah⟩,λg=>by rw [show i=z by omega]⟩;rw [show(i+1).toNat=i.toNat+1 by omega,Int.pow_succ];omega
def Gb{p1 f1}(U1:ag8 p1 f1)(B:Blk)(i:Ins)(hi:11<=i.op/\i.op<=13)(h:B.ops.length<950000):Qb.F (p1,f1,()) (B.pc,B.len,B.fin,B.x,B.y,B.k,i,B.ops,()) (λy=>y=bk7 (iM 0 B i)):=by
 have m1:∀(l:List IOp) (o:IOp),l.length<950000->(l++ [o]).length<1000000:=λl o h=>by rw [List.length_append];simp only [List.length_cons,List.length_nil];omega
 dsimp only [Qb,gm];unfold iM gq;rcases(by omega:i.op=11\/i.op=12\/i.op=13)with e | e | e
 all_goals
  simp (disch:=first | omega | (apply m1;omega)) only [RR,IR,e,U1.hp,U1.hf,n1a,Int.reduceEq,or_self,true_or,or_true]
  try simp
def GH{p1 f1 p3 f3 p5 f5 p6 f6}(U1:ag8 p1 f1){p2:Int×Int×Int×Int×Int×Int×Ins×List IOp×Unit->Bool}{f2:Int×Int×Int×Int×Int×Int×Ins×List IOp×Unit->Int×Int×Int×Int×Int×Int×List IOp×Unit}(hp2:∀(B:Blk) (i:Ins),(11<=i.op/\i.op<=13)->B.ops.length<950000->p2 (B.pc,B.len,B.fin,B.x,B.y,B.k,i,B.ops,())=true)(hf2:∀(B:Blk) (i:Ins),(11<=i.op/\i.op<=13)->B.ops.length<950000->f2 (B.pc,B.len,B.fin,B.x,B.y,B.k,i,B.ops,())=bk7 (iM 0 B i))(U3:ade p3 f3){p4:Int×Int×Int×Int×Int×Int×Ins×Int×List IOp×Unit->Bool}{f4:Int×Int×Int×Int×Int×Int×Ins×Int×List IOp×Unit->Int×Int×Int×Int×Int×Int×List IOp×Unit}(hp4:∀(a1 a2 a3 a4 a5 a6:Int) (i:Ins) (n:Int) (ops:List IOp),(i.op=9\/i.op=10)->ops.length<950000->p4 (a1,a2,a3,a4,a5,a6,i,n,ops,())=true)(hf4:∀(a1 a2 a3 a4 a5 a6:Int) (i:Ins) (n:Int) (ops:List IOp),(i.op=9\/i.op=10)->ops.length<950000->f4 (a1,a2,a3,a4,a5,a6,i,n,ops,())=(a1,a2,a3,a4,a5,a6,ops++gq n ops.length i,()))(U5:arS p5 f5)(U6:arT p6 f6){p7:Int×Unit->Bool}{f7:Int×Unit->Int×Unit}(hp7:∀k,0<=k->k<=15->p7 (k,())=true)(hf7:∀k,0<=k->k<=15->f7 (k,())=(2^k.toNat,()))(B:Blk)(i:Ins)(n:Int)(hi:dO i)(h0:i.op≠0)(h:B.ops.length<900000):Qc.F (p1,f1,p2,f2,p3,f3,p4,f4,p5,f5,p6,f6,p7,f7,()) (B.pc,B.len,B.fin,B.x,B.y,B.k,i,n,B.ops,()) (λy=>y=bk7 (iM n B i)):=by
 have m1:∀(l:List IOp) (o:IOp),l.length<950000->(l++ [o]).length<1000000:=λl o h=>by rw [List.length_append];simp only [List.length_cons,List.length_nil];omega
 have m3:∀(l:List IOp) (o1 o2 o3:IOp),l.length<950000->(l++ [o1,o2,o3]).length<1000000:=λl o1 o2 o3 h=>by simp only [List.length_append,List.length_cons,List.length_nil];omega
 obtain⟨⟨o0,o1⟩,_,_,k0,_,_,_,r3,r8,_⟩:=hi;have P2:=hp2 B i;have H2:=hf2 B i;dsimp only [Qc,gm];rcases(by omega:i.op=1\/i.op=2\/i.op=8\/(i.op=9\/i.op=10)\/i.op=14\/i.op=15\/(i.op=11\/i.op=12\/i.op=13)\/(3<=i.op/\i.op<=7))with e | e | e | e | e | e | e | e
 case inr.inr.inr.inl=>
  have e':iM n B i={B with ops:=B.ops++gq n B.ops.length i}:=by unfold iM;rw [if_neg ah,if_neg ah]
  rw [e'];have P4:=hp4 B.pc B.len B.fin B.x B.y B.k i n B.ops e ah;have H4:=hf4 B.pc B.len B.fin B.x B.y B.k i n B.ops e ah;rcases e with e | e<;>simp (disch:=omega) only [RR,IR,e,Int.reduceEq,P4,H4,or_true,true_or]
 case inr.inr.inr.inr.inr.inr.inl=>
  have e':iM n B i=iM 0 B i:=by unfold iM gq;rcases e with e | e | e<;>simp [e]
  rw [e'];have P2:=P2 ah ah;have H2:=H2 ah ah;rcases e with e | e | e<;>simp (disch:=omega) only [RR,IR,e,Int.reduceEq,P2,H2,or_true,true_or]
 case inr.inr.inr.inr.inr.inr.inr=>
  have n0:∀z:Int,z<3\/7<z->¬i.op=z:=λz g q=>by omega
  have e':iM n B i={B with ops:=B.ops++ [⟨2,0,0,i.a,0⟩,⟨2,0,0,i.k,0⟩,⟨3,B.ops.length,B.ops.length+1,i.op-2,0⟩,⟨8,B.ops.length+2,0,i.d,0⟩]}:=by
   unfold iM gq;simp (disch:=omega) only [n0,if_false,or_self]
  rw [e'];simp (disch:=first | omega | (apply m3;omega)) only [RR,IR,n0,U5.hp,U5.hf,U6.hp,U6.hf,or_self];simp;rw [show i.op-3+1=i.op-2 by omega];rfl
 all_goals
  unfold iM gq;simp (disch:=first | omega | (apply m1;omega) | (apply m3;omega)) only [RR,IR,e,Int.reduceEq,U1.hp,U1.hf,U3.hp,U3.hf,U5.hp,U5.hf,U6.hp,U6.hf,hp7 i.k k0,hf7 i.k k0,r8,n1a,or_self,true_and,and_true]
  try simp
  try rfl
def rQ(a:Int):PI.F () (a,()) (λy=>y=(inB a 11 13,())):=by
 dsimp only [PI,gm];refine Prod.ext ?_ rfl;dsimp only;rw [Bool.eq_iff_iff,bL];simp [abL];omega
def Dz{p1 f1 p2 f2}(U1:arL p1 f1)(U2:ag2 p2 f2)(i:Ins):PL.F (p1,f1,p2,f2,()) (i,()) (λy=>y=(bp (dO i)&& !decide (i.op=0)&& !inB i.op 11 13,())):=by
 dsimp only [PL,gm];simp (disch:=omega) only [RR,IR,U1.hp,U1.hf,U2.hp,U2.hf]
def GI{p1 f1 p2 f2 p3 f3}(U1:arL p1 f1)(U2:ag2 p2 f2)(U3:Y1 p3 f3){p4:Ins×Unit->Bool}{f4:Ins×Unit->Bool×Unit}(hp4:∀i,p4 (i,())=true)(hf4:∀i,f4 (i,())=(bp (dO i)&& !decide (i.op=0)&& !inB i.op 11 13,()))(pc:Int)(l:List Ins)(hl:(l.length:Int)<1000):PW.F (p1,f1,p2,f2,p3,f3,p4,f4,()) (pc,l,()) (λy=>y=(bp (wY pc l),())):=by
 dsimp only [PW,gm];simp (disch:=omega) only [RR,IR,U1.hp,U1.hf,U2.hp,U2.hf,U3.hp,U3.hf,hp4,hf4,bL,ji];refine⟨λh=> ?_,λh=> ?_⟩
 .rw [bP];intro g;have a:=g.ln;have c:=g.pc;omega
 refine ak (λ(y:List Ins×Int×Unit)=>y.1=l/\0<=y.2.1/\y.2.1<=l.length/\∀j:Nat,j<y.2.1->dO (l.getD j default)/\(l.getD j default).op≠0/\(11<=(l.getD j default).op/\(l.getD j default).op<=13->j+1=l.length)) (λy=>(l.length-y.2.1).toNat) ⟨rfl,by simp,by simp,λj hj=>absurd hj (by dsimp only;omega)⟩ ?_;rintro⟨(l:List Ins),(i:Int),⟨⟩⟩ hI;dsimp only at hI ⊢;obtain⟨rfl,h1,h2,h3⟩:=hI;by_cases g:i<l.length
 .have nx:dO ((l).getD (i).toNat default)/\(((l).getD (i).toNat default)).op≠0/\(11<=(((l).getD (i).toNat default)).op/\(((l).getD (i).toNat default)).op<=13->i+1=l.length)->∀j:Nat,(j:Int)<i+1->dO (l.getD j default)/\(l.getD j default).op≠0/\(11<=(l.getD j default).op/\(l.getD j default).op<=13->j+1=l.length):=λq j hj=>by
   by_cases c:(j:Int)<i
   .exact h3 j c
   .obtain rfl:j=i.toNat:=by omega
    exact⟨q.1,q.2.1,λz=>by have:=q.2.2 z;omega⟩
  have bad:¬(dO ((l).getD (i).toNat default)/\(((l).getD (i).toNat default)).op≠0/\(11<=(((l).getD (i).toNat default)).op/\(((l).getD (i).toNat default)).op<=13->i+1=l.length))->bp (wY pc l)=false:=λq=>bP λv=>q (by
   have:=v.ok i.toNat ah;exact⟨this.1,this.2.1,λz=>by have:=this.2.2 z;omega⟩)
  have gi:(i< (l.length:Int)-1)↔¬(i+1=l.length):=by omega
  simp (disch:=omega) only [RR,IR,U1.hp,U1.hf,U2.hp,U2.hf,hp4,hf4,g];refine⟨h1,Or.inr h1,Or.inr h1,λe=> ?_,λe=>⟨⟨ah,ah,nx ?_⟩,ah⟩⟩
  .rw [bad];rintro⟨q1,q2,q3⟩;rw [aV q1,decide_eq_false q2]at e;have e1:=bL.1 (show inB (((l).getD (i).toNat default)).op 11 13=true by simpa using e.1);have:=q3 e1;rcases e.2 with(z | z) | z
   .omega
   .cases z
   .exact z e1
  .have a:dO ((l).getD (i).toNat default):=Classical.byContradiction λn=>by rw [bP n]at e;simp at e
   refine⟨a,λz=> ?_,λq=> ?_⟩
   .rw [z]at e;simp [inB]at e
   .rw [aV a,bL.2 q]at e;simp at e;omega
 .simp (disch:=omega) only [RR,g];rw [aV ⟨ah,ah,λj hj=>h3 j ah⟩]
structure auU(pp:Int×List Ins×Unit->Bool)(ff:Int×List Ins×Unit->Bool×Unit):Prop where
 hp:∀(pc:Int) (l:List Ins),(l.length:Int)<1000->pp (pc,l,())=true
 hf:∀(pc:Int) (l:List Ins),(l.length:Int)<1000->ff (pc,l,())=(bp (wY pc l),())
theorem Cj{p1 f1}(U1:auU p1 f1){p2:Int×Int×Int×Int×Int×Int×Ins×Int×List IOp×Unit->Bool}{f2:Int×Int×Int×Int×Int×Int×Ins×Int×List IOp×Unit->Int×Int×Int×Int×Int×Int×List IOp×Unit}(hp2:∀(B:Blk) (i:Ins) (n:Int),dO i->i.op≠0->B.ops.length<900000->p2 (B.pc,B.len,B.fin,B.x,B.y,B.k,i,n,B.ops,())=true)(hf2:∀(B:Blk) (i:Ins) (n:Int),dO i->i.op≠0->B.ops.length<900000->f2 (B.pc,B.len,B.fin,B.x,B.y,B.k,i,n,B.ops,())=bk7 (iM n B i))(pc:Int)(l:List Ins)(hl:(l.length:Int)<1000):Qd.F (p1,f1,p2,f2,()) (pc,l,()) (λy=>y=bk7 (lower pc l)):=by
 dsimp only [Qd,gm];simp (disch:=omega) only [RR,U1.hp pc l hl,U1.hf pc l hl,aQ,jh];unfold lower;refine⟨λh=>by rw [bP h,if_neg (by decide)];rfl,λh=> ?_⟩;rw [aV h,if_pos rfl];have ln:=h.ln;have pp:=h.pc;refine ak (λ(y:List Ins×Int×Int×Int×Int×Int×Int×Int×Int×Int×Int×Int×Int×Int×List IOp×Unit)=>y.1=l/\0<=y.2.1/\y.2.1<=l.length/\y.2.2.2.2.2.2.2.2=bk7 (oV 0 (Aj pc l) (l.take y.2.1.toNat))) (λy=>(l.length-y.2.1).toNat) ⟨rfl,by simp,by simp,by rw [w64 ah ah];rfl⟩ ?_;rintro⟨(l':List Ins),(i:Int),z1,z2,z3,z4,z5,z6,q1,q2,q3,q4,q5,q6,q7,⟨⟩⟩ hI;dsimp only at hI ⊢;obtain⟨rfl,h1,h2,h3⟩:=hI;generalize eB:oV 0 (Aj pc l') (l'.take i.toNat)=B at h3;simp only [bk7,Prod.mk.injEq,and_true]at h3;obtain⟨rfl,rfl,rfl,rfl,rfl,rfl,rfl⟩:=h3;have bl:B.ops.length<=40:=by
  have:=F7 (l'.take i.toNat) 0 (Aj pc l');rw [eB]at this;have t:=List.length_take_le i.toNat l';have:(Aj pc l').ops.length=0:=rfl;omega
 by_cases c:i<l'.length
 .obtain⟨o1,o2,o3⟩:=h.ok i.toNat ah;simp (disch:=omega) only [RR,c,hp2 B (((l').getD (i).toNat default)) i o1 o2 ah,hf2 B (((l').getD (i).toNat default)) i o1 o2 ah];refine⟨h1,⟨ah,ah,?_⟩,ah⟩;rw [<-bB (d:=default) h1 c rfl,Ch,eB,List.length_take,show(0:Int)+((min i.toNat l'.length:Nat):Int)=i by omega]
 .rw [List.take_of_length_le ah]at eB;simp (disch:=omega) only [RR,c,eB]
def adf(pc:Int)(l:List Ins):((lower pc l).ops.length:Int)<=5000:=by
 by_cases h:wY pc l
 .have:=(F8 h).sz;omega
 .have e:lower pc l=SF:=by unfold lower;rw [bP h,if_neg (by decide)]
  rw [e];decide
def ag9{pc:Int}{l:List Ins}{y:Int×Int×Int×Int×Int×Int×List IOp×Unit}(h:y=bk7 (lower pc l)):(y.2.2.2.2.2.2.1.length:Int)<=5000:=by rw [h];exact adf pc l
abbrev YOw:=Int×Int×Int×Int×Int×Int×Int×Int×Bool×Bool×Int×List Int×Int×List Int×Int×List IOp×List Int×List Int×List Int×Unit
structure OwD(b:List Int)(p:Int)(y:YOw):Prop where
 b:y.2.2.2.2.2.2.2.2.2.2.2.2.2.1=b
 lo:p<=y.2.2.2.2.2.2.2.2.2.2.2.2.2.2.1
 hi:y.2.2.2.2.2.2.2.2.2.2.2.2.2.2.1<=p+12000
 r:y.2.2.2.2.2.2.2.2.2.2.2.2.2.2.2.2.1.length=4
 m:y.2.2.2.2.2.2.2.2.2.2.2.2.2.2.2.2.2.1.length=64
 i:y.2.2.2.2.2.2.2.2.2.2.2.1.length<=10
 o:y.2.2.2.2.2.2.2.2.2.2.2.2.2.2.2.2.2.2.1.length<=100
 k:y.2.2.2.2.2.2.2.2.2.2.2.2.2.2.2.1.length<1000000
structure auV(pp:Int×List Ins×Unit->Bool)(ff:Int×List Ins×Unit->Int×Int×Int×Int×Int×Int×List IOp×Unit):Prop where
 hp:∀(pc:Int) (l:List Ins),(l.length:Int)<1000->pp (pc,l,())=true
 hf:∀(pc:Int) (l:List Ins),(l.length:Int)<1000->ff (pc,l,())=bk7 (lower pc l)
structure arU(pp:Blk×List Int×Int×Unit->Bool)(ff:Blk×List Int×Int×Unit->YMc):Prop where
 hp:∀c b p,Bt b->0<=p->p<400000000->pp (c,b,p,())=true
 hf:∀c b p,Bt b->0<=p->p<400000000->MaD b p (ff (c,b,p,()))
theorem amH{p1 f1 p2 f2 p3 f3 p4 f4 p5 f5 p6 f6}(U1:auV p1 f1)(U2:Y81 p2 f2)(U3:Y38 p3 f3)(U4:arU p4 f4)(U5:Y82 p5 f5)(U6:Y63 p6 f6)(b:List Int)(p:Int)(hb:Bt b)(h1:0<=p)(h2:p<300000000):R6.F (p1,f1,p2,f2,p3,f3,p4,f4,p5,f5,p6,f6,()) (b,p,()) (λy=>OwD b p y):=by
  obtain⟨i1,i2,i3,i4,i5,i6⟩:=U5.hf b p hb h1 ah;have P5:=U5.hp b p hb h1 ah;generalize hy:f5 (b,p,())=y at i1 i2 i3 i4 i5 i6;obtain⟨b',q,l,⟨⟩⟩:=y;dsimp only at i1 i2 i3 i4 i5 i6;subst i1;have R:=pkR hb U3.hf;have P:=λn p h1 h2=>U3.hp n b' p hb h1 h2
  dsimp only [R6,gm];simp (disch:=omega) only [RR,P5,hy,R,P,U6.hp,List.length_cons,List.length_nil,List.length_append,List.length_set];generalize hL:List.drop (Int.toNat 0) (List.take (0+((if 7< (l.length:Int)then 7 else(l.length:Int))-0)).toNat l)=L;have l7:1<=L.length/\L.length<=7:=by
    rw [<-hL,List.length_drop,List.length_take];split<;>omega
  refine⟨ah,by split<;>omega,by split<;>omega,ah,by split<;>omega,by split<;>omega,ah,ah,?_⟩;have mE:∀c:Blk,Co.mk .blk (c.pc,c.len,c.ops,c.fin,c.x,c.y,c.k,())=c:=λ_=>rfl
  have lb:∀(pc:Int) (l:List Ins),(lower pc l).ops.length<1000000:=λpc l=>by
    by_cases h:wY pc l
    · have:=(F8 h).sz;omega
    · have e:lower pc l=SF:=by unfold lower;rw [bP h,if_neg (by decide)]
      rw [e];decide
  have M4:=λB t h1 h2=>U4.hf B b' t hb h1 h2
  have lt4:∀l:List Int,l.length=4->3< (l.length:Int):=λl h=>by omega
  have L0:∀B t,0<=t->t<400000000->(0<=(f4 (B,b',t,())).2.2.2.2.2.2.2.2.1)=True:=λB t h1 h2=>eq_true (Int.le_trans h1 (M4 B t h1 h2).lo)
  have L1:∀B t,0<=t->t<400000000->((f4 (B,b',t,())).2.2.2.2.2.2.2.2.1<1000000000)=True:=λB t h1 h2=>eq_true (Int.lt_of_le_of_lt (M4 B t h1 h2).hi ah)
  have A:=λB t h1 h2=>(U4.hf B b' t hb h1 h2).b
  simp (disch:=first | omega | exact lb _ _ | (simp only [List.length_set,List.length_append,List.length_cons,List.length_nil];omega) | (simp (disch:=omega) only [L0,L1])) only [RR,R,P,U1.hp,U1.hf,U2.hp,U2.hf,mE,lb,U4.hp,A]
  repeat' (first | (refine⟨?_,?_⟩) | intro _)
  all_goals first
    | omega
    | exact lt4 _ (M4 _ _ ah ah).r
    | (refine ⟨rfl, ?_, ?_, (List.length_set ..).trans (M4 _ _ ah ah).r, (M4 _ _ ah ah).m, (M4 _ _ ah ah).i, (M4 _ _ ah ah).o, by first | exact lb _ _ | exact Nat.lt_of_le_of_lt (Iw _) (lb _ _)⟩
       · dsimp only;exact Int.le_trans (Int.le_trans ah (M4 _ _ ah ah).lo) (Int.le_add_one (Int.le_refl _))
       · dsimp only;exact Int.le_trans (Int.add_le_add_right (M4 _ _ ah ah).hi 1) ah)
def amI{p2 f2 p3 f3 p4 f4 p5 f5 p6 f6}{p1:Int×List Int×Int×Unit->Bool}{f1:Int×List Int×Int×Unit->YMo}(hp1:∀n b p,Bt b->0<=p->p<400000000->p1 (n,b,p,())=true)(hf1:∀n b p,Bt b->0<=p->p<400000000->MoD b p (f1 (n,b,p,())))(U2:Y41 p2 f2)(U3:Y39 p3 f3)(U4:Y38 p4 f4)(U5:arU p5 f5)(U6:Y85 p6 f6){p7:List Int×Int×Unit->Bool}{f7:List Int×Int×Unit->YOw}(hp7:∀b p,Bt b->0<=p->p<300000000->p7 (b,p,())=true)(hf7:∀b p,Bt b->0<=p->p<300000000->OwD b p (f7 (b,p,())))(c:List Int)(hc:By c)(hl:c.length<1000000000):R8.F (p1,f1,p2,f2,p3,f3,p4,f4,p5,f5,p6,f6,p7,f7,()) (c,()) (λy=>MSh (mD y)/\(mD y).outs.length<800000000/\y.1.ops.length<1000000):=by
 obtain⟨hb,e0⟩:=U2.hf c hc hl;generalize hbe:(f2 (c,())).1=b at hb;have R:=pkR hb U4.hf;have P:=λn p h1 h2=>U4.hp n b p hb h1 h2
 have OW:=hf7 b (0+1) hb ah ah;have OP:=hp7 b (0+1) hb ah ah;obtain⟨k1,k2,k3,k4⟩:=U6.hf 14 b (0+1) hb ah ah;have KP:=U6.hp 14 b (0+1) hb ah ah;generalize hk:f6 (14,b,0+1,())=k at k1 k2 k3 k4;obtain⟨B,b1,q1,⟨⟩⟩:=k;dsimp only at k1 k2 k3 k4;subst k2;have AT:=U5.hf B b1 q1 hb ah ah;have AP:=U5.hp B b1 q1 hb ah ah;generalize hm:f5 (B,b1,q1,())=m at AT;obtain⟨pc,sv,lt,wt,ha,ins,ct,b2,q2,regs,mem,outs,⟨⟩⟩:=m;obtain⟨a1,a2,a3,a4,a5,a6,a7⟩:=AT;dsimp only at a1 a2 a3 a4 a5 a6 a7;subst a1;obtain⟨o1,o2⟩:=U3.hf 14 b2 q2 hb ah ah;have O3:=U3.hp 14 b2 q2 hb ah ah;have MO:=hf1 2 b2 (q2+1) hb ah ah;have MP:=hp1 2 b2 (q2+1) hb ah ah;dsimp only [R8,gm];simp (disch:=omega) only [RR,U2.hp c hc hl,hbe,e0,R,P,OP,KP,hk,AP,hm,O3,o1,o2,MP];have m3:=MO.m;have m4:=MO.r;have m5:=MO.i;have m6:=MO.o;have w3:=OW.m;have w4:=OW.r;have w5:=OW.i;have w6:=OW.o;have w7:=OW.k;unfold MSh mD;refine⟨λ_=>⟨⟨?_,?_,?_,?_⟩,?_,?_⟩,λ_=>⟨λ_=>⟨⟨?_,?_,?_,?_⟩,?_,?_⟩,λ_=>⟨⟨?_,?_,?_,?_⟩,?_,?_⟩⟩⟩
 all_goals try dsimp only
 all_goals first | omega | exact w7
structure PS where
 m:aH
 L:List Int
 I:List Int
 left:Bool
def jD(x:aH)(rg:List (List aj))(v:List Int)(pc n h:Int):aH:={x with regs:=rg.map (evF v),pc:=pc,count:=x.count+n,halt:=h}
section
variable (T:List Atom) (r0:List Int) (pc len:Int)
def pv(s:PS):List Int:=tv r0 s.L s.I T
def cO(s:PS)(e:Ev):PS:=
 if s.left=true then s
 else if e.kind=7 then {s with m:={s.m with outs:=s.m.outs++ [evF (pv T r0 s) e.x]}}
 else if e.kind=6 then {s with m:={s.m with ins:=s.m.ins.drop 1},I:=s.I++ [s.m.ins.getD 0 default]}
 else if 64<=evF (pv T r0 s) e.x then⟨jD s.m e.regs (pv T r0 s) (pc+e.at_) e.at_ 3,s.L,s.I,true⟩
 else if e.kind=4 then {s with L:=s.L++ [((s.m.mem).getD (evF (pv T r0 s) e.x).toNat default)]}
 else if pc+e.at_<evF (pv T r0 s) e.x/\evF (pv T r0 s) e.x<pc+len then⟨jD {s.m with mem:=s.m.mem.set (evF (pv T r0 s) e.x).toNat (evF (pv T r0 s) e.y)} e.regs (pv T r0 s) (pc+e.at_+1) (e.at_+1) 0,s.L,s.I,true⟩
 else {s with m:={s.m with mem:=s.m.mem.set (evF (pv T r0 s) e.x).toNat (evF (pv T r0 s) e.y)}}
def wO(S:Sym)(p q:Int):Int:=if S.fin=2 then p else if S.fin=1\/S.fin=3/\p=q\/S.fin=4/\p<q then S.k else pc+len
def IB(S:Sym)(s:PS):aH:=if s.left=true then s.m else jD s.m S.regs (pv T r0 s) (wO pc len S (evF (pv T r0 s) S.x) (evF (pv T r0 s) S.y)) len 0
def uK(S:Sym)(m:aH):aH:=IB T m.regs pc len S (S.events.foldl (cO T m.regs pc len) ⟨m,[],[],false⟩)
theorem J9:∀(E:List Ev) (s:PS),s.left=true->E.foldl (cO T r0 pc len) s=s
 | [],_,_=>rfl
 | e::E,s,h=>by
  have:cO T r0 pc len s e=s:=by unfold cO;rw [if_pos h]
  rw [List.foldl_cons,this];exact J9 E s h
end
theorem Ka{α β:Type}[Inhabited α][Inhabited β]{f:α->β}(h:f default=default)(l:List α)(i:Int):(l.map f).getD i.toNat default=f (l.getD i.toNat default):=by
 rw [List.getD_eq_getElem?_getD,List.getElem?_map,List.getD_eq_getElem?_getD];cases l[i.toNat]? with
 | none=>exact h.symm
 | some x=>rfl
theorem amJ{regs loads ins:List Int}{t:List Atom}{k:Int}(h0:0<=k)(h1:k<t.length):gM (tv regs loads ins t) k=aVal regs loads ins (tv regs loads ins (t.take k.toNat)) ((t).getD (k).toNat default):=by
 have hs:t=(t.take k.toNat++ [((t).getD (k).toNat default)])++t.drop (k.toNat+1):=by
  rw [List.append_assoc,List.singleton_append,getD_lt (show k.toNat<t.length by omega),<-List.drop_eq_getElem_cons,List.take_append_drop]
 have hl:(t.take k.toNat).length=k.toNat:=by rw [List.length_take];omega
 obtain⟨c,hc⟩:=BX regs loads ins (t.drop (k.toNat+1)) (t.take k.toNat++ [((t).getD (k).toNat default)]);rw [<-hs,DV]at hc;have lv:=JO regs loads ins (t.take k.toNat);rw [hc,uH h0 (by rw [List.length_append,lv,hl];simp only [List.length_cons,List.length_nil];omega)];unfold gM;rw [if_pos (by rw [List.length_append,lv,hl];simp only [List.length_cons,List.length_nil];omega),getD_lt (by rw [List.length_append,lv,hl];simp only [List.length_cons,List.length_nil];omega),List.getElem_append_right ah];simp only [lv,hl,Nat.sub_self,List.getElem_cons_zero]
theorem Tf{r0 L I:List Int}(w1:wOK r0)(w2:wOK L)(w3:wOK I){t T:List Atom}{a:Atom}(hT:aC T)(h:0<=(aI t a).2)(hp:(aI t a).1<+:T)(hk:a.kind=1\/a.kind=2\/a.kind=3):
  evF (tv r0 L I T) (bQ (aI t a).2)=if a.kind=1 then gM r0 a.k else if a.kind=2 then gM L a.k else gM I a.k:=by
 obtain⟨g1,g2⟩:=mQ h;have lp:=jr hp;have lT:=hT.2;rw [VO _ ⟨h,ah⟩ (VL w1 w2 w3 _),amJ h ah,SA hp ah,g2];unfold aVal;rcases hk with e | e | e<;>simp [e]
theorem aha{l:List Int}{k:Int}(h0:0<=k)(h:k<l.length):gM l k=((l).getD (k).toNat default):=by unfold gM;rw [if_pos h]
theorem M9{l L:List Int}{x k:Int}(hk:(l.length:Int)=k)(h:l++ [x]<+:L):gM L k=x:=by
 obtain⟨c,rfl⟩:=h;unfold gM;rw [if_pos (by simp only [List.length_append,List.length_cons,List.length_nil];omega),List.append_assoc,List.getD_eq_getElem?_getD,List.getElem?_append_right ah,show k.toNat-l.length=0 by omega];rfl
structure PJ(T:List Atom)(r0:List Int)(M:MS)(S:SS)(P:PS):Prop where
 lf:P.left=false
 m:P.m={M.m with regs:=r0}
 ld:(P.L.length:Int)=S.ld
 inn:(P.I.length:Int)=S.inn
 wl:wOK P.L
 wi:wOK P.I
 v:∀L I,P.L<+:L->P.I<+:I->wOK L->wOK I->S.vals.map (evF (tv r0 L I T))=M.vals
 r:∀L I,P.L<+:L->P.I<+:I->wOK L->wOK I->S.regs.map (evF (tv r0 L I T))=M.m.regs
structure MJ(b:Blk)(i:Nat)(M:MS):Prop where
 lf:M.left=false
 ln:M.vals.length=i
 wv:Wos M.vals
 ok:MOK M.m
 pc:M.m.pc=b.pc
 ha:M.m.halt=0
theorem PJ.x{T:List Atom}{r0:List Int}{M:MS}{S:SS}{P:PS}(h:PJ T r0 M S P){L I:List Int}(h1:P.L<+:L)(h2:P.I<+:I)(h3:wOK L)(h4:wOK I)(o:IOp):evF (tv r0 L I T) (xOf S o)=vx M o/\evF (tv r0 L I T) (yOf S o)=vy M o:=by
 have e:=h.v L I h1 h2 h3 h4;unfold xOf yOf vx vy;rw [<-e];constructor
 .split
  .exact(Ka (f:=evF (tv r0 L I T)) rfl S.vals o.x).symm
  .rfl
 .split
  .exact(Ka (f:=evF (tv r0 L I T)) rfl S.vals o.y).symm
  .rfl
theorem ahb{s:MS}(o:IOp):(mM s o).pc=s.m.pc/\(mM s o).halt=s.m.halt/\(mM s o).count=s.m.count:=by
 unfold mM
 repeat' split
 all_goals exact⟨rfl,rfl,rfl⟩
theorem amK{T:List Atom}{r0:List Int}{b:Blk}{n:Int}{i:Nat}{M:MS}{S:SS}{P:PS}{o:IOp}{len':Int}(wr:wOK r0)(hT:aC T)(hne:T≠ [])(h:PJ T r0 M S P)(hs:SI n i S)(hm:MJ b i M)(hk:1<=o.kind/\o.kind<=8)(k1:o.kind=1->0<=o.k/\o.k<=65535)(k3:o.kind=3->1<=o.k/\o.k<=5)(hn:n+i<200)(hi:i<200)(hp:(stp S o).t<+:T)(hl:len'=b.len):
  (∃P',(stp S o).evs=S.evs++(if evO o then [⟨o.kind,o.at_,xOf S o,yOf S o,if o.kind=4\/o.kind=5 then S.regs else []⟩]else [])/\(if evO o then [(⟨o.kind,o.at_,xOf S o,yOf S o,if o.kind=4\/o.kind=5 then S.regs else []⟩:Ev)]else []).foldl (cO T r0 b.pc len') P=P'/\
   ((PJ T r0 (bO b M o) (stp S o) P'/\MJ b (i+1) (bO b M o))\/((bO b M o).left=true/\P'.left=true/\P'.m=(bO b M o).m))):=by
 subst hl;refine⟨_,?_,rfl,?_⟩
 .show nE S o=_;unfold nE;split<;>simp
 obtain⟨a1,a2⟩:=nL hs k3 hn hi;obtain⟨ex,ey⟩:=h.x (List.prefix_refl P.L) (List.prefix_refl P.I) h.wl h.wi o;have er:=h.r P.L P.I (List.prefix_refl P.L) (List.prefix_refl P.I) h.wl h.wi;have em:(P.m.mem=M.m.mem)/\P.m.ins=M.m.ins/\P.m.outs=M.m.outs/\P.m.count=M.m.count:=by rw [h.m];exact⟨rfl,rfl,rfl,rfl⟩
 have go:∀P':PS,¬((o.kind=4\/o.kind=5)/\64<=vx M o)->¬(o.kind=5/\b.pc+o.at_+1<=vx M o/\vx M o<=b.pc+b.len-1)->P'.left=false->P'.m={mM M o with regs:=r0}->
   P'.L=(if o.kind=4 then P.L++ [((M.m.mem).getD (vx M o).toNat default)]else P.L)->P'.I=(if o.kind=6 then P.I++ [M.m.ins.getD 0 default]else P.I)->PJ T r0 (bO b M o) (stp S o) P'/\MJ b (i+1) (bO b M o):=by
  intro P' c1 c2 q1 q2 q3 q4;have e:bO b M o=⟨mM M o,M.vals++ [mV M o],false⟩:=by unfold bO;rw [if_neg (by rw [hm.lf];decide),if_neg c1,if_neg c2]
  have mk:=ahb (s:=M) o;rw [e];have pl:P.L<+:P'.L:=by rw [q3];split;exact List.prefix_append _ _;exact List.prefix_refl _
  have pi:P.I<+:P'.I:=by rw [q4];split;exact List.prefix_append _ _;exact List.prefix_refl _
  have V:∀L I,P'.L<+:L->P'.I<+:I->wOK L->wOK I->evF (tv r0 L I T) (nV S o)=mV M o:=by
   intro L I g1 g2 g3 g4;obtain⟨fx,fy⟩:=h.x (pl.trans g1) (pi.trans g2) g3 g4 o;have fr:=h.r L I (pl.trans g1) (pi.trans g2) g3 g4;unfold nV mV;by_cases e1:o.kind=1
   .rw [if_pos e1,if_pos e1];exact Ab _ (k1 e1)
   rw [if_neg e1,if_neg e1];by_cases e2:o.kind=2
   .rw [if_pos e2,if_pos e2,<-fr];exact(Ka (f:=evF (tv r0 L I T)) rfl S.regs o.k).symm
   rw [if_neg e2,if_neg e2];by_cases e3:o.kind=3
   .rw [if_pos e3,if_pos e3];have d:=a2.d e3;have tp:(tDo S.t o.k (xOf S o) (yOf S o)).1<+:T:=by
     have:(stp S o).t=(tDo S.t o.k (xOf S o) (yOf S o)).1:=by show nT S o=_;unfold nT;rw [if_pos e3]
     rwa [this]at hp
    have on:=SE hT d.ok tp;have lp:=jr tp;have lq:=jr d.pre;have dd:=aq9 wr g3 g4 hT (k3 e3) (hs.x o).1 (hs.y o).1 (mY (hs.x o).2 ah) (mY (hs.y o).2 ah) (by rw [on];exact hne);rw [on]at dd;rw [dd.2.2.2,fx,fy]
   rw [if_neg e3,if_neg e3];by_cases e46:o.kind=4\/o.kind=6
   .rw [if_pos e46];have tp:(aI S.t (aOf S o)).1<+:T:=by
     have:(stp S o).t=(aI S.t (aOf S o)).1:=by show nT S o=_;unfold nT;rw [if_neg e3,if_pos e46]
     rwa [this]at hp
    rcases e46 with e4 | e6
    .have ea:aOf S o=⟨2,S.ld,[],[]⟩:=by unfold aOf;rw [if_pos e4]
     rw [Tf wr g3 g4 hT (a2.p (Or.inl e4)) tp (by rw [ea];exact Or.inr (Or.inl rfl)),ea,if_pos e4];show gM L S.ld=_;rw [q3,if_pos e4]at g1;exact M9 h.ld g1
    .have ea:aOf S o=⟨3,S.inn,[],[]⟩:=by unfold aOf;rw [if_neg ah]
     rw [Tf wr g3 g4 hT (a2.p (Or.inr e6)) tp (by rw [ea];exact Or.inr (Or.inr rfl)),ea,if_neg (show¬o.kind=4 by omega),if_pos e6];show gM I S.inn=_;rw [q4,if_pos e6]at g2;exact M9 h.inn g2
   .rw [if_neg e46,if_neg ah,if_neg ah];rfl
  refine⟨⟨q1,q2,?_,?_,?_,?_,λL I g1 g2 g3 g4=> ?_,λL I g1 g2 g3 g4=> ?_⟩,⟨rfl,by rw [List.length_append,hm.ln];rfl,hm.wv.snoc (aiC hm.wv hm.ok k1),aiD hm.wv hm.ok o,by rw [<-hm.pc];exact mk.1,by rw [<-hm.ha];exact mk.2.1⟩⟩
  .rw [q3];show _=(if o.kind=4 then S.ld+1 else S.ld);split
   .rw [List.length_append,List.length_cons,List.length_nil];have:=h.ld;omega
   .exact h.ld
  .rw [q4];show _=(if o.kind=6 then S.inn+1 else S.inn);split
   .rw [List.length_append,List.length_cons,List.length_nil];have:=h.inn;omega
   .exact h.inn
  .rw [q3];split
   .exact h.wl.snoc (hm.ok.mw.at _)
   .exact h.wl
  .rw [q4];split
   .exact h.wi.snoc hm.ok.iw.hd
   .exact h.wi
  .show(S.vals++ [nV S o]).map _=M.vals++ [mV M o];rw [List.map_append,h.v L I (pl.trans g1) (pi.trans g2) g3 g4,List.map_cons,List.map_nil,V L I g1 g2 g3 g4]
  .show(nR S o).map _=(mM M o).regs;have fr:=h.r L I (pl.trans g1) (pi.trans g2) g3 g4;obtain⟨fx,_⟩:=h.x (pl.trans g1) (pi.trans g2) g3 g4 o;unfold nR mM;by_cases e8:o.kind=8
   .rw [if_pos e8,if_neg ah,if_neg ah,if_neg ah,if_pos e8,List.map_set,fr,fx]
   .rw [if_neg e8,fr]
    repeat' split
    all_goals first | rfl | (exfalso;omega)
 by_cases c:evO o
 .rw [if_pos c,List.foldl_cons,List.foldl_nil];unfold cO pv;rw [if_neg (by rw [h.lf];decide)];dsimp only;rw [ex,ey];by_cases e7:o.kind=7
  .rw [if_pos e7];refine Or.inl (go _ ah ah h.lf ?_ (by rw [if_neg ah]) (by rw [if_neg ah]));show({P.m with outs:=P.m.outs++ [vx M o]}:aH)=_;unfold mM;rw [if_neg ah,if_neg ah,if_pos e7,h.m]
  rw [if_neg e7];by_cases e6:o.kind=6
  .rw [if_pos e6];refine Or.inl (go _ ah ah h.lf ?_ (by rw [if_neg ah]) (by rw [if_pos e6,em.2.1]));show({P.m with ins:=P.m.ins.drop 1}:aH)=_;unfold mM;rw [if_neg ah,if_pos e6,h.m]
  rw [if_neg e6];have c45:o.kind=4\/o.kind=5:=by have:=c.1;have:=c.2;omega
  rw [if_pos c45];by_cases c1:64<=vx M o
  .rw [if_pos c1];have e:bO b M o=⟨leave M.m o.at_ 3,M.vals,true⟩:=by unfold bO;rw [if_neg (by rw [hm.lf];decide),if_pos ⟨c45,c1⟩]
   refine Or.inr ⟨by rw [e],rfl,?_⟩;rw [e];show jD P.m S.regs (tv r0 P.L P.I T) (b.pc+o.at_) o.at_ 3=leave M.m o.at_ 3;unfold jD leave;rw [er,h.m,hm.pc]
  rw [if_neg c1];by_cases e4:o.kind=4
  .rw [if_pos e4];refine Or.inl (go _ ah ah h.lf ?_ (by rw [if_pos e4,em.1]) (by rw [if_neg ah]));show P.m=_;unfold mM;rw [if_neg ah,if_neg ah,if_neg ah,if_neg ah,h.m]
  rw [if_neg e4];have e5:o.kind=5:=by omega
  have m5:mM M o={M.m with mem:=M.m.mem.set (vx M o).toNat (vy M o)}:=by unfold mM;rw [if_pos e5]
  by_cases c2:b.pc+o.at_<vx M o/\vx M o<b.pc+b.len
  .rw [if_pos c2];have e:bO b M o=⟨leave (mM M o) (o.at_+1) (mM M o).halt,M.vals,true⟩:=by unfold bO;rw [if_neg (by rw [hm.lf];decide),if_neg ah,if_pos ⟨e5,ah,ah⟩]
   refine Or.inr ⟨by rw [e],rfl,?_⟩;rw [e];show jD {P.m with mem:=P.m.mem.set (vx M o).toNat (vy M o)} S.regs (tv r0 P.L P.I T) (b.pc+o.at_+1) (o.at_+1) 0=leave (mM M o) (o.at_+1) (mM M o).halt;unfold jD leave;rw [er,h.m,m5];dsimp only;rw [hm.pc,hm.ha,show b.pc+(o.at_+1)=b.pc+o.at_+1 by omega]
  .rw [if_neg c2];refine Or.inl (go _ ah ah h.lf ?_ (by rw [if_neg e4]) (by rw [if_neg e6]));show({P.m with mem:=P.m.mem.set (vx M o).toNat (vy M o)}:aH)=_;rw [m5,h.m]
 .rw [if_neg c,List.foldl_nil];refine Or.inl (go _ ah ah h.lf ?_ (by rw [if_neg ah]) (by rw [if_neg ah]));rw [h.m];unfold mM;rw [if_neg ah,if_neg ah,if_neg ah];split<;>rfl
end Go.TX.F
namespace Go.TX.F
open Go Go.AE Go.TX
def Wn:∀(ops:List IOp) (s:SS),∃E,(ops.foldl stp s).evs=s.evs++E
 | [],s=>⟨[],by simp⟩
 | o::r,s=>by
  obtain⟨E,h⟩:=Wn r (stp s o);rw [List.foldl_cons,h];have:∃F,(stp s o).evs=s.evs++F:=by
   show∃F,nE s o=_;unfold nE;split
   .exact⟨_,rfl⟩
   .exact⟨[],by simp⟩
  obtain⟨F,e⟩:=this;exact⟨F++E,by rw [e,List.append_assoc]⟩
def Wp{T:List Atom}{r0:List Int}{b:Blk}{n:Int}(wr:wOK r0)(hT:aC T)(hne:T≠ [])(P0:PS):∀(ops:List IOp) (i:Nat) (M:MS) (S:SS) (P:PS),PJ T r0 M S P->SI n i S->MJ b i M->
  (∀o∈ops,(1<=o.kind/\o.kind<=8)/\(o.kind=1->0<=o.k/\o.k<=65535)/\(o.kind=3->1<=o.k/\o.k<=5))->n+i+ops.length<=200->i+ops.length<=200->(ops.foldl stp S).t<+:T->S.evs.foldl (cO T r0 b.pc b.len) P0=P->
  (PJ T r0 (ops.foldl (bO b) M) (ops.foldl stp S) ((ops.foldl stp S).evs.foldl (cO T r0 b.pc b.len) P0)/\MJ b (i+ops.length) (ops.foldl (bO b) M))\/
  ((ops.foldl (bO b) M).left=true/\((ops.foldl stp S).evs.foldl (cO T r0 b.pc b.len) P0).left=true/\((ops.foldl stp S).evs.foldl (cO T r0 b.pc b.len) P0).m=(ops.foldl (bO b) M).m)
 | [],i,M,S,P,h,hs,hm,_,_,_,_,hP=>by
  subst hP;exact Or.inl ⟨h,hm⟩
 | o::r,i,M,S,P,h,hs,hm,hk,h1,h2,hp,hP=>by
  rw [List.length_cons]at h1 h2;rw [List.foldl_cons]at hp;obtain⟨k0,k1,k3⟩:=hk o List.mem_cons_self;obtain⟨a1,a2⟩:=nL hs k3 ah ah;have pr:=(oQ r (i+1) (stp S o) a1 (λo ho=>(hk o (List.mem_cons_of_mem _ ho)).2.2) ah ah).2;obtain⟨P',e1,e2,H⟩:=amK wr hT hne h hs hm k0 k1 k3 ah ah (pr.trans hp) rfl;have hP':(stp S o).evs.foldl (cO T r0 b.pc b.len) P0=P':=by rw [e1,List.foldl_append,hP,e2]
  simp only [List.foldl_cons];rcases H with⟨x1,x2⟩ | ⟨l1,l2,l3⟩
  .have:=Wp wr hT hne P0 r (i+1) _ _ P' x1 a1 x2 (λo ho=>hk o (List.mem_cons_of_mem _ ho)) ah ah hp hP';rw [List.length_cons,show i+(r.length+1)=i+1+r.length by omega];exact this
  .obtain⟨E,eE⟩:=Wn r (stp S o);refine Or.inr ?_;rw [ag3 b l1 r,eE,List.foldl_append,hP',J9 _ _ _ _ _ _ l2];exact⟨l1,l2,l3⟩
def aiE{t T:List Atom}{r0 L I:List Int}(w1:wOK r0)(w2:wOK L)(w3:wOK I)(h:aC t)(hl:t.length<=196)(hT:aC T)(r4:r0.length=4):∀n:Nat,n<=4->(rN t n).1<+:T->(rN t n).2.map (evF (tv r0 L I T))=r0.take n
 | 0,_,_=>rfl
 | n+1,hn,hp=>by
  have pr:=qd (rN t n).1 ⟨1,n,[],[]⟩;have ih:=aiE w1 w2 w3 h hl hT r4 n ah (pr.trans hp);show((rN t n).2++ [bQ (aI (rN t n).1 ⟨1,n,[],[]⟩).2]).map _=_;have e:=Tf (L:=L) (I:=I) w1 w2 w3 hT (y9 h hl (n:=n) ah) hp (Or.inl rfl);rw [if_pos rfl]at e;rw [List.map_append,ih,List.map_cons,List.map_nil,e,List.take_succ_eq_append_getElem ah];show r0.take n++ [gM r0 (n:Int)]=_;rw [aha ah ah,getD_lt ah];rfl
def Tg{v:List Int}{z:List aj}(g:(bE z).2=true):evF v z=(bE z).1:=by
 obtain⟨_,e,h0,h1⟩:=kQ g
 conv=>lhs;rw [e]
 exact Ab v ⟨h0,h1⟩
def amL(pc len:Int)(v:List Int){S:Sym}(h:aF S.x/\aF S.y):wO pc len (symEnd S (pc+len)) (evF v (symEnd S (pc+len)).x) (evF v (symEnd S (pc+len)).y)=wO pc len S (evF v S.x) (evF v S.y):=by
 unfold symEnd;rw [if_neg (by rw [aV h];simp)];split
 .rename_i c;unfold wO;dsimp only;rw [if_neg (by decide),if_pos (Or.inl rfl),if_pos c.1,Tg c.2]
 split
 .rfl
 split
 .rename_i c1 c2 c;have f34:S.fin=3\/S.fin=4:=by omega
  unfold wO;dsimp only;rw [if_neg (by decide),if_pos (Or.inl rfl),if_neg (show¬S.fin=2 by omega)];have iff:(S.x=S.y/\S.fin=3\/((bE S.x).2=true/\(bE S.y).2=true)/\(S.fin=3/\(bE S.x).1=(bE S.y).1\/S.fin=4/\(bE S.x).1< (bE S.y).1))↔(S.fin=1\/S.fin=3/\evF v S.x=evF v S.y\/S.fin=4/\evF v S.x<evF v S.y):=by
   by_cases e:S.x=S.y
   .rw [e];constructor
    .rintro(⟨_,q⟩ | ⟨_,⟨q,_⟩ | ⟨_,q⟩⟩)
     .exact Or.inr (Or.inl ⟨q,rfl⟩)
     .exact Or.inr (Or.inl ⟨q,rfl⟩)
     .omega
    .rintro(q | ⟨q,_⟩ | ⟨_,q⟩)
     .omega
     .exact Or.inl ⟨rfl,q⟩
     .omega
   .obtain⟨n1,n2⟩:=c.resolve_left e;rw [Tg n1,Tg n2];constructor
    .rintro(⟨q,_⟩ | ⟨_,q | q⟩)
     .exact absurd q e
     .exact Or.inr (Or.inl q)
     .exact Or.inr (Or.inr q)
    .rintro(q | q | q)
     .omega
     .exact Or.inr ⟨⟨n1,n2⟩,Or.inl q⟩
     .exact Or.inr ⟨⟨n1,n2⟩,Or.inr q⟩
  by_cases d:S.fin=1\/S.fin=3/\evF v S.x=evF v S.y\/S.fin=4/\evF v S.x<evF v S.y
  .rw [if_pos (iff.2 d),if_pos d]
  .rw [if_neg (λq=>d (iff.1 q)),if_neg d]
 split
 .rename_i c;unfold wO;dsimp only;rw [if_neg (show¬S.fin=2 by omega),if_neg (show¬S.fin=2 by omega)];have iff:(S.fin=1\/S.fin=3/\evF v S.y=evF v S.x\/S.fin=4/\evF v S.y<evF v S.x)↔(S.fin=1\/S.fin=3/\evF v S.x=evF v S.y\/S.fin=4/\evF v S.x<evF v S.y):=by omega
  by_cases d:S.fin=1\/S.fin=3/\evF v S.x=evF v S.y\/S.fin=4/\evF v S.x<evF v S.y
  .rw [if_pos (iff.2 d),if_pos d]
  .rw [if_neg (λq=>d (iff.1 q)),if_neg d]
 .rfl
theorem Ti{t T:List Atom}{b:Blk}{m:aH}(ht:aC t)(hl:t.length<=100)(hb:eP b)(hT:aC T)(hp:(bq t b).1<+:T)(hm:MOK m)(g0:m.halt=0)(g1:m.pc=b.pc)(g2:m.count<=1000000-b.len):lD b m=(uK T b.pc b.len (bq t b).2 m,true):=by
 have sz:=hb.sz;have er:bq t b=((dK t b).t,symEnd (mP b (dK t b)) (b.pc+b.len)):=by unfold bq;rw [if_pos (aV ⟨ht,hl,hb⟩)]
 rw [er]at hp ⊢;dsimp only at hp ⊢;have i0:=CZ ht ah;have SO:=(DX ht hl hb).1;have wr:wOK m.regs:=hm.rw;have pr:=(oQ b.ops 0 (s0 t) i0 hb.k3 ah ah).2;have op:∀o∈b.ops,(1<=o.kind/\o.kind<=8)/\(o.kind=1->0<=o.k/\o.k<=65535)/\(o.kind=3->1<=o.k/\o.k<=5):=λo ho=>by
  obtain⟨j,hj,rfl⟩:=List.getElem_of_mem ho;have:=hb.op j ah ah;rw [getD_lt ah]at this;exact⟨this.kd,this.k1,this.k3⟩
 have J0:PJ T m.regs ⟨m,[],false⟩ (s0 t) ⟨m,[],[],false⟩:=⟨rfl,rfl,rfl,rfl,λ_ h=>(by cases h),λ_ h=>(by cases h),λL I _ _ _ _=>rfl,λL I _ _ w2 w3=>by
  have:=aiE wr w2 w3 ht ah hT hm.r4 4 (Nat.le_refl _) (pr.trans hp);rw [List.take_of_length_le (by rw [hm.r4];exact Nat.le_refl _)]at this;exact this⟩
 have K0:MJ b 0 ⟨m,[],false⟩:=⟨rfl,rfl,λ_ h=>(by cases h),hm,g1,g0⟩;have hne:T≠ []:=by
  have q8:0<=(aI (rN t 3).1 ⟨1,((3:Nat):Int),[],[]⟩).2:=y9 ht ah (n:=3) ah;have q4:=mQ (y9 ht ah (n:=3) ah:0<=(aI (rN t 3).1 ⟨1,((3:Nat):Int),[],[]⟩).2);have q5:=jr (pr.trans hp);have q6:(s0 t).t=(aI (rN t 3).1 ⟨1,((3:Nat):Int),[],[]⟩).1:=rfl;intro z;rw [z,q6]at q5;have q7:=q4.1;simp only [List.length_nil]at q5;omega
 have F:=Wp wr hT hne ⟨m,[],[],false⟩ b.ops 0 ⟨m,[],false⟩ (s0 t) _ J0 i0 K0 op ah ah hp rfl;have pk:=Ae (b:=b) SO;obtain⟨ke,kr,_,_⟩:=qU (n:=b.pc+b.len) pk;have e0:lD b m=(Ai b (b.ops.foldl (bO b) ⟨m,[],false⟩),true):=by unfold lD;rw [aV ⟨hb,hm⟩,if_pos rfl,if_neg ah]
 rw [e0];unfold uK;rw [ke];show _=(IB T m.regs b.pc b.len (symEnd (mP b (dK t b)) (b.pc+b.len)) ((dK t b).evs.foldl (cO T m.regs b.pc b.len) ⟨m,[],[],false⟩),true);rw [show b.ops.foldl stp (s0 t)=dK t b from rfl]at F;generalize (dK t b).evs.foldl (cO T m.regs b.pc b.len) ⟨m,[],[],false⟩=P at F;generalize b.ops.foldl (bO b) ⟨m,[],false⟩=M at F;rcases F with⟨J,K⟩ | ⟨l1,l2,l3⟩
 .unfold Ai IB;rw [if_neg (show¬M.left=true by rw [K.lf];decide),if_neg (show¬P.left=true by rw [J.lf];decide),amL _ _ _ pk,kr];unfold pv;have ev:=J.v P.L P.I (List.prefix_refl _) (List.prefix_refl _) J.wl J.wi;have eg:=J.r P.L P.I (List.prefix_refl _) (List.prefix_refl _) J.wl J.wi;have wv:wOK M.vals:=K.wv;have vx:=λi:Int=>(Ka (f:=evF (tv m.regs P.L P.I T)) rfl (dK t b).vals i).symm
  rw [ev]at vx;have vw:=λi:Int=>K.wv.at i
  have en:=hb.en.f;refine Prod.ext ?_ rfl;show({M.m with count:=M.m.count+b.len,pc:=if b.fin=1 then b.k else if b.fin=2 then((M.vals).getD (b.x).toNat default)else if F6 (b.fin-2) ((M.vals).getD (b.x).toNat default) ((M.vals).getD (b.y).toNat default)=true then b.k else b.pc+b.len}:aH)=jD P.m (dK t b).regs (tv m.regs P.L P.I T) (wO b.pc b.len (mP b (dK t b)) (evF (tv m.regs P.L P.I T) (mP b (dK t b)).x) (evF (tv m.regs P.L P.I T) (mP b (dK t b)).y)) b.len 0;unfold jD;rw [eg,J.m];dsimp only;have epc:(if b.fin=1 then b.k else if b.fin=2 then((M.vals).getD (b.x).toNat default)else if F6 (b.fin-2) ((M.vals).getD (b.x).toNat default) ((M.vals).getD (b.y).toNat default)=true then b.k else b.pc+b.len)=wO b.pc b.len (mP b (dK t b)) (evF (tv m.regs P.L P.I T) (mP b (dK t b)).x) (evF (tv m.regs P.L P.I T) (mP b (dK t b)).y):=by
   unfold wO mP;dsimp only;by_cases f1:b.fin=1
   .rw [if_pos f1,if_neg ah,if_pos (Or.inl f1)]
   rw [if_neg f1];by_cases f2:b.fin=2
   .rw [if_pos f2,if_pos f2,if_neg f1,vx]
   rw [if_neg f2,if_neg f2,if_neg f1,if_pos (show 3<=b.fin by omega),vx b.x,vx b.y];obtain⟨q1,q2⟩:=Wi (vw b.x) (vw b.y);by_cases f3:b.fin=3
   .rw [f3,show(3:Int)-2=1 by decide];by_cases d:((M.vals).getD (b.x).toNat default)=((M.vals).getD (b.y).toNat default)
    .rw [if_pos (q1.2 d),if_pos (Or.inr (Or.inl ⟨rfl,d⟩))]
    .rw [if_neg (λz=>d (q1.1 z)),if_neg ah]
   .have f4:b.fin=4:=by omega
    rw [f4,show(4:Int)-2=2 by decide];by_cases d:((M.vals).getD (b.x).toNat default)< ((M.vals).getD (b.y).toNat default)
    .rw [if_pos (q2.2 d),if_pos (Or.inr (Or.inr ⟨rfl,d⟩))]
    .rw [if_neg (λz=>d (q2.1 z)),if_neg ah]
  rw [epc,<-K.ha]
 .unfold Ai IB;rw [if_pos l1,if_pos l2,l3]
noncomputable def Wq:List Int->List Ins
 | []=> []
 | w::r=>if bp (Wo w/\dO (sP w))=true then sP w::Wq r else []
def auW(e:Cac)(mem:List Int):Prop:=0<=e.blk.pc/\∀t:Nat,t<e.words.length->e.blk.pc+t<mem.length/\((mem).getD (e.blk.pc+t).toNat default)=e.words.getD t default
structure amM(e:Cac):Prop where
 len:(Wq e.words).length=e.words.length
 ok:wY e.blk.pc (Wq e.words)
 chk:chk (lower e.blk.pc (Wq e.words)) e.blk=true
structure arV(l:List Cac)(mem:List Int):Prop where
 n:l.length<=4
 r:∀e∈l,amM e/\auW e mem
 u:l.Pairwise λa b=>a.blk.pc≠b.blk.pc
structure au4(e:Eng):Prop where
 m:MOK e.gG
 c:arV e.cache e.gG.mem
 p:aiz e.Yb
def ahc{b:Blk}{m:aH}(hs:MSh m)(ho:m.outs.length<900000000):MSh (lD b m).1:=by
 by_cases k:bp (eP b/\MOK m)=true
 .by_cases k2:m.halt≠0\/m.pc≠b.pc\/1000000-b.len<m.count
  .have e:lD b m=(m,false):=by unfold lD;rw [if_pos k,if_pos k2]
   rw [e];exact hs
  .have e:lD b m=(Ai b (b.ops.foldl (bO b) ⟨m,[],false⟩),true):=by unfold lD;rw [if_pos k,if_neg k2]
   exact ac4 (b:=b) (m:=m) (by rw [e]) hs ho
 .have e:lD b m=(M5,false):=by unfold lD;rw [if_neg k]
  rw [e];exact⟨by decide,by decide,by decide,by decide⟩
def Ws{p:List aj}{v:List Int}(h:aF p)(hv:wOK v):(if bp (aF p/\wOK v)then evF v p else 0)=evF v p:=by rw [aV ⟨h,hv⟩,if_pos rfl]
def amN{p1 f1 p2 f2 p3 f3}(U1:Y11 p1 f1)(U2:Y10 p2 f2)(U3:acX p3 f3)(a:List aj)(v:List Int)(ha:Sh a)(hl:v.length<1000000000):Sk.F (p1,f1,p2,f2,p3,f3,()) (a,v,()) (λy=>y=(if bp (aF a/\wOK v)then evF v a else 0,())):=by
 dsimp only [Sk,gm];simp (disch:=omega) only [RR,U1.hp a ha,U1.hf a ha,U3.hp v hl,U3.hf v hl,aQ,jh];refine⟨λh=> ?_,λh=> ?_⟩
 .rw [bP (by rintro⟨g1,g2⟩;rcases h with h | h;exact h g1;exact h g2)];rfl
 obtain⟨ok,hv⟩:=h;rw [aV ⟨ok,hv⟩,if_pos rfl];have hlen:=ha.1;refine ak (λ(y:List Int×Int×Int×List aj×Unit)=>y.1=v/\y.2.2.2.1=a/\0<=y.2.2.1/\y.2.2.1<=a.length/\y.2.1=evF v (a.take y.2.2.1.toNat)) (λy=>(a.length-y.2.2.1).toNat) ⟨rfl,rfl,by simp,by simp,rfl⟩ ?_;rintro⟨(v':List Int),(s:Int),(i:Int),(l:List aj),⟨⟩⟩ hI;dsimp only at hI ⊢;obtain⟨rfl,rfl,h1,h2,rfl⟩:=hI;have hsr:=qP v' (l.take i.toNat);simp (disch:=omega) only [RR];refine⟨λh4=>⟨ah,ah,?_⟩,λh4=>by rw [List.take_of_length_le ah]⟩;have hm:=bN (d:=default) h1 h4;have hme:∃m,m=((l).getD (i).toNat default):=⟨_,rfl⟩;obtain⟨m,hme⟩:=hme;rw [<-hme]at hm ⊢;obtain⟨q1,q2,q3⟩:=ok.at hm;have q4:=(ok.aok hm).2.2;have hin:=w64 (x:=i+1) ah ah
 refine ak (λ(y:List Int×Int×Int×Int×Int×List aj×Unit)=>y.1=v'/\y.2.1=evF v' (l.take i.toNat)/\y.2.2.1=i/\y.2.2.2.2.2.1=l/\0<=y.2.2.2.2.1/\y.2.2.2.2.1<=m.atoms.length/\y.2.2.2.1=evM v' m.aW (m.atoms.take y.2.2.2.2.1.toNat)) (λy=>(m.atoms.length-y.2.2.2.2.1).toNat)
  ⟨rfl,rfl,rfl,rfl,by simp,by simp,rfl⟩ ?_
 rintro⟨(v2:List Int),(s:Int),(i2:Int),(c:Int),(j:Int),(l2:List aj),⟨⟩⟩ hI;dsimp only at hI ⊢;obtain⟨rfl,rfl,rfl,rfl,h5,h6,rfl⟩:=hI;have hcr:=VK (v:=v2) (l:=m.atoms.take j.toNat) ⟨ah,q1.2⟩;simp (disch:=omega) only [RR,U2.hp,U2.hf,<-hme];refine⟨ah,ah,λh7=>⟨ah,ah,ah,ah,?_⟩,λh7=>⟨⟨ah,ah,?_⟩,ah⟩⟩
 .have hk:=q4 _ (bN (d:=default) h5 h7);have hvr:=hv.at (((m.atoms).getD (j).toNat default)).toNat;have hval:=uG hv ((m.atoms).getD (j).toNat default);have step:evM v2 m.aW (m.atoms.take (j+1).toNat)=evM v2 m.aW (m.atoms.take j.toNat)*gM v2 ((m.atoms).getD (j).toNat default)%65536:=Ij _ _ h5 h7;have prod:=DT hcr.1 hcr.2 hval.1 hval.2;refine⟨λh8=>⟨ah,ah,ah,ah,ah,ah,⟨ah,ah,?_⟩,ah⟩,λh8=>⟨⟨ah,ah,?_⟩,ah⟩⟩
  .have hve:((v2).getD (((m.atoms).getD (j).toNat default)).toNat default)=gM v2 ((m.atoms).getD (j).toNat default):=by unfold gM;rw [if_pos h8]
   rw [hve,w64 ah ah];exact step.symm
  .have hve:0=gM v2 ((m.atoms).getD (j).toNat default):=by unfold gM;rw [if_neg h8]
   rw [step,<-hve]
 .have step:evF v2 (l2.take (i2+1).toNat)=(evF v2 (l2.take i2.toNat)+evM v2 (((l2).getD (i2).toNat default)).aW (((l2).getD (i2).toNat default)).atoms)%65536:=Ij _ _ h1 h4;rw [step,<-hme,show m.atoms.take j.toNat=m.atoms from List.take_of_length_le ah]
def adg(l:List Int)(k:Int):Sl.F () (l,k,()) (λy=>y=(if k<0 then 0 else gM l k,())):=by
 dsimp only [Sl,gm];simp (disch:=omega) only [RR];unfold gM;refine⟨λh=> ?_,λ⟨h1,h2⟩=>⟨ah,ah,by rw [if_neg h1,if_pos ah]⟩⟩;by_cases c:k<0
 .rw [if_pos c]
 .rw [if_neg c,if_neg ah]
def amO{p1 f1 p2 f2 p3 f3 p4 f4}(U1:Y51 p1 f1)(U2:Y29 p2 f2)(U3:Y24 p3 f3)(U4:acX p4 f4){p5:List Int×Int×Unit->Bool}{f5:List Int×Int×Unit->Int×Unit}(hp5:∀l k,p5 (l,k,())=true)(hf5:∀l k,f5 (l,k,())=(if k<0 then 0 else gM l k,()))(t:List Atom)(regs loads ins:List Int)(ht:ShT t)(h1:regs.length<1000000000)(h2:loads.length<1000000000)(h3:ins.length<1000000000):
  Sn.F (p1,f1,p2,f2,p3,f3,p4,f4,p5,f5,()) (t,regs,loads,ins,()) (λy=>y=(wH t regs loads ins,())):=by
 dsimp only [Sn,gm];simp (disch:=omega) only [RR,U2.hp t ht,U2.hf t ht,U4.hp regs h1,U4.hf regs h1,U4.hp loads h2,U4.hf loads h2,U4.hp ins h3,U4.hf ins h3,aQ,jh];refine⟨λh=> ?_,λh=> ?_⟩
 .unfold wH;rw [bP];rfl;rintro⟨g1,g2,g3,g4⟩;rcases h with((h | h) | h) | h
  .exact h g1
  .exact h g2
  .exact h g3
  .exact h g4
 obtain⟨⟨⟨g1,g2⟩,g3⟩,g4⟩:=h;have htl:=g1.2;unfold wH;rw [aV ⟨g1,g2,g3,g4⟩,if_pos rfl];refine ak (λ(y:List Int×List Int×List Int×Int×List Atom×List Int×Unit)=>y.1=regs/\y.2.1=loads/\y.2.2.1=ins/\y.2.2.2.2.1=t/\0<=y.2.2.2.1/\y.2.2.2.1<=t.length/\y.2.2.2.2.2.1=tv regs loads ins (t.take y.2.2.2.1.toNat)) (λy=>(t.length-y.2.2.2.1).toNat) ⟨rfl,rfl,rfl,rfl,by simp,by simp,rfl⟩ ?_;rintro⟨(r':List Int),(l':List Int),(n':List Int),(i:Int),(t':List Atom),(o:List Int),⟨⟩⟩ hI;dsimp only at hI ⊢;obtain⟨rfl,rfl,rfl,rfl,h5,h6,rfl⟩:=hI;have hol:=JO r' l' n' (t'.take i.toNat);have avq:=List.length_take_le' i.toNat t';have hok:=VL g2 g3 g4 (t'.take i.toNat);generalize ho:tv r' l' n' (t'.take i.toNat)=o at hol hok ⊢;simp (disch:=omega) only [RR,hp5,hf5,List.length_cons,List.length_nil];refine⟨λh7=> ?_,λh7=>by rw [<-ho,List.take_of_length_le ah]⟩;have hd:=(g1.1 i h5 h7).1;have sh:=ht.at i.toNat;have step:tv r' l' n' (t'.take (i+1).toNat)=o++ [aVal r' l' n' o ((t').getD (i).toNat default)]:=by rw [<-bB (d:=default) h5 h7 rfl,DV,ho]
 rw [step];generalize ((t').getD (i).toNat default)=a at hd sh ⊢;unfold dJ at hd;have hk:¬a.kind=4->0<=a.k:=λg=>by
  rw [if_neg g]at hd;omega
 unfold aVal;have lo:o.length<1000000000:=by omega
 refine⟨ah,ah,λk1=>⟨ah,⟨ah,ah,?_⟩,ah⟩,λk1=>⟨λk2=>⟨ah,⟨ah,ah,?_⟩,ah⟩,λk2=>⟨λk3=>⟨ah,⟨ah,ah,?_⟩,ah⟩,λk3=> ?_⟩⟩⟩
 .rw [if_neg (show¬a.k<0 by have:=hk ah;omega),if_pos k1]
 .rw [if_neg (show¬a.k<0 by have:=hk ah;omega),if_neg k1,if_pos k2]
 .rw [if_neg (show¬a.k<0 by have:=hk ah;omega),if_neg k1,if_neg k2,if_pos k3]
 .have k4:a.kind=4:=Classical.byContradiction λg=>by
   rw [if_neg g]at hd;omega
  rw [if_pos k4]at hd;obtain⟨_,e1,e2,_⟩:=hd;rw [U1.hf a.x o e1.sh lo,U1.hf a.y o e2.sh lo,Ws e1 hok,Ws e2 hok,if_neg k1,if_neg k2,if_neg k3,U3.hf];exact⟨U1.hp _ _ e1.sh lo,U1.hp _ _ e2.sh lo,U3.hp _ _ _,ah,⟨ah,ah,rfl⟩,ah⟩
structure ahd(e:Ev):Prop where
 kd:4<=e.kind/\e.kind<=7
 at_:0<=e.at_/\e.at_<8
 x:aF e.x
 y:aF e.y
 r:∀p∈e.regs,aF p
 rl:e.regs.length<=4
theorem Wt{n:Int}:∀(ops:List IOp) (i:Nat) (s:SS),SI n i s->(∀o∈ops,(o.kind=3->1<=o.k/\o.k<=5)/\(evO o->0<=o.at_/\o.at_<8))->n+i+ops.length<=200->i+ops.length<=200->(∀e∈s.evs,ahd e)->(∀e∈(ops.foldl stp s).evs,ahd e)/\(ops.foldl stp s).evs.length<=s.evs.length+ops.length
 | [],_,_,_,_,_,_,h=>⟨h,Nat.le_refl _⟩
 | o::r,i,s,hs,hk,h1,h2,h=>by
  rw [List.length_cons]at h1 h2;obtain⟨k3,ka⟩:=hk o List.mem_cons_self;obtain⟨a1,_⟩:=nL hs k3 ah ah;have e0:(stp s o).evs=nE s o:=rfl;have q:(∀e∈(stp s o).evs,ahd e)/\(stp s o).evs.length<=s.evs.length+1:=by
   rw [e0];unfold nE;split
   .rename_i c;refine⟨λe he=> ?_,by rw [List.length_append];exact Nat.le_refl _⟩;rw [List.mem_append,List.mem_singleton]at he;rcases he with he | rfl
    .exact h e he
    .refine⟨⟨c.1,c.2⟩,ka c,(hs.x o).1,(hs.y o).1,λp hp=> ?_,?_⟩
     .dsimp only at hp;split at hp
      .exact(hs.rok p hp).1
      .cases hp
     .dsimp only;split
      .rw [hs.r4];exact Nat.le_refl _
      .exact Nat.zero_le _
   .exact⟨h,Nat.le_succ _⟩
  obtain⟨r1,r2⟩:=Wt r (i+1) (stp s o) a1 (λo ho=>hk o (List.mem_cons_of_mem _ ho)) ah ah q.1;exact⟨r1,by rw [List.foldl_cons,List.length_cons];have:=q.2;omega⟩
structure ahe(T:List Atom)(S:Sym)(b:Blk)(m:aH):Prop where
 t:aC T
 e:∀e∈S.events,ahd e
 el:S.events.length<=48
 r:∀p∈S.regs,aF p
 rl:S.regs.length<=4
 x:aF S.x
 y:aF S.y
 mo:MOK m
 pc:0<=b.pc/\b.pc<=64
 ln:0<=b.len/\b.len<=8
 ins:m.ins.length<1000000000
 out:m.outs.length<800000000
theorem ahf{t:List Atom}{b:Blk}{m:aH}(ht:aC t)(hl:t.length<=100)(hb:eP b)(hm:MOK m)(h1:m.ins.length<1000000000)(h2:m.outs.length<800000000):ahe (bq t b).1 (bq t b).2 b m:=by
 have sz:=hb.sz;have ln:=hb.ln;have pc:=hb.pc;have er:bq t b=((dK t b).t,symEnd (mP b (dK t b)) (b.pc+b.len)):=by unfold bq;rw [if_pos (aV ⟨ht,hl,hb⟩)]
 have i0:=CZ ht ah;have SO:=(DX ht hl hb).1;have hk:=qU (n:=b.pc+b.len) (Ae (b:=b) SO);obtain⟨v1,v2⟩:=Wt b.ops 0 (s0 t) i0 (λo ho=>by
  obtain⟨j,hj,rfl⟩:=List.getElem_of_mem ho;have:=hb.op j ah ah;rw [getD_lt ah]at this;exact⟨this.k3,λc=>by have h2:0<=b.ops[j].at_/\b.ops[j].at_<b.len:=this.a1 c;omega⟩) ah ah (λe he=>absurd he (by simp [s0]))
 have z:(s0 t).evs.length=0:=rfl;rw [er];refine⟨SO.tok,?_,?_,?_,?_,hk.2.2.1,hk.2.2.2,hm,ah,ah,h1,h2⟩
 .rw [hk.1];exact v1
 .rw [hk.1];show(b.ops.foldl stp (s0 t)).evs.length<=48;omega
 .rw [hk.2.1];exact λp hp=>(SO.rok p hp).1
 .rw [hk.2.1];show(dK t b).regs.length<=4;rw [SO.r4];exact Nat.le_refl _
def Da{T:List Atom}{S:Sym}{b:Blk}{m:aH}{k:Nat}{P:PS}(h:(S.events.take (k+1)).foldl (cO T m.regs b.pc b.len) ⟨m,[],[],false⟩=P)(l:P.left=true):uK T b.pc b.len S m=P.m:=by
 have e:S.events.foldl (cO T m.regs b.pc b.len) ⟨m,[],[],false⟩=P:=by
  conv=>lhs;rw [<-List.take_append_drop (k+1) S.events]
  rw [List.foldl_append,h];exact J9 _ _ _ _ _ _ l
 unfold uK IB;rw [e,if_pos l]
abbrev mL(m : aH) : Int × List Int × Int × Bool × Bool × Int × List Int × List Int × Int × List Int × Unit := (m.pc, m.mem, m.save, m.cZ, m.waits, m.halt, m.ins, m.outs, m.count, m.regs, ())
def arW{T:List Atom}{r L I:List Int}(h:aC T)(h1:wOK r)(h2:wOK L)(h3:wOK I):wH T r L I=tv r L I T:=by unfold wH;rw [aV ⟨h,h1,h2,h3⟩,if_pos rfl]
def aiF{p1 f1}(U1:Y51 p1 f1)(m:aH)(rg:List (List aj))(v:List Int)(pc n h:Int)(hr:∀p∈rg,aF p)(hl:rg.length<=4)(hv:wOK v)(hw:v.length<1000000000)(hc:0<=m.count/\m.count<=1000000)(hn:0<=n/\n<=1000):abI.F (p1,f1,()) (m,rg,v,pc,n,h,()) (λy=>y=mL (jD m rg v pc n h)):=by
 dsimp only [abI,gm];simp (disch:=omega) only [RR,MRB];refine ak (λy=>∃k:Nat,k<=rg.length/\y=(rg,v,pc,n,h,(k:Int),m,0,0,false,false,0,0,m.pc,m.mem,m.save,m.cZ,m.waits,m.halt,m.ins,m.outs,m.count,(rg.take k).map (evF v),())) (λy=>(rg.length-y.2.2.2.2.2.1).toNat) ⟨0,ah,rfl⟩ ?_;rintro y ⟨k,k1,rfl⟩;dsimp only;by_cases kk:(k:Int)<rg.length
 .have hm:=bN (d:=default) (show(0:Int)<=(k:Int) by omega) kk;have ok:=hr _ hm;simp (disch:=omega) only [RR,kk,U1.hp _ _ ok.sh hw,U1.hf _ _ ok.sh hw,Ws ok hv,List.length_cons,List.length_nil,List.length_map,List.length_take];have ts:=bB (d:=default) (show(0:Int)<=(k:Int) by omega) kk rfl;rw [show((k:Int)+1).toNat=k+1 by omega,show(k:Int).toNat=k by omega]at ts;refine⟨ah,ah,⟨k+1,ah,?_⟩,ah⟩;rw [<-ts,List.map_append];rfl
 .simp (disch:=omega) only [RR,kk,MRB,List.take_of_length_le (show rg.length<=k by omega)];rfl
set_option maxHeartbeats 1000000 in
theorem arX{p2 f2}{p1:aH×List (List aj)×List Int×Int×Int×Int×Unit->Bool}{f1:aH×List (List aj)×List Int×Int×Int×Int×Unit->Int×List Int×Int×Bool×Bool×Int×List Int×List Int×Int×List Int×Unit}(hp1:∀(m:aH) (rg:List (List aj)) (v:List Int) (pc n h:Int),(∀p∈rg,aF p)->rg.length<=4->wOK v->v.length<1000000000->(0<=m.count/\m.count<=1000000)->(0<=n/\n<=1000)->p1 (m,rg,v,pc,n,h,())=true)(hf1:∀(m:aH) (rg:List (List aj)) (v:List Int) (pc n h:Int),(∀p∈rg,aF p)->rg.length<=4->wOK v->v.length<1000000000->(0<=m.count/\m.count<=1000000)->(0<=n/\n<=1000)->f1 (m,rg,v,pc,n,h,())=mL (jD m rg v pc n h))(U2:Y51 p2 f2){p3:List Atom×List Int×List Int×List Int×Unit->Bool}{f3:List Atom×List Int×List Int×List Int×Unit->List Int×Unit}(hp3:∀t regs loads ins,ShT t->regs.length<1000000000->loads.length<1000000000->ins.length<1000000000->p3 (t,regs,loads,ins,())=true)(hf3:∀t regs loads ins,ShT t->regs.length<1000000000->loads.length<1000000000->ins.length<1000000000->f3 (t,regs,loads,ins,())=(wH t regs loads ins,()))(T:List Atom)(S:Sym)(b:Blk)(m:aH)(h:ahe T S b m):abJ.F (p1,f1,p2,f2,p3,f3,()) (T,S,b,m,()) (λy=>y=mL (uK T b.pc b.len S m)):=by
 have mK:∀(a1:List Int) (a2:Int) (a3:List Int) (a4:Int) (a5 a6:Bool) (a7:Int) (a8 a9:List Int) (a10:Int),Co.mk .gG (a1,a2,a3,a4,a5,a6,a7,a8,a9,a10,())=⟨a1,a2,a3,a4,a5,a6,a7,a8,a9,a10⟩:=λ_ _ _ _ _ _ _ _ _ _=>rfl
 have m64:=h.mo.m64;have el:=h.el;have pc:=h.pc;have ln:=h.ln;have out:=h.out;have wr:wOK m.regs:=h.mo.rw;have r4:=h.mo.r4;have F1:(∀e:Ev,fZ .ev 0 e=e.kind)/\(∀e:Ev,fZ .ev 1 e=e.at_)/\(∀e:Ev,je .ev 2 .mono e=e.x)/\(∀e:Ev,je .ev 3 .mono e=e.y)/\(∀e:Ev,je .ev 4 .poly e=e.regs)/\(∀s:Sym,je .sym 0 .ev s=s.events)/\(∀s:Sym,je .sym 1 .poly s=s.regs)/\(∀s:Sym,fZ .sym 2 s=s.fin)/\(∀s:Sym,je .sym 3 .mono s=s.x)/\(∀s:Sym,je .sym 4 .mono s=s.y)/\(∀s:Sym,fZ .sym 5 s=s.k)/\(∀b:Blk,fZ .blk 0 b=b.pc)/\(∀b:Blk,fZ .blk 1 b=b.len):=⟨λ_=>rfl,λ_=>rfl,λ_=>rfl,λ_=>rfl,λ_=>rfl,λ_=>rfl,λ_=>rfl,λ_=>rfl,λ_=>rfl,λ_=>rfl,λ_=>rfl,λ_=>rfl,λ_=>rfl⟩;dsimp only [abJ,gm];simp (disch:=omega) only [RR,MRB,F1];refine⟨by simp only [List.length_nil];omega,by simp only [List.length_nil];omega,?_⟩
 refine ak (λy=>∃(k:Nat) (P:PS),k<=S.events.length/\(S.events.take k).foldl (cO T m.regs b.pc b.len) ⟨m,[],[],false⟩=P/\P.left=false/\P.m={m with mem:=P.m.mem,ins:=P.m.ins,outs:=P.m.outs}/\P.m.mem.length=64/\P.m.ins.length<=m.ins.length/\P.m.outs.length<=m.outs.length+k/\P.L.length<=k/\P.I.length<=k/\wOK P.L/\wOK P.I/\wOK P.m.mem/\wOK P.m.ins/\
   y=((k:Int),T,S,b,m,0,0,false,false,0,0,m.regs,m.pc,m.save,m.cZ,m.waits,m.halt,P.m.ins,m.count,P.L,P.I,P.m.mem,P.m.outs,())) (λy=>(S.events.length-y.1).toNat)
  ⟨0,⟨m,[],[],false⟩,ah,rfl,rfl,rfl,m64,Nat.le_refl _,Nat.le_refl _,Nat.le_refl _,Nat.le_refl _,λ_ q=>(by cases q),λ_ q=>(by cases q),h.mo.mw,h.mo.iw,rfl⟩ ?_
 rintro y ⟨k,P,k1,k2,k3,k4,k5,k6,k7,k8,k9,w1,w2,w3,w4,rfl⟩;dsimp only;have tv3:=arW h.t wr w1 w2;have tvo:=VL wr w1 w2 T;have tvl:=JO m.regs P.L P.I T;have tl:=h.t.2;have P3:=hp3 T m.regs P.L P.I h.t.sh ah ah ah;have H3:=hf3 T m.regs P.L P.I h.t.sh ah ah ah;rw [tv3]at H3;have lv:(tv m.regs P.L P.I T).length<1000000000:=by omega
 have P2:=λp (q:aF p)=>U2.hp p (tv m.regs P.L P.I T) q.sh lv
 have H2:∀p,aF p->f2 (p,tv m.regs P.L P.I T,())=(evF (tv m.regs P.L P.I T) p,()):=λp q=>by rw [U2.hf p _ q.sh lv,Ws q tvo]
 have mm:=h.mo.ct;have E1:∀M:aH,M.count=m.count->∀(rg:List (List aj)) (pc n hh:Int),(∀p∈rg,aF p)->rg.length<=4->0<=n->n<=1000->p1 (M,rg,tv m.regs P.L P.I T,pc,n,hh,())=true/\f1 (M,rg,tv m.regs P.L P.I T,pc,n,hh,())=mL (jD M rg (tv m.regs P.L P.I T) pc n hh):=λM c rg pc n hh a1 a2 a3 a4=>⟨hp1 M rg _ pc n hh a1 a2 tvo lv (by rw [c];exact mm) ⟨a3,a4⟩,hf1 M rg _ pc n hh a1 a2 tvo lv (by rw [c];exact mm) ⟨a3,a4⟩⟩
 by_cases kk:(k:Int)<S.events.length
 .have hm:=bN (d:=default) (show(0:Int)<=(k:Int) by omega) kk;have ok:=h.e _ hm;have st:(S.events.take (k+1)).foldl (cO T m.regs b.pc b.len) ⟨m,[],[],false⟩=cO T m.regs b.pc b.len P ((S.events).getD ((k:Int)).toNat default):=by
   have:=bB (d:=default) (l:=S.events) (i:=(k:Int)) ah kk rfl;rw [show((k:Int)+1).toNat=k+1 by omega,show(k:Int).toNat=k by omega]at this;rw [<-this,List.foldl_append,k2];rfl
  generalize ((S.events).getD ((k:Int)).toNat default)=e at ok st;obtain⟨kd,at1,ox,oy,or_,orl⟩:=ok;have px:=P2 _ ox;have hx:=H2 _ ox;have py:=P2 _ oy;have hy:=H2 _ oy;have a0:=qP (tv m.regs P.L P.I T) e.x;have b0:=qP (tv m.regs P.L P.I T) e.y;have lf:¬P.left=true:=by rw [k3];decide
  have K:∀P':PS,cO T m.regs b.pc b.len P e=P'->P'.left=false->P'.m={m with mem:=P'.m.mem,ins:=P'.m.ins,outs:=P'.m.outs}->P'.m.mem.length=64->P'.m.ins.length<=m.ins.length->P'.m.outs.length<=m.outs.length+(k+1)->P'.L.length<=k+1->P'.I.length<=k+1->wOK P'.L->wOK P'.I->wOK P'.m.mem->wOK P'.m.ins->
    ∃(k_1:Nat) (P_1:PS),k_1<=S.events.length/\(S.events.take k_1).foldl (cO T m.regs b.pc b.len) ⟨m,[],[],false⟩=P_1/\P_1.left=false/\P_1.m={m with mem:=P_1.m.mem,ins:=P_1.m.ins,outs:=P_1.m.outs}/\P_1.m.mem.length=64/\P_1.m.ins.length<=m.ins.length/\P_1.m.outs.length<=m.outs.length+k_1/\P_1.L.length<=k_1/\P_1.I.length<=k_1/\wOK P_1.L/\wOK P_1.I/\wOK P_1.m.mem/\wOK P_1.m.ins/\
     ((k:Int)+1,T,S,b,m,(0:Int),(0:Int),false,false,(0:Int),(0:Int),m.regs,m.pc,m.save,m.cZ,m.waits,m.halt,P'.m.ins,m.count,P'.L,P'.I,P'.m.mem,P'.m.outs,())=((k_1:Int),T,S,b,m,(0:Int),(0:Int),false,false,(0:Int),(0:Int),m.regs,m.pc,m.save,m.cZ,m.waits,m.halt,P_1.m.ins,m.count,P_1.L,P_1.I,P_1.m.mem,P_1.m.outs,()):=
   λP' q a1 a2 a3 a4 a5 a6 a7 a8 a9 a10 a11=>⟨k+1,P',ah,st.trans q,a1,a2,a3,a4,a5,a6,a7,a8,a9,a10,a11,rfl⟩
  have av:=qP (tv m.regs P.L P.I T) e.x;simp (disch:=omega) only [RR,kk,P3,H3,px,hx,py,hy,mK,List.length_cons,List.length_nil];refine⟨ah,λq7=>⟨ah,?_,ah⟩,λq7=>⟨λq6=>⟨λq=>⟨ah,ah,ah,ah,ah,ah,?_,ah⟩,λq=>⟨ah,?_,ah⟩⟩,λq6=>⟨λq=> ?_,λq=>⟨λq4=>⟨ah,ah,ah,ah,ah,?_,ah⟩,λq4=>⟨ah,ah,ah,ah,λc=> ?_,λc'=>⟨?_,ah⟩⟩⟩⟩⟩⟩
  .exact K ⟨{P.m with outs:=P.m.outs++ [evF (tv m.regs P.L P.I T) e.x]},P.L,P.I,P.left⟩ (by unfold cO pv;rw [if_neg lf,if_pos q7]) k3 (by show({P.m with outs:=_}:aH)=_;rw [k4]) k5 k6 (by show(P.m.outs++ [_]).length<=_;rw [List.length_append,List.length_cons,List.length_nil];omega) (by show P.L.length<=_;omega) (by show P.I.length<=_;omega) w1 w2 w3 w4
  .have hd:List.drop (Int.toNat 1) (List.take ((P.m.ins.length:Int)).toNat P.m.ins)=P.m.ins.drop 1:=by rw [show((P.m.ins.length:Int)).toNat=P.m.ins.length from rfl,List.take_of_length_le (Nat.le_refl _)];rfl
   rw [hd];exact K ⟨{P.m with ins:=P.m.ins.drop 1},P.L,P.I++ [P.m.ins.getD 0 default],P.left⟩ (by unfold cO pv;rw [if_neg lf,if_neg q7,if_pos q6]) k3 (by show({P.m with ins:=_}:aH)=_;rw [k4]) k5 (by show(P.m.ins.drop 1).length<=_;rw [List.length_drop];omega) (by show P.m.outs.length<=_;omega) (by show P.L.length<=_;omega) (by show(P.I++ [_]).length<=_;rw [List.length_append,List.length_cons,List.length_nil];omega) w1 (w2.snoc (w4.at 0)) w3 (λz hz=>w4 z (List.mem_of_mem_drop hz))
  .have h0:P.m.ins=[]:=List.eq_nil_of_length_eq_zero ah;have hi:P.m.ins.getD 0 default=0:=by rw [h0];rfl
   have hd:P.m.ins.drop 1=P.m.ins:=by rw [h0];rfl
   have:=K ⟨{P.m with ins:=P.m.ins.drop 1},P.L,P.I++ [P.m.ins.getD 0 default],P.left⟩ (by unfold cO pv;rw [if_neg lf,if_neg q7,if_pos q6]) k3 (by show({P.m with ins:=_}:aH)=_;rw [k4]) k5 (by show(P.m.ins.drop 1).length<=_;rw [List.length_drop];omega) (by show P.m.outs.length<=_;omega) (by show P.L.length<=_;omega) (by show(P.I++ [_]).length<=_;rw [List.length_append,List.length_cons,List.length_nil];omega) w1 (w2.snoc (w4.at 0)) w3 (λz hz=>w4 z (List.mem_of_mem_drop hz));dsimp only at this;rw [hi,hd]at this;exact this
  .have hb:IntKind.i64.wrap (b.pc+e.at_)=b.pc+e.at_:=w64 ah ah;obtain⟨g1,g2⟩:=E1 ⟨m.regs,m.pc,P.m.mem,m.save,m.cZ,m.waits,m.halt,P.m.ins,P.m.outs,m.count⟩ rfl e.regs (b.pc+e.at_) e.at_ 3 or_ orl at1.1 ah;refine⟨g1,?_⟩;rw [g2];show mL _=mL _;have pl:=Da (b:=b) (P:=cO T m.regs b.pc b.len P e) st (by unfold cO pv;rw [if_neg lf,if_neg q7,if_neg q6,if_pos q]);rw [pl];unfold cO pv;rw [if_neg lf,if_neg q7,if_neg q6,if_pos q,k4]
  .exact K ⟨P.m,P.L++ [((P.m.mem).getD (evF (tv m.regs P.L P.I T) e.x).toNat default)],P.I,P.left⟩ (by unfold cO pv;rw [if_neg lf,if_neg q7,if_neg q6,if_neg q,if_pos q4]) k3 k4 k5 k6 (by show P.m.outs.length<=_;omega) (by show(P.L++ [_]).length<=_;rw [List.length_append,List.length_cons,List.length_nil];omega) (by show P.I.length<=_;omega) (w1.snoc (w3.at _)) w2 w3 w4
  .obtain⟨g1,g2⟩:=E1 ⟨m.regs,m.pc,P.m.mem.set (evF (tv m.regs P.L P.I T) e.x).toNat (evF (tv m.regs P.L P.I T) e.y),m.save,m.cZ,m.waits,m.halt,P.m.ins,P.m.outs,m.count⟩ rfl e.regs (b.pc+e.at_+1) (e.at_+1) 0 or_ orl ah ah;refine⟨g1,?_⟩;rw [g2];show mL _=mL _;have pl:=Da (b:=b) (P:=cO T m.regs b.pc b.len P e) st (by unfold cO pv;rw [if_neg lf,if_neg q7,if_neg q6,if_neg q,if_neg q4,if_pos c]);rw [pl];unfold cO pv;rw [if_neg lf,if_neg q7,if_neg q6,if_neg q,if_neg q4,if_pos c,k4]
  .exact K ⟨{P.m with mem:=P.m.mem.set (evF (tv m.regs P.L P.I T) e.x).toNat (evF (tv m.regs P.L P.I T) e.y)},P.L,P.I,P.left⟩ (by unfold cO pv;rw [if_neg lf,if_neg q7,if_neg q6,if_neg q,if_neg q4,if_neg (λz=>by rw [decide_eq_true z.1,decide_eq_true z.2]at c';cases c')]) k3 (by show({P.m with mem:=_}:aH)=_;rw [k4]) (by show(P.m.mem.set _ _).length=64;rw [List.length_set];exact k5) k6 (by show P.m.outs.length<=_;omega) (by show P.L.length<=_;omega) (by show P.I.length<=_;omega) w1 w2 (Wos.set w3 b0 _) w4
 .have px:=P2 _ h.x;have hx:=H2 _ h.x;have py:=P2 _ h.y;have hy:=H2 _ h.y;have k2':S.events.foldl (cO T m.regs b.pc b.len) ⟨m,[],[],false⟩=P:=by rw [<-k2,List.take_of_length_le ah]
  have pl:uK T b.pc b.len S m=jD P.m S.regs (tv m.regs P.L P.I T) (wO b.pc b.len S (evF (tv m.regs P.L P.I T) S.x) (evF (tv m.regs P.L P.I T) S.y)) b.len 0:=by
   unfold uK IB;rw [k2',if_neg (show¬P.left=true by rw [k3];decide)];rfl
  rw [pl];simp (disch:=omega) only [RR,kk,P3,H3,px,hx,py,hy,mK];have G:∀q:Int,wO b.pc b.len S (evF (tv m.regs P.L P.I T) S.x) (evF (tv m.regs P.L P.I T) S.y)=q->mL (jD ⟨m.regs,m.pc,P.m.mem,m.save,m.cZ,m.waits,m.halt,P.m.ins,P.m.outs,m.count⟩ S.regs (tv m.regs P.L P.I T) q b.len 0)=mL (jD P.m S.regs (tv m.regs P.L P.I T) (wO b.pc b.len S (evF (tv m.regs P.L P.I T) S.x) (evF (tv m.regs P.L P.I T) S.y)) b.len 0):=λq e=>by rw [e,k4]
  have E2:=λq:Int=>E1 ⟨m.regs,m.pc,P.m.mem,m.save,m.cZ,m.waits,m.halt,P.m.ins,P.m.outs,m.count⟩ rfl S.regs q b.len 0 h.r h.rl ah ah
  refine⟨λc=>⟨λc2=> ?_,λc2=> ?_⟩,λc=>⟨λc2=> ?_,λc2=> ?_⟩⟩
  .refine⟨(E2 _).1,?_⟩;rw [(E2 _).2];exact G (evF (tv m.regs P.L P.I T) S.x) (by unfold wO;rw [if_pos c2])
  .refine⟨(E2 _).1,?_⟩;rw [(E2 _).2];exact G S.k (by unfold wO;rw [if_neg c2,if_pos ah])
  .refine⟨(E2 _).1,?_⟩;rw [(E2 _).2];exact G (evF (tv m.regs P.L P.I T) S.x) (by unfold wO;rw [if_pos c2])
  .refine⟨(E2 _).1,?_⟩;rw [(E2 _).2];exact G (b.pc+b.len) (by
    unfold wO;rw [if_neg c2,if_neg ?_];intro z;obtain⟨⟨d1,d2⟩,d3⟩:=c;rcases z with z | ⟨z1,z2⟩ | ⟨z1,z2⟩
    .exact d1 z
    .rw [decide_eq_true z1,decide_eq_true z2]at d2;cases d2
    .rw [decide_eq_true z1,decide_eq_true z2]at d3;cases d3)
set_option maxHeartbeats 1000000 in
theorem arY{p1 f1 p2 f2 p3 f3 p4 f4 p6 f6 p7 f7 p8 f8 p9 f9 p10 f10 p11 f11 p12 f12}(U1:auL p1 f1)(U2:Y88 p2 f2)(U3:auM p3 f3)(U4:Y47 p4 f4){p5:List Atom×Sym×Blk×aH×Unit->Bool}{f5:List Atom×Sym×Blk×aH×Unit->Int×List Int×Int×Bool×Bool×Int×List Int×List Int×Int×List Int×Unit}(hp5:∀(T:List Atom) (S:Sym) (b:Blk) (m:aH),ahe T S b m->p5 (T,S,b,m,())=true)(hf5:∀(T:List Atom) (S:Sym) (b:Blk) (m:aH),ahe T S b m->f5 (T,S,b,m,())=mL (uK T b.pc b.len S m))(U6:Y90 p6 f6)(U7:Y48 p7 f7)(U8:auN p8 f8)(U9:Y89 p9 f9)(U10:Y60 p10 f10)(U11:ag1 p11 f11)(U12:Y88 p12 f12)(c d:List Int)(hc:By c)(hd:By d):abK.F (p1,f1,p2,f2,p3,f3,p4,f4,p5,f5,p6,f6,p7,f7,p8,f8,p9,f9,p10,f10,p11,f11,p12,f12,()) (c,d,()) (λy=>y=(true,())):=by
 obtain⟨hp1,hf1⟩:=U1;obtain⟨hp2,hf2⟩:=U2;obtain⟨hp3,hf3⟩:=U3;obtain⟨hp4,hf4⟩:=U4;obtain⟨hp6,hf6⟩:=U6;obtain⟨hp7,hf7⟩:=U7;obtain⟨hp8,hf8⟩:=U8;obtain⟨hp9,hf9⟩:=U9;obtain⟨XC,acA⟩:=U10;obtain⟨XD,XE⟩:=U11;obtain⟨J2,J3⟩:=U12;have mK:∀(a1:List Int) (a2:Int) (a3:List Int) (a4:Int) (a5 a6:Bool) (a7:Int) (a8 a9:List Int) (a10:Int),Co.mk .gG (a1,a2,a3,a4,a5,a6,a7,a8,a9,a10,())=⟨a1,a2,a3,a4,a5,a6,a7,a8,a9,a10⟩:=λ_ _ _ _ _ _ _ _ _ _=>rfl
 have mX:∀M:aH,(⟨M.regs,M.pc,M.mem,M.save,M.cZ,M.waits,M.halt,M.ins,M.outs,M.count⟩:aH)=M:=λ_=>rfl
 have F1:(∀s:Sym,fZ .sym 2 s=s.fin)/\(∀b:Blk,fZ .blk 0 b=b.pc)/\(∀t:List Atom,je .tab 0 .atom t=t):=⟨λ_=>rfl,λ_=>rfl,λ_=>rfl⟩;dsimp only [abK,gm]at*;simp (disch:=omega) only [RR];intro hh;have hl:¬1048576< (c.length:Int):=λg=>by simp [g]at hh
 have hm:¬1048576< (d.length:Int):=λg=>by simp [g]at hh
 have D1:=hf9 c hc ah;have P1:=hp9 c hc ah;obtain⟨D2,D3,D4⟩:=hf8 d hd ah;have P2:=hp8 d hd ah;generalize f9 (c,())=y1 at D1 ⊢;generalize f8 (d,())=y3 at D2 D3 D4 ⊢;obtain⟨t,b,⟨⟩⟩:=y1;obtain⟨blk,pc0,mem,save,lt,wt,ha0,ins,ct,regs,outs,⟨⟩⟩:=y3;dsimp only [mD]at D1 D2 D3 D4;obtain⟨d1,d2,d3⟩:=D1;have c1:b.ops.length<1000000000:=by omega
 have c2:blk.ops.length<1000000000:=by omega
 obtain⟨sy,st⟩:=JV t b;have P11:=XD ⟨regs,pc0,mem,save,lt,wt,ha0,ins,outs,ct⟩ D2;have H11:=XE ⟨regs,pc0,mem,save,lt,wt,ha0,ins,outs,ct⟩ D2;have ms:MSh ⟨regs,b.pc,mem,save,lt,wt,0,ins,outs,0⟩:=D2;have mo:(⟨regs,b.pc,mem,save,lt,wt,0,ins,outs,0⟩:aH).outs.length<900000000:=by show outs.length<900000000;omega
 simp (disch:=omega) only [RR,F1,decide_true,decide_false,Bool.true_or,Bool.or_true,Bool.false_or,Bool.or_false,hl,hm,P1,P2,mK,hp2 t b d1 c1,hf2 t b d1 c1,J2 t b d1 c1,J3 t b d1 c1,hp7 _ _ st,hf7 _ _ st,hp6 _ _ rfl sy,hf6 _ _ rfl sy,aV rfl,hp4,hf4,XC _ c2,acA _ c2,P11,H11,hp1 b _ c1 ms mo,hf1 b _ c1 ms mo];have bT:bp True=true:=aV trivial;refine⟨λq=>(by rw [bT]at q;cases q),λ_=> ?_⟩;by_cases C:aC t/\t.length<=100/\eP b
 .obtain⟨k1,k2,k3⟩:=C;have ne:=(C8 k1 k2 k3).ne;have ln:=k3.ln;have pc:=k3.pc;refine⟨λq=>by omega,λ_=> ?_⟩;rintro⟨_,h2⟩;have mok:=aQ.1 h2;have arZ:MOK ⟨regs,b.pc,mem,save,lt,wt,0,ins,outs,0⟩:=⟨mok.r4,mok.rw,mok.m64,mok.mw,⟨show 0<=b.pc by omega,show b.pc<=65535 by omega⟩,mok.sv,mok.iw,mok.ow,⟨show(0:Int)<=0 by decide,show(0:Int)<=4 by decide⟩,⟨show(0:Int)<=0 by decide,show(0:Int)<=1000000 by decide⟩⟩;have R:=Ti (T:=(bq t b).1) k1 k2 k3 (BZ k1 k2 k3).1 (List.prefix_refl _) arZ rfl rfl (show(0:Int)<=1000000-b.len by omega);have PK:=ahf k1 k2 k3 arZ ms.2.2.1 (show outs.length<800000000 from D3);have SM:=ahc (b:=b) ms mo;rw [R]at SM ⊢;dsimp only at SM ⊢;simp only [hp5 _ _ _ _ PK,hf5 _ _ _ _ PK,mX,hp3 _ _ SM,hf3 _ _ SM,aV rfl,Bool.true_eq_false,false_or,true_and,Bool.and_self,forall_const,false_implies,and_true,bT]
 .have e:bq t b=([],Sz):=by unfold bq;rw [bP C,if_neg (by decide)]
  rw [e];exact⟨λ_=>rfl,λq=>absurd rfl q⟩
end Go.TX.F
namespace Go.TX
open Go Go.AE
def enters_of{P:Program}{f:FuncId}{fn:Func}{c:Code}(hf:P.funcs[f]? =some fn)(hname:(fn.name== "runtime.NumGoroutine")=false)(hb:fn.body=some c):Enters P f:=by
 intro args w;have h1:fn.name≠ "runtime.NumGoroutine" :=by simpa using hname
 simp [callFunc,hf,h1,hb,mark]
def Wu(P:Program):Nat->List Field->Bool
 | _,[]=>true
 | k,f::fs=> !(f.name== "_")&&f.offset==k&& (match P.underlying f.type with | some (.int _)=>true | _=>false)&&Wu P (k+1) fs
def Wv{P:Program}(w:World)(d:Nat)(xs ys:List Int)(hl:xs.length=ys.length):∀(fs:List Field) (k:Nat),Wu P k fs=true->k+fs.length=xs.length->
  (Op.eqFields (d+1) (xs.map (Value.int .i64)).toArray (ys.map (Value.int .i64)).toArray fs).run P w= .ok (xs.drop k==ys.drop k) w
 | [],k,_,h2=>by
  rw [List.drop_eq_nil_of_le (show xs.length<=k by simp only [List.length_nil]at h2;omega),List.drop_eq_nil_of_le (show ys.length<=k by simp only [List.length_nil]at h2;omega)];simp [Op.eqFields]
 | f::fs,k,h1,h2=>by
  simp only [List.length_cons]at h2;simp only [Wu,Bool.and_eq_true,Bool.not_eq_true',beq_eq_false_iff_ne,beq_iff_eq]at h1;obtain⟨⟨⟨n1,n2⟩,n3⟩,n4⟩:=h1;have hk:k<xs.length:=by omega
  have hk':k<ys.length:=by omega
  obtain⟨kd,hu⟩:∃kd,P.underlying f.type=some (.int kd):=by
   cases hu:P.underlying f.type with
   | none=>rw [hu]at n3;cases n3
   | some z=>cases z<;>(first | exact⟨_,rfl⟩ | (rw [hu]at n3;cases n3))
  have pk:P.plainKey f.type=true:=by unfold Program.plainKey;rw [hu]
  have p1:=run_part_plain w pk (xs:=(xs.map (Value.int .i64)).toArray) (off:=f.offset) (v:= .int .i64 xs[k]) (by rw [n2];simp [hk]);have p2:=run_part_plain w pk (xs:=(ys.map (Value.int .i64)).toArray) (off:=f.offset) (v:= .int .i64 ys[k]) (by rw [n2];simp [hk']);have ih:=Wv w d xs ys hl fs (k+1) n4 ah;simp only [Op.eqFields,if_pos n1,Sem.run_bind,p1,p2,Result.andThen_ok,run_equalIn_int w d f.type .i64 kd _ _ hu];have e:(xs.drop k==ys.drop k)=((xs[k]==ys[k])&& (xs.drop (k+1)==ys.drop (k+1))):=by rw [List.drop_eq_getElem_cons hk,List.drop_eq_getElem_cons hk'];rfl
  rw [e];by_cases c:(xs[k]==ys[k])=true
  .rw [c];simp only [Bool.not_true,Bool.false_eq_true,if_false,ih,Bool.true_and]
  .have c2:(xs[k]==ys[k])=false:=by simpa using c
   rw [c2];simp only [Bool.not_false,if_true,Sem.run_pure,Bool.false_and]
def amP{P:Program}{t:TypeId}{n:Nat}(hu:P.underlying t=some (.struct (P.fieldsOf t)))(hs:P.stoodInHeld t=false)(hg:P.eqGuardType P.depth t=false)(hf:Wu P 0 (P.fieldsOf t).toList=true)(hn:(P.fieldsOf t).size=n)(xs ys:List Int)(hx:xs.length=n)(hy:ys.length=n)(w:World):
  (Op.equal t (.agg (xs.map (Value.int .i64)).toArray) (.agg (ys.map (Value.int .i64)).toArray)).run P w= .ok (xs==ys) w/\
  (eqGuard .eql t (.tmp 0) (.tmp 0) (.agg (xs.map (Value.int .i64)).toArray) (.agg (ys.map (Value.int .i64)).toArray)).run P w= .ok () w:=by
 refine⟨?_,run_eqGuard_agg w _ _ _ _ _ _ hg⟩;show(Op.equalIn (9999+1) t _ _).run P w=_;rw [run_equalIn_struct w 9999 t _ _ hu hs,Wv w 9998 xs ys ah _ 0 hf (by rw [Array.length_toList];omega)];rfl
noncomputable def never (s:Sig):Ct aG s:={pre:=λ_=>false,fn:=λ_=>Classical.choice (uw _)}
def ku{E:Tab}{f:FuncId}{s:Sig}(h:Enters E.P f):dI E f (dD (never s)) where
 enters:=h
 calls:=by
  rintro args hh n K ⟨m,vs,h2,h3,h4,h5,cr,h6,h7,h8⟩;exfalso;unfold qH at h6;split at h6
  .split at h6
   .split at h6
    .split at h6
     .cases h6;have:=h7 false (List.mem_append_right _ (List.mem_singleton.2 rfl));cases this
     .cases h6
    .cases h6
   .cases h6
  .cases h6
abbrev auX:Sig:={args:=[.c (.rows true .u8),.c (.rows true .u8)],objs:=[],res:=[.c .bool],dR:=[]}
def entry(W:World):Ctx:={K:=λ_ b=>b<W.heap.size,μ:=λ_=>none,n:=0}
def Tj(W:World):bH (entry W) W []:=
 ⟨λl o h=>(by cases h),λl o l' o' b h=>(by cases h),λf b ⟨l,o,h,_⟩=>(by cases h),λf b h=>h,λb h=>h⟩
def Na{W W':World}{c':Ctx}{h':Heap}(g:Grow (entry W) W [] c' W' h'):RowKit.Below W.heap.size W W':=
 ⟨g.os,g.tape,g.output,g.size,λk hk=>g.kept k hk λ⟨l,o,h,_⟩=>by cases h⟩
def ahg{c:Ctx}{w:World}{v:Value}{r:PV}{N:NM}{b:Bool}(h1:bG c w v r)(h2:PVR N r (.c (.d true (.bool b)))):v= .bool b:=by
 cases h2 with
 | one h=>
  cases h with
  | c h=>
   cases h with
   | d h3 _=>
    subst h3;cases h1 with
    | c _ _ h4=>cases h4 with
     | d _ _ _ h5=>cases h5;rfl
  | agg h=>cases h
def auY{E:Tab}{f:FuncId}{c:Ct aG auX}(hc:dI E f (dD c)){xs ys:List Int}{W:World}{v u:Value}(hv:dH (λb=>b<W.heap.size) W v (.rows 1 (aL .u8 xs)))(hu:dH (λb=>b<W.heap.size) W u (.rows 1 (aL .u8 ys)))
  (hg:qw E (entry W) W) (hp:c.pre (xs,ys,())=true):Go.Calls E.P f #[v,u] W λe W'=>e= .returned (.bool (c.fn (xs,ys,())).1)/\RowKit.Below W.heap.size W W':=by
 refine(hc.calls [.c (.d true (.rows 1 (aL .u8 xs))),.c (.d true (.rows 1 (aL .u8 ys)))] [] 0 (λr _ _=>PVR (nmh []) r (.c (.d true (.bool (c.fn (xs,ys,())).1)))) ?_ (entry W) W [v,u] rfl
  (.cons (.c _ _ (.d true _ _ hv)) (.cons (.c _ _ (.d true _ _ hu)) .nil)) (Tj W) hg).mono ?_
 .refine⟨0,[.c (.d true (.rows .u8 xs)),.c (.d true (.rows .u8 ys))],[],.cons (.one (.c (.d rfl λ_=> .inl rfl))) (.cons (.one (.c (.d rfl λ_=> .inl rfl))) .nil),⟨λl o h=>(by cases h),λ_ _=>rfl⟩,rfl,_,rfl,?_,_,_,rfl,?_⟩
  .intro b hb;rcases List.mem_append.1 hb with h | h
   .cases h
   .rw [List.mem_singleton]at h;rw [h];exact hp
  .intro r _ _ h _ _ _;exact h
 .rintro e W' he;cases e with
  | returned u=>
   obtain⟨c',r,h',j,g,_,_,h1,h2⟩:=he;exact⟨by rw [ahg h1 h2],Na g⟩
  | outgrown=>exact he.elim
  | panicked _=>exact he.elim
open Go.RowKit Go.ChangeShapes Go.WideShapes Go.ChangeAt in
def Nb{H:Type}{enc:TypeId×Value->H}{P:Program}{t e:TypeId}(ht:P.underlying t=some (.slice e))(he:P.underlying e=some (.int .u8))(hc:P.cellsOf e=1){W:World}{base:Nat}{v:Value}{d:DataW H}{p:List MemPlace}
  (hval:Value.okWide P W .any base t v) (h:DataW.Trod enc P W 0 (λ_=>true) true t v d p) (hlt:∀x∈p,x.block<W.heap.size):
  ∃xs:List Int,dH (λb=>b<W.heap.size) W v (.rows 1 (aL .u8 xs))/\∀z∈xs,0<=z/\z<=255:=by
 obtain⟨a0,len,cap,rfl⟩:=okWide_slice ht hval;obtain⟨fuel,hf⟩:=h;rcases open_ints ht he hc hf with⟨hcs,hx⟩ | ⟨a,len',cap',zs,hcs,_,hl,hm,hz,hx,hcell,hwz⟩
 .simp [Value.cells]at hcs;obtain⟨rfl,rfl,rfl⟩:=hcs;exact⟨[],.none _ _ _,λ_ h=>by cases h⟩
 .simp [Value.cells]at hcs;obtain⟨rfl,rfl,rfl⟩:=hcs;simp only [Prod.mk.injEq]at hx;obtain⟨rfl,rfl⟩:=hx;simp only [if_true]at hz;have rng:∀z∈zs,0<=z/\z<=255:=λz hz=>by
   obtain⟨i,hi,rfl⟩:=List.getElem_of_mem hz;have:=range_u8 hwz i
   rwa [List.getElem?_eq_getElem hi]at this
  refine⟨zs.take len,?_,λz h=>rng z (List.mem_of_mem_take h)⟩;by_cases h0:len=0
  .subst h0;exact .none _ _ _
  .obtain⟨b,off,spot⟩:=a;have hspot:spot=none:=by simpa [Addr.add]using World.cell?_spot (hcell 0 ah)
   subst hspot;have hbW:b<W.heap.size:=hlt (.cell b off) (MemPlace.mem_row.2 ⟨0,ah,by simp⟩);have hlen:(aL .u8 (zs.take len)).length=len:=by simp only [aL,List.length_map,List.length_take];omega
   have hget:∀i,i<len->(aL .u8 (zs.take len)).getD i []=[.int .u8 (zs.getD i 0)]:=λi hi=>by
    simp only [aL,List.getD,List.getElem?_map,List.getElem?_take_of_lt hi,List.getElem?_eq_getElem (show i<zs.length by omega)];rfl
   refine .rows b off cap 1 len _ (λi j=> .int .u8 (zs.getD i 0)) hbW hlen.symm hl (λi j hi hj=> ?_) (λi hi=> ?_) (λi j hi hj=> ?_)
   .rw [hlen]at hi;have:=hcell i ah;rw [add_plain]at this;rw [show off+i*1+j=off+i by omega];exact this
   .rw [hlen]at hi;rw [hget i hi];rfl
   .rw [hlen]at hi;have hj0:j=0:=by omega
    subst hj0;unfold gd;rw [hget i hi];exact .int _ _
end Go.TX
namespace Go.TX.Seat
open Go Go.AE Go.TX Go.TX.F Go.Proofs
set_option maxRecDepth 100000
theorem auZ:∀t n,E.ieq t=some n->∀(xs ys:List Int),xs.length=n->ys.length=n->∀w,
  (Op.equal t (.agg (xs.map (Value.int .i64)).toArray) (.agg (ys.map (Value.int .i64)).toArray)).run E.P w= .ok (xs==ys) w/\
  (eqGuard .eql t (.tmp 0) (.tmp 0) (.agg (xs.map (Value.int .i64)).toArray) (.agg (ys.map (Value.int .i64)).toArray)).run E.P w= .ok () w:=by
 intro t n h;obtain⟨c,hc,rfl⟩:∃c,ieq t=some c/\c.size=n:=by
  have h':(ieq t).map (λc=>c.size)=some n:=h;cases hi:ieq t with
  | none=>rw [hi]at h';cases h'
  | some c=>rw [hi]at h';cases h';exact⟨c,rfl,rfl⟩
 unfold ieq at hc;split at hc
 all_goals first | (cases hc;exact amP (by kernel_rfl) (by kernel_rfl) (by kernel_rfl) (by kernel_rfl) (by kernel_rfl)) | cases hc
theorem hE:aC E:=⟨aur,auZ⟩
theorem au0:∀t c,X.ieq t=some c->(c= .ins/\E.ieq t=some 4)\/(c= .iop/\E.ieq t=some 5):=by
 intro t c h;have h:ieq t=some c:=h;have e:E.ieq t=(ieq t).map λc=>c.size:=rfl
 rw [e,h];unfold ieq at h;split at h
 all_goals first | (cases h;first | exact Or.inl ⟨rfl,rfl⟩ | exact Or.inr ⟨rfl,rfl⟩) | cases h
theorem xok:XOK X E:=⟨rfl,λg c h=>(by
    first
    | (cases h;done)
    | (dsimp only [X] at h
       split at h
       · rename_i e;cases h;unfold E;dsimp only;rw [if_pos e];rfl
       · cases h)),au0⟩
theorem hm:E.P.follows .mixedOrders=true:=by kernel_rfl
structure HL(l:List (Nat×Sig)) where
 C:Cs (std 0) l
 h:∀p∈csl (std 0) l C,dI E p.1 (dD p.2.2)
abbrev hn : HL [] := ⟨(), λ_ h => by cases h⟩
abbrev hk{f : FuncId}{s : Sig}{c : Ct aG s}{l : List (Nat × Sig)}(h : dI E f (dD c))(r : HL l) : HL ((f, s) :: l) := ⟨(c.pre, c.fn, r.C), λp hp => by
 rcases List.mem_cons.1 hp with rfl | hp
 .exact h
 .exact r.h p hp⟩
structure Mt{lk:aB}{s:Sig}{o:List (Nat×List fC)}{an:Ann}{fn:Func}{l:List (Nat×Sig)}(f:FuncId)(g:Gt lk X E o an s fn l) where
 H:HL l
 k:Fn E f (g.F H.C) (cn (g.F H.C))
section
variable {lk:aB} {s:Sig} {o:List (Nat×List fC)} {an:Ann} {fn:Func} {l:List (Nat×Sig)} {f:FuncId}
@[irreducible] noncomputable def Mt.c {g : Gt lk X E o an s fn l} (t : Mt f g) : Ct aG s := cn (g.F t.H.C)
theorem Mt.cs{g:Gt lk X E o an s fn l}(t:Mt f g){x:iC s.inp}{Q:iC s.out->Prop}(h:g.F t.H.C x Q):t.c.pre x=true/\Q (t.c.fn x):=by unfold Mt.c;exact t.k.cs h
theorem Mt.ok{g:Gt lk X E o an s fn l}(t:Mt f g):dI E f (dD t.c):=by unfold Mt.c;exact t.k.ok
@[reducible] noncomputable def hc {r : List (Nat × Sig)} {g : Gt lk X E o an s fn l} (t : Mt f g) (h : HL r) : HL ((f, s) :: r) := hk t.ok h
theorem mkF(hf:E.P.funcs[f]? =some fn)(g:Gt lk X E o an s fn l)(H:HL l)
 (hb:fn.body.isSome=true:=by rfl) (hn:(fn.name== "runtime.NumGoroutine")=false:=by kernel_rfl):Fn E f (g.F H.C) (cn (g.F H.C)):=auo hE xok hm hf hb (λ_=>enters_of hf hn) H.h (g.h H.C)
noncomputable def mk (g:Gt lk X E o an s fn l) (hf:E.P.funcs[f]? =some fn) (H:HL l)
 (hb:fn.body.isSome=true:=by rfl) (hn:(fn.name== "runtime.NumGoroutine")=false:=by kernel_rfl):Mt f g:=⟨H,mkF hf g H hb hn⟩
end
theorem adh{E:Tab}{f:FuncId}{c:Ct aG {args:=[.c (.int .u64)],objs:=[],res:=[.c (.int .i64)],dR:=[]}}{g:Int->Int}(hent:Enters E.P f)(hg:(λx:Int=>(c.fn (x,())).1)=g)
  (h:∀(x:Int) (w:World),c.pre (x,())=true->Go.Calls E.P f #[.int .u64 x] w λe w'=>e= .returned (.int .i64 (g x))/\w'=w):dI E f (dD c) where
 enters:=hent
 calls:=by
  rintro args hh n K ⟨m,qs,hs,hargs,HR,hlen,cr,hcall,agc,v,kT,hvk,hK⟩ c1 w vs hcn pX Hh Gl;have key:∀f0 (x:Int),qs=[.c (.d f0 (.int .u64 x))]->qH (std m) hs {args:=[.c (.int .u64)],objs:=[],res:=[.c (.int .i64)],dR:=[]} c qs=some {ck:=[c.pre (x,())],ts:=[.i],y:=c.fn (x,()),touched:=[],pure:=true,k:=λy=>some (.c (.d true (.int .i64 y.1)),hs)}:=by
   intro f0 x e;subst e;rfl
  have hq:∃f0 x,qs=[.c (.d f0 (.int .u64 x))]:=by
   unfold qH at hcall;cases qs with
   | nil=>simp [nZ]at hcall
   | cons q r=>
    cases r with
    | cons q2 r2=>
     exfalso;simp only [nZ]at hcall;cases hx:Gz (std m) hs (.c (.int .u64)) q (es0 (std m) 0 [])with
     | none=>rw [hx]at hcall;simp at hcall
     | some s=>rw [hx]at hcall;simp [nZ]at hcall
    | nil=>
     simp only [nZ]at hcall;cases q with
     | c y=>
      simp only [Gz,extC]at hcall;cases y with
      | d f0 y=>
       cases y with
       | int k x=>
        by_cases hk:IntKind.u64=k
        .subst hk;exact⟨f0,x,rfl⟩
        .simp [hk]at hcall
       | _=>simp at hcall
      | _=>simp at hcall
     | _=>simp [Gz]at hcall
  obtain⟨f0,x,rfl⟩:=hq;rw [key f0 x rfl]at hcall;simp only [Option.some.injEq]at hcall;subst hcall;simp only [Option.some.injEq,Prod.mk.injEq]at hvk;obtain⟨rfl,rfl⟩:=hvk;have hpre:=agc _ (List.mem_singleton.2 rfl);have hv:vs=[.int .u64 x]:=by
   cases hargs with
   | cons h1 h2=>
    cases h2;cases pX with
    | cons h3 h4=>
     cases h4;cases h1 with
     | one h1=>
      cases h1 with
      | c h1=>
       cases h1 with
       | d h5 _=>
        subst h5;cases h3 with
        | c _ _ h6=>cases h6 with
         | d _ _ _ h7=>cases h7;rfl
      | agg h1=>cases h1
  subst hv;refine(h x w hpre).mono ?_;rintro e w' ⟨rfl,rfl⟩;refine⟨c1,.c (.d true (.int .i64 (g x))),hh,0,.refl _ _ _,Hh,hcn,.c _ _ (.d _ _ _ (.int _ _)),hK _ _ _ ?_ HR (.refl _ _ _) hlen⟩;rw [<-hg];exact .one (.c (.d rfl λ_=> .inl rfl))
end Go.TX.Seat
namespace Go.TX.F
open Go Go.AE Go.TX Go.TX.Seat Go.Proofs
set_option maxRecDepth 100000
set_option maxHeartbeats 4000000
noncomputable def jE:=mk Pn Tryz.func56 hn
def kC:=λa b c=>(jE.cs (abW a b c:)).1
def kD:=λa b c=>(jE.cs (abW a b c:)).2
noncomputable def qY:=mk Po Tryz.func55 hn
def zh:=λa=>(qY.cs (abX a:)).1
def zi:=λa=>(qY.cs (abX a:)).2
noncomputable def adi:=mk Pp Tryz.func212 (hc jE hn)
def uL:=λk=>adi.cs (alG ⟨kC,kD⟩ k:)
def amQ:=λk=>(uL k).1
def amR:=λk=>(uL k).2
noncomputable def Tk:=mk Pq Tryz.func159 (hc adi hn)
def Am:=λops x n h1=>Tk.cs (alH amQ amR ops x n h1:)
def adk:=λops x n h1=>(Am ops x n h1).1
def adl:=λops x n h1=>(Am ops x n h1).2
noncomputable def adn:=mk Pv Tryz.func91 (hc qY (hc jE (hc Tk hn)))
def Db:=λops i len h0 h1 h3=>adn.cs (alI ⟨zh,zi⟩ ⟨kC,kD⟩ ⟨adk,adl⟩ ops i len h0 h1 h3:)
def amS:=λops i len h0 h1 h3=>(Db ops i len h0 h1 h3).1
def amT:=λops i len h0 h1 h3=>(Db ops i len h0 h1 h3).2
noncomputable def ado:=mk Pw Tryz.func92 (hc qY (hc Tk hn))
def Ao:=λb=>ado.cs (alJ ⟨zh,zi⟩ ⟨adk,adl⟩ b:)
def amU:=λb=>(Ao b).1
def amV:=λb=>(Ao b).2
noncomputable def uM:=mk Px Tryz.func24 (hc jE (hc ado (hc adn hn)))
def Dc:=λb h2=>uM.cs (alK ⟨kC,kD⟩ amU amV amS amT b h2:)
def zk:=λb h2=>(Dc b h2).1
def zl:=λb h2=>(Dc b h2).2
noncomputable def gy:=mk Py Tryz.func48 hn
def gX:=λn b p hb h1 h2=>(gy.cs (ach n b p hb h1 h2:)).1
def gY:=λn b p hb h1 h2=>(gy.cs (ach n b p hb h1 h2:)).2
noncomputable def zm:=mk Pz Tryz.func52 (hc gy hn)
def qh:=λn b p hb h1 h2=>zm.cs (alo ⟨gX,gY⟩ n b p hb h1 h2:)
def Ck:=λn b p hb h1 h2=>(qh n b p hb h1 h2).1
def Cm:=λn b p hb h1 h2=>(qh n b p hb h1 h2).2
noncomputable def Gc:=mk PD Tryz.func168 hn
def Tm:=λb hb=>(Gc.cs (acB b hb:)).1
def Tn:=λb hb=>(Gc.cs (acB b hb:)).2
noncomputable def adp:=mk JF Tryz.func117 (hc gy (hc Gc hn))
def uN:=λc b p hc hb h1 h2=>adp.cs (al0 ⟨gX,gY⟩ ⟨Tm,Tn⟩ c b p hc hb h1 h2:)
def amW:=λc b p hc hb h1 h2=>(uN c b p hc hb h1 h2).1
def amX:=λc b p hc hb h1 h2=>(uN c b p hc hb h1 h2).2
noncomputable def Tp:=mk PE Tryz.func231 hn
def amY:=λi=>(Tp.cs (uJ i:)).1
def amZ:=λi=>(Tp.cs (uJ i:)).2
noncomputable def Gd:=mk PG Tryz.func178 (hc jE (hc Tp hn))
def Ap:=λi=>Gd.cs (GD ⟨kC,kD⟩ amY amZ i:)
def Kc:=λi=>(Ap i).1
def Ke:=λi=>(Ap i).2
noncomputable def Kg:=mk PI Tryz.func179 hn
def adq:=λa=>(Kg.cs (rQ a:)).1
def ads:=λa=>(Kg.cs (rQ a:)).2
noncomputable def Kh:=mk PL Tryz.func127 (hc Kg (hc Gd hn))
def uO:=λi=>Kh.cs (Dz ⟨adq,ads⟩ ⟨Kc,Ke⟩ i:)
def Tq:=λi=>(uO i).1
def am0:=λi=>(uO i).2
noncomputable def Tt:=mk PN Tryz.func216 (hc gy hn)
def xk:=λb p hb h1 h2=>Tt.cs (alM ⟨gX,gY⟩ b p hb h1 h2:)
def adt:=λb p hb h1 h2=>(xk b p hb h1 h2).1
def adu:=λb p hb h1 h2=>(xk b p hb h1 h2).2
noncomputable def Ki:=mk PO Tryz.func163 (hc Tt (hc gy (hc Kh hn)))
def uP:=λb p hb h1 h2=>Ki.cs (alN ⟨adt,adu⟩ ⟨gX,gY⟩ ⟨Tq⟩ b p hb h1 h2:)
def Tv:=λb p hb h1 h2=>(uP b p hb h1 h2).1
def Tw:=λb p hb h1 h2=>(uP b p hb h1 h2).2
noncomputable def Tx:=mk PU Tryz.func99 (hc Ki (hc gy hn))
def uQ:=λb p hb h1 h2=>Tx.cs (alO ⟨Tv,Tw⟩ ⟨gX,gY⟩ b p hb h1 h2:)
def adw:=λb p hb h1 h2=>(uQ b p hb h1 h2).1
def adx:=λb p hb h1 h2=>(uQ b p hb h1 h2).2
noncomputable def ady:=mk PW Tryz.func165 (hc Kg (hc Gd (hc jE (hc Kh hn))))
def Aq:=λpc l hl=>ady.cs (GI ⟨adq,ads⟩ ⟨Kc,Ke⟩ ⟨kC,kD⟩ Tq am0 pc l hl:)
def am1:=λpc l hl=>(Aq pc l hl).1
def am2:=λpc l hl=>(Aq pc l hl).2
noncomputable def zn:=mk PX Tryz.func217 hn
def zo:=λa1 a2 a3 a4 a5 a6 o ops h=>(zn.cs (wZ a1 a2 a3 a4 a5 a6 o ops h:)).1
def zq:=λa1 a2 a3 a4 a5 a6 o ops h=>(zn.cs (wZ a1 a2 a3 a4 a5 a6 o ops h:)).2
noncomputable def Kj:=mk PY Tryz.func218 (hc zn hn)
def adz:=λa1 a2 a3 a4 a5 a6 k x ops h=>(Kj.cs (xg ⟨zo,zq⟩ a1 a2 a3 a4 a5 a6 k x ops h:)).1
def adA:=λa1 a2 a3 a4 a5 a6 k x ops h=>(Kj.cs (xg ⟨zo,zq⟩ a1 a2 a3 a4 a5 a6 k x ops h:)).2
noncomputable def Cq:=mk PZ Tryz.func219 (hc zn hn)
def Kk:=λa1 a2 a3 a4 a5 a6 k ops h=>(Cq.cs (w9 ⟨zo,zq⟩ a1 a2 a3 a4 a5 a6 k ops h:)).1
def Kl:=λa1 a2 a3 a4 a5 a6 k ops h=>(Cq.cs (w9 ⟨zo,zq⟩ a1 a2 a3 a4 a5 a6 k ops h:)).2
noncomputable def Tz:=mk P8 Tryz.func220 (hc Cq (hc zn hn))
def rR:=λa1 a2 a3 a4 a5 a6 k a o ops h=>Tz.cs (Ci ⟨Kk,Kl⟩ ⟨zo,zq⟩ a1 a2 a3 a4 a5 a6 k a o ops h:)
def adB:=λa1 a2 a3 a4 a5 a6 k a o ops h=>(rR a1 a2 a3 a4 a5 a6 k a o ops h).1
def adC:=λa1 a2 a3 a4 a5 a6 k a o ops h=>(rR a1 a2 a3 a4 a5 a6 k a o ops h).2
noncomputable def TA:=mk P9 Tryz.func221 hn
def am3:=λk k0 k1=>(TA.cs (rP k k0 k1:)).1
def am4:=λk k0 k1=>(TA.cs (rP k k0 k1:)).2
noncomputable def adD:=mk Qa Tryz.func222 (hc Cq (hc zn (hc Tz (hc Kj hn))))
def uR:=λa1 a2 a3 a4 a5 a6 i n ops hi h=>adD.cs (Dy ⟨Kk,Kl⟩ ⟨zo,zq⟩ ⟨adB,adC⟩ ⟨adz,adA⟩ a1 a2 a3 a4 a5 a6 i n ops hi h:)
def am5:=λa1 a2 a3 a4 a5 a6 i n ops hi h=>(uR a1 a2 a3 a4 a5 a6 i n ops hi h).1
def am6:=λa1 a2 a3 a4 a5 a6 i n ops hi h=>(uR a1 a2 a3 a4 a5 a6 i n ops hi h).2
noncomputable def adE:=mk Qb Tryz.func223 (hc Cq hn)
def xq:=λB i hi h=>adE.cs (Gb ⟨Kk,Kl⟩ B i hi h:)
def am7:=λB i hi h=>(xq B i hi h).1
def am8:=λB i hi h=>(xq B i hi h).2
noncomputable def adF:=mk Qc Tryz.func166 (hc Cq (hc adE (hc zn (hc adD (hc Tz (hc Kj (hc TA hn)))))))
def Ar:=λB i n hi h0 h=>adF.cs (GH ⟨Kk,Kl⟩ am7 am8 ⟨zo,zq⟩ am5 am6 ⟨adB,adC⟩ ⟨adz,adA⟩ am3 am4 B i n hi h0 h:)
def am9:=λB i n hi h0 h=>(Ar B i n hi h0 h).1
def ana:=λB i n hi h0 h=>(Ar B i n hi h0 h).2
noncomputable def TB:=mk Qd Tryz.func101 (hc ady (hc adF hn))
def rT:=λpc l hl=>TB.cs (Cj ⟨am1,am2⟩ am9 ana pc l hl:)
def adG:=λpc l hl=>(rT pc l hl).1
def adH:=λpc l hl=>(rT pc l hl).2
noncomputable def Km:=mk Qe Tryz.func174 (hc jE hn)
def adI:=λo al hk hx hy=>(Km.cs (acE ⟨kC,kD⟩ o al hk hx hy:)).1
def adJ:=λo al hk hx hy=>(Km.cs (acE ⟨kC,kD⟩ o al hk hx hy:)).2
noncomputable def TD:=mk Qf Tryz.func118 (hc uM (hc Km (hc Gc hn)))
def uS:=λb hb=>TD.cs (alY ⟨zk,zl⟩ ⟨adI,adJ⟩ ⟨Tm,Tn⟩ b hb:)
def adK:=λb hb=>(uS b hb).1
def adL:=λb hb=>(uS b hb).2
noncomputable def TF:=mk Qg Tryz.func226 (hc Km hn)
def uT:=λb kp ok hk=>TF.cs (alU ⟨adI,adJ⟩ b kp ok hk:)
def adM:=λb kp ok hk=>(uT b kp ok hk).1
def adN:=λb kp ok hk=>(uT b kp ok hk).2
noncomputable def adO:=mk Qh Tryz.func227 (hc uM (hc jE hn))
def uU:=λb hb=>adO.cs (alT ⟨zk,zl⟩ ⟨kC,kD⟩ b hb:)
def anb:=λb hb=>(uU b hb).1
def ane:=λb hb=>(uU b hb).2
noncomputable def adP:=mk Qi Tryz.func171 (hc uM (hc adO (hc TF hn)))
def uV:=λb hb=>adP.cs (alV ⟨zk,zl⟩ ⟨anb,ane⟩ ⟨adM,adN⟩ b hb:)
def anf:=λb hb=>(uV b hb).1
def ang:=λb hb=>(uV b hb).2
noncomputable def TG:=mk Qj Tryz.func228 hn
def anh:=λops k h0 h1 h2=>(TG.cs (acF ops k h0 h1 h2:)).1
def ani:=λops k h0 h1 h2=>(TG.cs (acF ops k h0 h1 h2:)).2
noncomputable def adQ:=mk Qk Tryz.func172 (hc uM (hc TF (hc TG hn)))
def uW:=λb hb=>adQ.cs (alW ⟨zk,zl⟩ ⟨adM,adN⟩ anh ani b hb:)
def anj:=λb hb=>(uW b hb).1
def ank:=λb hb=>(uW b hb).2
noncomputable def oW:=mk Ql Tryz.func17 hn
def uX:=λa=>(oW.cs (abZ a:)).1
def uY:=λa=>(oW.cs (abZ a:)).2
noncomputable def Gf:=mk Qm Tryz.func161 (hc oW (hc qY hn))
def Au:=λop a b=>Gf.cs (ak6 ⟨zh,zi⟩ ⟨uX,uY⟩ op a b:)
def Kn:=λop a b=>(Au op a b).1
def Ko:=λop a b=>(Au op a b).2
noncomputable def Kq:=mk Qn Tryz.func229 hn
def adR:=λops k=>(Kq.cs (acC ops k:)).1
def adS:=λops k=>(Kq.cs (acC ops k:)).2
noncomputable def TH:=mk Qo Tryz.func260 hn
def anl:=λb k=>(TH.cs (acD b k:)).1
def anm:=λb k=>(TH.cs (acD b k:)).2
noncomputable def adT:=mk Qp Tryz.func230 (hc TH (hc Kq hn))
def uZ:=λb h=>adT.cs (alP anl anm ⟨adR,adS⟩ b h:)
def ano:=λb h=>(uZ b h).1
def anp:=λb h=>(uZ b h).2
noncomputable def adU:=mk Qq Tryz.func173 (hc uM (hc Gf (hc adT (hc Kq (hc Gc hn)))))
def rU:=λb hb=>adU.cs (alS ⟨zk,zl⟩ ⟨Kn,Ko⟩ ano anp ⟨adR,adS⟩ ⟨Tm,Tn⟩ b hb:)
def anq:=λb hb=>(rU b hb).1
def anr:=λb hb=>(rU b hb).2
noncomputable def TI:=mk Qr Tryz.func116 (hc adU (hc TD (hc adP (hc adQ hn))))
def xu:=λb hb=>TI.cs (alQ ⟨anq,anr⟩ ⟨adK,adL⟩ ⟨anf,ang⟩ ⟨anj,ank⟩ b hb:)
def adV:=λb hb=>(xu b hb).1
def adW:=λb hb=>(xu b hb).2
noncomputable def adX:=mk Qs Tryz.func128 (hc TB (hc TI (hc TD (hc gy (hc Tx hn)))))
def rV:=λb p hb h1 h2=>adX.cs (alZ (λpc l h _=>adG pc l h) (λpc l h _=>ag9 (adH pc l h)) ⟨adV,adW⟩ ⟨adK,adL⟩ ⟨gX,gY⟩ ⟨adw,adx⟩ b p hb h1 h2:)
def ant:=λb p hb h1 h2=>(rV b p hb h1 h2).1
def anu:=λb p hb h1 h2=>(rV b p hb h1 h2).2
noncomputable def TJ:=mk Qt Tryz.func50 (hc zm (hc gy (hc adp (hc adX hn))))
def oq:=λn b p hb h1 h2=>TJ.cs (al1 ⟨Ck,Cm⟩ ⟨gX,gY⟩ ⟨amW,amX⟩ ⟨ant,anu⟩ n b p hb h1 h2:)
def adY:=λn b p hb h1 h2=>(oq n b p hb h1 h2).1
def adZ:=λn b p hb h1 h2=>(oq n b p hb h1 h2).2
set_option maxRecDepth 100000
set_option maxHeartbeats 4000000
noncomputable def Kr:=mk Qu Tryz.func40 hn
def ad1:=λb hb hl=>(Kr.cs (acg b hb hl:)).1
def ad2:=λb hb hl=>(Kr.cs (acg b hb hl:)).2
noncomputable def kH:=mk aav Tryz.func60 hn
def lW:=λa b c=>(kH.cs (aio a b c:)).1
def lY:=λa b c=>(kH.cs (aio a b c:)).2
noncomputable def Av:=mk aaw Tryz.func47 (hc kH hn)
def Aw:=λa=>Av.cs (aqm ⟨lW,lY⟩ a:)
def Df:=λa=>(Aw a).1
def Dh:=λa=>(Aw a).2
noncomputable def ad3:=mk aax Tryz.func66 (hc kH hn)
def rW:=λo=>ad3.cs (arf ⟨lW,lY⟩ o:)
def aiG:=λo=>(rW o).1
def aiH:=λo=>(rW o).2
noncomputable def ad4:=mk aay Tryz.func135 (hc kH hn)
def Ay:=λa=>ad4.cs (aqo ⟨lW,lY⟩ a:)
def aiI:=λa=>(Ay a).1
def aiJ:=λa=>(Ay a).2
noncomputable def ad5:=mk aaz Tryz.func136 (hc kH hn)
def Di:=λa=>ad5.cs (aqn ⟨lW,lY⟩ a:)
def aiK:=λa=>(Di a).1
def aiL:=λa=>(Di a).2
noncomputable def aiM:=mk aaA Tryz.func186 (hc kH hn)
def lF:=λo=>aiM.cs (arh ⟨lW,lY⟩ o:)
def ar0:=λo=>(lF o).1
def ar1:=λo=>(lF o).2
noncomputable def ad6:=mk aaB Tryz.func137 (hc aiM (hc kH hn))
def lG:=λb x n h0 h1 h2=>ad6.cs (arj ar0 ar1 ⟨lW,lY⟩ b x n h0 h1 h2:)
def aiN:=λb x n h0 h1 h2=>(lG b x n h0 h1 h2).1
def aiO:=λb x n h0 h1 h2=>(lG b x n h0 h1 h2).2
noncomputable def aiP:=mk aaC Tryz.func61 (hc ad6 (hc ad3 (hc Av (hc kH (hc ad5 (hc ad4 hn))))))
def lZ:=λb i h0 h1 h2 h3=>aiP.cs (ark ⟨aiN,aiO⟩ ⟨aiG,aiH⟩ ⟨Df,Dh⟩ ⟨lW,lY⟩ ⟨aiK,aiL⟩ ⟨aiI,aiJ⟩ b i h0 h1 h2 h3:)
def ar2:=λb i h0 h1 h2 h3=>(lZ b i h0 h1 h2 h3).1
def ar3:=λb i h0 h1 h2 h3=>(lZ b i h0 h1 h2 h3).2
noncomputable def ahh:=mk akB Tryz.func72 hn
def ar4:=λb=>(ahh.cs (arl b:)).1
def ar5:=λb=>(ahh.cs (arl b:)).2
noncomputable def ar6:=mk akC Tryz.func62 (hc ahh (hc ad6 (hc Av (hc kH hn))))
def lH:=λb h2=>ar6.cs (auv ⟨ar4,ar5⟩ ⟨aiN,aiO⟩ ⟨Df,Dh⟩ ⟨lW,lY⟩ b h2:)
def au1:=λb h2=>(lH b h2).1
def au2:=λb h2=>(lH b h2).2
noncomputable def ad7:=mk aaD Tryz.func18 (hc ar6 (hc aiP (hc kH hn)))
def Dj:=λb h2=>ad7.cs (arn au1 au2 ar2 ar3 ⟨lW,lY⟩ b h2:)
def aiQ:=λb h2=>(Dj b h2).1
def aiR:=λb h2=>(Dj b h2).2
noncomputable def ad8:=mk aaE Tryz.func239 hn
def ar7:=λa n=>(ad8.cs (aip a n:)).1
def ar8:=λa n=>(ad8.cs (aip a n:)).2
noncomputable def aiS:=mk aaF Tryz.func264 (hc ad8 hn)
def iQ:=λa n ha=>aiS.cs (aqv ar7 ar8 a n ha:)
def ar9:=λa n ha=>(iQ a n ha).1
def asa:=λa n ha=>(iQ a n ha).2
noncomputable def aiT:=mk aaG Tryz.func238 (hc aiS hn)
def iq:=λa n ha=>aiT.cs (aqw ar9 asa a n ha:)
def asb:=λa n ha=>(iq a n ha).1
def asc:=λa n ha=>(iq a n ha).2
noncomputable def ad9:=mk aaH Tryz.func190 (hc aiT hn)
def rX:=λa n ha=>ad9.cs (aqx asb asc a n ha:)
def aiU:=λa n ha=>(rX a n ha).1
def aiV:=λa n ha=>(rX a n ha).2
noncomputable def ahi:=mk akD Tryz.func244 hn
def ase:=λa=>(ahi.cs (aqp a:)).1
def asf:=λa=>(ahi.cs (aqp a:)).2
noncomputable def ahj:=mk akE Tryz.func197 (hc ahi hn)
def ou:=λa b=>ahj.cs (aut ⟨ase,asf⟩ a b:)
def anv:=λa b=>(ou a b).1
def anw:=λa b=>(ou a b).2
noncomputable def ahk:=mk akF Tryz.func198 hn
def asg:=λa b=>(ahk.cs (aqr a b:)).1
def ash:=λa b=>(ahk.cs (aqr a b:)).2
noncomputable def aiW:=mk aaI Tryz.func245 (hc ahj hn)
def jo:=λa b ha=>aiW.cs (aqs ⟨anv,anw⟩ a b ha:)
def asi:=λa b ha=>(jo a b ha).1
def asj:=λa b ha=>(jo a b ha).2
noncomputable def Nc:=mk aaJ Tryz.func199 (hc ahk (hc ahj (hc aiW hn)))
def oC:=λa b ha=>Nc.cs (aqt ⟨anv,anw⟩ asi asj ⟨asg,ash⟩ a b ha:)
def Ww:=λa b ha=>(oC a b ha).1
def Wx:=λa b ha=>(oC a b ha).2
noncomputable def ahl:=mk akG Tryz.func246 (hc ahi hn)
def u7:=λa b=>ahl.cs (auu ⟨ase,asf⟩ a b:)
def asl:=λa b=>(u7 a b).1
def asn:=λa b=>(u7 a b).2
noncomputable def aiX:=mk aaK Tryz.func201 (hc ahl hn)
def jc:=λa ha=>aiX.cs (aqu ⟨asl,asn⟩ a ha:)
def aso:=λa ha=>(jc a ha).1
def asq:=λa ha=>(jc a ha).2
noncomputable def aea:=mk aaL Tryz.func203 hn
def asr:=λm=>(aea.cs (aiq m:)).1
def asu:=λm=>(aea.cs (aiq m:)).2
noncomputable def aiY:=mk aaM Tryz.func247 (hc aea hn)
def dA:=λa ha=>aiY.cs (aqy (G:=(λm:aj=>0<m.atoms.length/\m.atoms.getD 0 default<0)) asr asu a ha:)
def asv:=λa ha=>(dA a ha).1
def asw:=λa ha=>(dA a ha).2
noncomputable def aiZ:=mk aaN Tryz.func202 (hc aiY hn)
def cu:=λa ha=>aiZ.cs (aqz (G:=(λm:aj=>0<m.atoms.length/\m.atoms.getD 0 default<0)) asv asw a ha:)
def asx:=λa ha=>(cu a ha).1
def asy:=λa ha=>(cu a ha).2
noncomputable def Dk:=mk aaO Tryz.func146 (hc kH (hc ad9 (hc aiX (hc Nc (hc aiZ hn)))))
def Az:=λa ha=>Dk.cs (aqA ⟨lW,lY⟩ ⟨aiU,aiV⟩ aso asq ⟨Ww,Wx⟩ asx asy a ha:)
def Gg:=λa ha=>(Az a ha).1
def Gh:=λa ha=>(Az a ha).2
noncomputable def aeb:=mk aaP Tryz.func139 (hc kH (hc ad5 (hc ad9 (hc Dk (hc ad4 hn)))))
def kE:=λa n ha=>aeb.cs (aqP ⟨lW,lY⟩ ⟨aiK,aiL⟩ ⟨aiU,aiV⟩ ⟨Gg,Gh⟩ ⟨aiI,aiJ⟩ a n ha:)
def ai0:=λa n ha=>(kE a n ha).1
def ai1:=λa n ha=>(kE a n ha).2
noncomputable def Wy:=mk aaQ Tryz.func142 (hc ahk (hc ahj (hc Nc hn)))
def rY:=λa b ha=>Wy.cs (aqB ⟨asg,ash⟩ ⟨anv,anw⟩ ⟨Ww,Wx⟩ a b ha:)
def aec:=λa b ha=>(rY a b ha).1
def aed:=λa b ha=>(rY a b ha).2
noncomputable def Wz:=mk aaR Tryz.func122 (hc Wy hn)
def l5:=λa b ha=>Wz.cs (aqC ⟨aec,aed⟩ a b ha:)
def aee:=λa b ha=>(l5 a b ha).1
def aef:=λa b ha=>(l5 a b ha).2
noncomputable def ai2:=mk aaS Tryz.func193 (hc Wz hn)
def l6:=λa b ha=>ai2.cs (aqL ⟨aee,aef⟩ a b ha:)
def asz:=λa b ha=>(l6 a b ha).1
def asA:=λa b ha=>(l6 a b ha).2
noncomputable def ai3:=mk aaT Tryz.func192 (hc ai2 hn)
def lI:=λa b hb=>ai3.cs (aqM ⟨asz,asA⟩ a b hb:)
def asB:=λa b hb=>(lI a b hb).1
def asC:=λa b hb=>(lI a b hb).2
noncomputable def ai4:=mk aaU Tryz.func191 (hc ai3 hn)
def dB:=λa b ha hb=>ai4.cs (aqN asB asC a b ha hb:)
def asD:=λa b ha hb=>(dB a b ha hb).1
def asE:=λa b ha hb=>(dB a b ha hb).2
noncomputable def aeg:=mk aaV Tryz.func140 (hc ai4 hn)
def nM:=λa b ha hb=>aeg.cs (aqO asD asE a b ha hb:)
def ai5:=λa b ha hb=>(nM a b ha hb).1
def ai6:=λa b ha hb=>(nM a b ha hb).2
noncomputable def ai7:=mk aaW Tryz.func64 (hc aeb (hc aeg hn))
def AA:=λa ha=>ai7.cs (aqQ ⟨ai0,ai1⟩ ⟨ai5,ai6⟩ a ha:)
def asF:=λa ha=>(AA a ha).1
def asG:=λa ha=>(AA a ha).2
noncomputable def ai8:=mk aaX Tryz.func200 hn
def eH:=λa=>ai8.cs (aqK a:)
def asH:=λa=>(eH a).1
def asI:=λa=>(eH a).2
noncomputable def aeh:=mk aaY Tryz.func143 (hc aeb (hc aeg (hc ai8 hn)))
def oD:=λt a ht ha=>aeh.cs (aqR ⟨ai0,ai1⟩ ⟨ai5,ai6⟩ asH asI t a ht ha:)
def ai9:=λt a ht ha=>(oD t a ht ha).1
def aja:=λt a ht ha=>(oD t a ht ha).2
noncomputable def aei:=mk aaZ Tryz.func144 (hc kH hn)
def vg:=λa=>aei.cs (aqF ⟨lW,lY⟩ a:)
def ajb:=λa=>(vg a).1
def ajc:=λa=>(vg a).2
noncomputable def aej:=mk aa0 Tryz.func71 (hc aei (hc aeh hn))
def ql:=λkd k t fl ht=>aej.cs (ars ⟨ajb,ajc⟩ ai9 aja kd k t fl ht:)
def ajd:=λkd k t fl ht=>(ql kd k t fl ht).1
def aje:=λkd k t fl ht=>(ql kd k t fl ht).2
noncomputable def ajf:=mk aa1 Tryz.func65 (hc aej hn)
def oF:=λt fl ht hl=>ajf.cs (aru ⟨ajd,aje⟩ t fl ht hl:)
def asJ:=λt fl ht hl=>(oF t fl ht hl).1
def asK:=λt fl ht hl=>(oF t fl ht hl).2
noncomputable def ajg:=mk aa2 Tryz.func67 (hc kH hn)
def oG:=λo=>ajg.cs (ari ⟨lW,lY⟩ o:)
def asL:=λo=>(oG o).1
def asM:=λo=>(oG o).2
noncomputable def ajh:=mk aa3 Tryz.func68 hn
def dV:=λa h0 h1=>ajh.cs (arv a h0 h1:)
def asN:=λa h0 h1=>(dV a h0 h1).1
def asO:=λa h0 h1=>(dV a h0 h1).2
set_option maxRecDepth 100000
set_option maxHeartbeats 4000000
noncomputable def WA:=mk aa4 Tryz.func69 (hc kH hn)
def rZ:=λa=>WA.cs (aqE ⟨lW,lY⟩ a:)
def aek:=λa=>(rZ a).1
def ael:=λa=>(rZ a).2
noncomputable def Ng:=mk aa5 Tryz.func185 hn
def aem:=λa=>(Ng.cs (air a:)).1
def aen:=λa=>(Ng.cs (air a:)).2
noncomputable def aeo:=mk aa6 Tryz.func132 (hc Av (hc Ng hn))
def AB:=λop a b=>aeo.cs (aqD ⟨Df,Dh⟩ ⟨aem,aen⟩ op a b:)
def aji:=λop a b=>(AB op a b).1
def ajj:=λop a b=>(AB op a b).2
noncomputable def aep:=mk aa7 Tryz.func148 (hc Dk hn)
def xw:=λa ha=>aep.cs (aqG ⟨Gg,Gh⟩ a ha:)
def ajk:=λa ha=>(xw a ha).1
def ajl:=λa ha=>(xw a ha).2
noncomputable def Nh:=mk aa8 Tryz.func131 hn
def aer:=λa ha=>(Nh.cs (ais a ha:)).1
def aes:=λa ha=>(Nh.cs (ais a ha:)).2
noncomputable def Gi:=mk aa9 Tryz.func266 (hc Nc hn)
def AJ:=λa b ha=>Gi.cs (aqJ ⟨Ww,Wx⟩ a b ha:)
def ajm:=λa b ha=>(AJ a b ha).1
def ajn:=λa b ha=>(AJ a b ha).2
noncomputable def aeu:=mk Qv Tryz.func299 (hc Gi hn)
def dL:=λa b d hd h1 h2 h3=>aeu.cs (akT ⟨ajm,ajn⟩ a b d hd h1 h2 h3:)
def anx:=λa b d hd h1 h2 h3=>(dL a b d hd h1 h2 h3).1
def anz:=λa b d hd h1 h2 h3=>(dL a b d hd h1 h2 h3).2
noncomputable def TK:=mk Qw Tryz.func310 hn
def anA:=λa b n d hl h1 h2 h3 h4=>(TK.cs (abS a b n d hl h1 h2 h3 h4:)).1
def anB:=λa b n d hl h1 h2 h3 h4=>(TK.cs (abS a b n d hl h1 h2 h3 h4:)).2
noncomputable def Cr:=mk Qx Tryz.func307 (hc TK hn)
def fM:=λa m b d hl h1 h2 h3 h4=>Cr.cs (akS anA anB a m b d hl h1 h2 h3 h4:)
def anC:=λa m b d hl h1 h2 h3 h4=>(fM a m b d hl h1 h2 h3 h4).1
def anD:=λa m b d hl h1 h2 h3 h4=>(fM a m b d hl h1 h2 h3 h4).2
noncomputable def cK:Nat->Ct aG BL
 | 0=>never BL
 | k+1=>cn (FJ.F (Gi.c.pre,Gi.c.fn,Cr.c.pre,Cr.c.fn,(cK k).pre,(cK k).fn,()))
def kK:∀k:Nat,dI E 300 (dD (cK k))/\∀(a m b:Int) (d:List aj),BQ a m b d->b-a<k->(cK k).pre (a,m,b,d,())=true/\Mrg d ((cK k).fn (a,m,b,d,())).1 a b
 | 0=>⟨ku (enters_of Tryz.func300 (by kernel_rfl) rfl),λa m b d h1 h2=>(by have g1:=h1.h2;have g2:=h1.h3;omega)⟩
 | k+1=>by
  have ih:=kK k;have t:Fn E 300 (FJ.F (Gi.c.pre,Gi.c.fn,Cr.c.pre,Cr.c.fn,(cK k).pre,(cK k).fn,())) (cK (k+1)):=mkF Tryz.func300 FJ (hc Gi (hc Cr (hk ih.1 hn)));exact⟨t.ok,λa m b d h1 h2=>t.cs (akU ⟨ajm,ajn⟩ anC anD (k:Int) (λa m b d h1 h2=>(ih.2 a m b d h1 h2).1) (λa m b d h1 h2=>(ih.2 a m b d h1 h2).2) a m b d h1 ah)⟩
noncomputable def anE:Ct aG BL:=cK 1000000000
def anF:dI E 300 (dD anE):=(kK 1000000000).1
def ajo{a m b:Int}{d:List aj}(h:BQ a m b d):b-a< ((1000000000:Nat):Int):=by have g0:=h.sh.1;have g1:=h.h1;have g2:=h.h4;omega
def anG:=λa m b d h=>((kK 1000000000).2 a m b d h (ajo h)).1
def anH:=λa m b d h=>((kK 1000000000).2 a m b d h (ajo h)).2
noncomputable def aev:=mk Qy Tryz.func283 (hc aeu (hk anF hn))
def fO:=λn d hd hn=>aev.cs (akV anx anz anG anH n d hd hn:)
def anI:=λn d hd hn=>(fO n d hd hn).1
def anJ:=λn d hd hn=>(fO n d hd hn).2
noncomputable def aew:=mk Qz Tryz.func265 (hc aev hn)
def bY:=λd hd=>aew.cs (akW anI anJ d hd:)
def anK:=λd hd=>(bY d hd).1
def anL:=λd hd=>(bY d hd).2
noncomputable def aex:=mk abb Tryz.func240 (hc Nc (hc Dk (hc Ng (hc Nh (hc aew hn)))))
def Gj:=λl hl hc=>aex.cs (aqT ⟨Ww,Wx⟩ ⟨Gg,Gh⟩ ⟨aem,aen⟩ ⟨aer,aes⟩ anK anL l hl hc:)
def ajp:=λl hl hc=>(Gj l hl hc).1
def ajq:=λl hl hc=>(Gj l hl hc).2
noncomputable def ajr:=mk abd Tryz.func267 hn
def eO:=λn h1 h2=>ajr.cs (aqU n h1 h2:)
def asP:=λn h1 h2=>(eO n h1 h2).1
def asQ:=λn h1 h2=>(eO n h1 h2).2
noncomputable def ajs:=mk abe Tryz.func241 (hc ajr hn)
def dP:=λa b ha hb=>ajs.cs (aqV asP asQ a b ha hb:)
def asR:=λa b ha hb=>(dP a b ha hb).1
def asS:=λa b ha hb=>(dP a b ha hb).2
noncomputable def ajt:=mk abf Tryz.func194 (hc Dk (hc aex (hc ajs hn)))
def xA:=λa b ha hb=>ajt.cs (aqX ⟨Gg,Gh⟩ ⟨ajp,ajq⟩ asR asS a b ha hb:)
def asT:=λa b ha hb=>(xA a b ha hb).1
def asU:=λa b ha hb=>(xA a b ha hb).2
noncomputable def aey:=mk abg Tryz.func268 hn
def asV:=λn h1 h2=>(aey.cs (ait n h1 h2:)).1
def asW:=λn h1 h2=>(aey.cs (ait n h1 h2:)).2
noncomputable def aju:=mk abh Tryz.func242 (hc aey hn)
def jN:=λa b ha hb=>aju.cs (aqW asV asW a b ha hb:)
def asX:=λa b ha hb=>(jN a b ha hb).1
def asY:=λa b ha hb=>(jN a b ha hb).2
noncomputable def aez:=mk QA Tryz.func284 (hc ahl hn)
def gu:=λa b d hd h1 h2=>aez.cs (alv ⟨asl,asn⟩ a b d hd h1 h2:)
def anM:=λa b d hd h1 h2=>(gu a b d hd h1 h2).1
def anN:=λa b d hd h1 h2=>(gu a b d hd h1 h2).2
noncomputable def anO:Ct aG OI:=never OI
def anP:dI E 285 (dD anO):=ku (enters_of Tryz.func285 (by kernel_rfl) rfl)
noncomputable def anQ:Ct aG OJ:=never OJ
def anR:dI E 286 (dD anQ):=ku (enters_of Tryz.func286 (by kernel_rfl) rfl)
noncomputable def anS:Ct aG OL:=never OL
def anT:dI E 287 (dD anS):=ku (enters_of Tryz.func287 (by kernel_rfl) rfl)
noncomputable def anU:Ct aG OM:=never OM
def anV:dI E 288 (dD anU):=ku (enters_of Tryz.func288 (by kernel_rfl) rfl)
noncomputable def anW:Ct aG OO:=never OO
def anX:dI E 289 (dD anW):=ku (enters_of Tryz.func289 (by kernel_rfl) rfl)
noncomputable def anY:Ct aG OQ:=never OQ
def anZ:dI E 290 (dD anY):=ku (enters_of Tryz.func290 (by kernel_rfl) rfl)
noncomputable def an0:Ct aG OT:=never OT
def an1:dI E 291 (dD an0):=ku (enters_of Tryz.func291 (by kernel_rfl) rfl)
noncomputable def lS:Ct aG Fz:=never Fz
def lU:dI E 269 (dD lS):=ku (enters_of Tryz.func269 (by kernel_rfl) rfl)
noncomputable def aeA:=mk QB Tryz.func269 (hc ahl (hc aez (hk anP (hk anR (hk anT (hk anV (hk anX (hk anZ (hk an1 (hk lU hn))))))))))
def iL:=λa b k d hd h1 h2=>aeA.cs (alx anM anN _ _ _ _ _ _ _ _ _ _ _ _ _ _ _ _ a b k d hd h1 h2:)
def an2:=λa b k d hd h1 h2=>(iL a b k d hd h1 h2).1
def an3:=λa b k d hd h1 h2=>(iL a b k d hd h1 h2).2
noncomputable def ajv:Ct aG ahY:={pre:=λx=>decide ((0:Int)<=x.1)&&decide ((x.1:Int)<=18446744073709551615),fn:=λx=>((Lib.bitLen (x.1:Int).toNat:Int),())}
def asZ(n:Int)(h1:0<=n)(h2:n<=18446744073709551615):ajv.pre (n,())=true:=by
 show(decide _&&decide _)=true;simp only [Bool.and_eq_true,decide_eq_true_eq];exact⟨h1,h2⟩
def as0:dI E 270 (dD ajv):=
 adh (enters_of Tryz.func270 (by kernel_rfl) rfl) rfl λx w h=>by
  have h':(decide ((0:Int)<=x)&&decide (x<=18446744073709551615))=true:=h;simp only [Bool.and_eq_true,decide_eq_true_eq]at h';exact bits_Len x w h'.1 h'.2
noncomputable def aeB:=mk QC Tryz.func243 (hc aeA (hk as0 hn))
def kI:=λa ha=>aeB.cs (aly an2 an3 asZ a ha:)
def an4:=λa ha=>(kI a ha).1
def an5:=λa ha=>(kI a ha).2
noncomputable def aeC:=mk abj Tryz.func196 (hc Dk (hc Ng (hc aex (hc aju (hc aeB hn)))))
def xB:=λa b ha hb=>aeC.cs (aqY ⟨Gg,Gh⟩ ⟨aem,aen⟩ ⟨ajp,ajq⟩ asX asY an4 an5 a b ha hb:)
def ajw:=λa b ha hb=>(xB a b ha hb).1
def ajx:=λa b ha hb=>(xB a b ha hb).2
noncomputable def ajy:=mk abk Tryz.func195 (hc Dk (hc WA (hc Av (hc aeC hn))))
def sj:=λa n ha=>ajy.cs (aqZ ⟨Gg,Gh⟩ ⟨aek,ael⟩ ⟨Df,Dh⟩ ⟨ajw,ajx⟩ a n ha:)
def as1:=λa n ha=>(sj a n ha).1
def as2:=λa n ha=>(sj a n ha).2
noncomputable def ajz:=mk abl Tryz.func141 (hc Wz (hc WA (hc aeo (hc ajt (hc aeC (hc ajy (hc aep hn)))))))
def xC:=λop x y hx hy=>ajz.cs (aq0 ⟨aee,aef⟩ ⟨aek,ael⟩ ⟨aji,ajj⟩ ⟨asT,asU⟩ ⟨ajw,ajx⟩ ⟨as1,as2⟩ ⟨ajk,ajl⟩ op x y hx hy:)
def as3:=λop x y hx hy=>(xC op x y hx hy).1
def as4:=λop x y hx hy=>(xC op x y hx hy).2
noncomputable def ajA:=mk abm Tryz.func70 (hc Wy (hc ajz (hc aeh (hc aei hn))))
def qm:=λt op x y ht hx hy=>ajA.cs (aq1 ⟨aec,aed⟩ as3 as4 ai9 aja ⟨ajb,ajc⟩ t op x y ht hx hy:)
def as5:=λt op x y ht hx hy=>(qm t op x y ht hx hy).1
def as6:=λt op x y ht hx hy=>(qm t op x y ht hx hy).2
set_option maxRecDepth 100000
set_option maxHeartbeats 4000000
noncomputable def WB:=mk abn Tryz.func145 (hc Nh hn)
def lJ:=λa ha=>WB.cs (aqH ⟨aer,aes⟩ a ha:)
def aeD:=λa ha=>(lJ a ha).1
def aeE:=λa ha=>(lJ a ha).2
noncomputable def ajB:=mk abo Tryz.func73 (hc WB hn)
def l8:=λa ha=>ajB.cs (aqI ⟨aeD,aeE⟩ a ha:)
def as7:=λa ha=>(l8 a ha).1
def as8:=λa ha=>(l8 a ha).2
noncomputable def aeF:=mk abp Tryz.func134 (hc Av hn)
def xD:=λr a b=>aeF.cs (aro ⟨Df,Dh⟩ r a b:)
def ajC:=λr a b=>(xD r a b).1
def ajD:=λr a b=>(xD r a b).2
noncomputable def ajE:=mk abq Tryz.func204 (hc WB hn)
def oH:=λa ha=>ajE.cs (arp ⟨aeD,aeE⟩ a ha:)
def as9:=λa ha=>(oH a ha).1
def ata:=λa ha=>(oH a ha).2
noncomputable def ajF:=mk abr Tryz.func147 (hc WB (hc ajE hn))
def l9:=λs hs=>ajF.cs (arq ⟨aeD,aeE⟩ ⟨as9,ata⟩ s hs:)
def atb:=λs hs=>(l9 s hs).1
def atc:=λs hs=>(l9 s hs).2
noncomputable def ajG:=mk abt Tryz.func74 (hc aep (hc Dk (hc Wy (hc ajF (hc Wz (hc aeF hn))))))
def xE:=λs n hs h0 h1=>ajG.cs (arw ⟨ajk,ajl⟩ ⟨Gg,Gh⟩ ⟨aec,aed⟩ atb atc ⟨aee,aef⟩ ⟨ajC,ajD⟩ s n hs h0 h1:)
def atd:=λs n hs h0 h1=>(xE s n hs h0 h1).1
def ate:=λs n hs h0 h1=>(xE s n hs h0 h1).2
noncomputable def ajH:=mk abu Tryz.func20 (hc ahh (hc ad7 (hc ajg (hc ad3 (hc WA (hc ajG (hc ai7 (hc ajB (hc ajA (hc aej (hc ajf (hc ajh hn))))))))))))
def xG:=λt b ht hb=>ajH.cs (arx ⟨ar4,ar5⟩ ⟨aiQ,aiR⟩ ⟨asL,asM⟩ ⟨aiG,aiH⟩ ⟨aek,ael⟩ ⟨atd,ate⟩ ⟨asF,asG⟩ ⟨as7,as8⟩ ⟨as5,as6⟩ ⟨ajd,aje⟩ ⟨asJ,asK⟩ asN asO t b ht hb:)
def atf:=λt b ht hb=>(xG t b ht hb).1
def atg:=λt b ht hb=>(xG t b ht hb).2
noncomputable def zu:=mk QD Tryz.func78 (hc jE hn)
def vk:=λa=>zu.cs (akY ⟨kC,kD⟩ a:)
def Cu:=λa=>(vk a).1
def Cv:=λa=>(vk a).2
noncomputable def TL:=mk QE Tryz.func45 (hc zu hn)
def xH:=TL.cs (alr ⟨Cu,Cv⟩:)
def aeG:=(xH).1
def aeH:=(xH).2
noncomputable def Gm:=mk QF Tryz.func177 hn
def TM:=λa b ha=>(Gm.cs (ab0 a b ha:)).1
def TN:=λa b ha=>(Gm.cs (ab0 a b ha:)).2
noncomputable def aeI:=mk QG Tryz.func211 (hc jE hn)
def xI:=λm hm=>aeI.cs (akZ ⟨kC,kD⟩ m hm:)
def an6:=λm hm=>(xI m hm).1
def an7:=λm hm=>(xI m hm).2
noncomputable def qZ:=mk QH Tryz.func155 (hc aeI (hc Gm hn))
def AL:=λa ha=>qZ.cs (ak0 an6 an7 ⟨TM,TN⟩ a ha:)
def vo:=λa ha=>(AL a ha).1
def vB:=λa ha=>(AL a ha).2
noncomputable def TP:=mk QI Tryz.func205 hn
def an8:=λa=>(TP.cs (ab2 a:)).1
def an9:=λa=>(TP.cs (ab2 a:)).2
noncomputable def Kt:=mk QJ Tryz.func206 hn
def aeJ:=λa n ha=>(Kt.cs (ab1 a n ha:)).1
def aeK:=λa n ha=>(Kt.cs (ab1 a n ha:)).2
noncomputable def TQ:=mk QK Tryz.func149 (hc jE (hc qZ (hc Kt (hc TP hn))))
def xJ:=λa n ha=>TQ.cs (ak2 ⟨kC,kD⟩ ⟨vo,vB⟩ ⟨aeJ,aeK⟩ an8 an9 a n ha:)
def aeL:=λa n ha=>(xJ a n ha).1
def aeM:=λa n ha=>(xJ a n ha).2
noncomputable def Gn:=mk QL Tryz.func125 (hc Gm hn)
def su:=λa b ha=>Gn.cs (ak1 ⟨TM,TN⟩ a b ha:)
def Ku:=λa b ha=>(su a b ha).1
def Kv:=λa b ha=>(su a b ha).2
noncomputable def TS:=mk QM Tryz.func150 (hc Gn hn)
def xK:=λa b ha=>TS.cs (ak3 ⟨Ku,Kv⟩ a b ha:)
def aeN:=λa b ha=>(xK a b ha).1
def aeO:=λa b ha=>(xK a b ha).2
noncomputable def Gp:=mk QN Tryz.func75 (hc TQ (hc TS hn))
def AO:=λa ha=>Gp.cs (ak4 ⟨aeL,aeM⟩ ⟨aeN,aeO⟩ a ha:)
def Kw:=λa ha=>(AO a ha).1
def Ky:=λa ha=>(AO a ha).2
noncomputable def nN:=mk QO Tryz.func85 hn
def q9:=λa ha=>(nN.cs (ab4 a ha:)).1
def ru:=λa ha=>(nN.cs (ab4 a ha:)).2
noncomputable def TT:=mk QS Tryz.func151 (hc nN hn)
def xL:=λa ha=>TT.cs (ak9 ⟨q9,ru⟩ a ha:)
def aeP:=λa ha=>(xL a ha).1
def aeQ:=λa ha=>(xL a ha).2
noncomputable def Kz:=mk QT Tryz.func76 (hc TT hn)
def xM:=λa ha=>Kz.cs (ala ⟨aeP,aeQ⟩ a ha:)
def TU:=λa ha=>(xM a ha).1
def TW:=λa ha=>(xM a ha).2
noncomputable def Gq:=mk QU Tryz.func77 (hc TQ (hc TS (hc TT hn)))
def AQ:=λa t ha ht hok=>Gq.cs (alb ⟨aeL,aeM⟩ ⟨aeN,aeO⟩ ⟨aeP,aeQ⟩ a t ha ht hok:)
def KA:=λa t ha ht hok=>(AQ a t ha ht hok).1
def KC:=λa t ha ht hok=>(AQ a t ha ht hok).2
noncomputable def T9:=mk QV Tryz.func79 hn
def aoa:=λk l=>(T9.cs (acR k l:)).1
def aob:=λk l=>(T9.cs (acR k l:)).2
noncomputable def KD:=mk QW Tryz.func80 (hc jE hn)
def sD:=λa=>KD.cs (akX ⟨kC,kD⟩ a:)
def Ua:=λa=>(sD a).1
def Ub:=λa=>(sD a).2
noncomputable def Uc:=mk QX Tryz.func248 (hc Gm (hc oW hn))
def xO:=λl m hl hn hm hma=>Uc.cs (ali ⟨TM,TN⟩ ⟨uX,uY⟩ l m hl hn hm hma:)
def aeR:=λl m hl hn hm hma=>(xO l m hl hn hm hma).1
def aeS:=λl m hl hn hm hma=>(xO l m hl hn hm hma).2
noncomputable def Ud:=mk QY Tryz.func249 (hc nN hn)
def AU:=λa ha=>Ud.cs (ak8 ⟨q9,ru⟩ a ha:)
def aeT:=λa ha=>(AU a ha).1
def aeU:=λa ha=>(AU a ha).2
noncomputable def Ue:=mk QZ Tryz.func207 (hc qZ (hc Uc (hc Ud hn)))
def xP:=λa b ha hb=>Ue.cs (alj ⟨vo,vB⟩ ⟨aeR,aeS⟩ ⟨aeT,aeU⟩ a b ha hb:)
def aeV:=λa b ha hb=>(xP a b ha hb).1
def aeW:=λa b ha hb=>(xP a b ha hb).2
noncomputable def aeX:=mk Q0 Tryz.func208 (hc qZ (hc oW (hc nN (hc qY hn))))
def sF:=λa n ha=>aeX.cs (alm ⟨vo,vB⟩ ⟨uX,uY⟩ ⟨q9,ru⟩ ⟨zh,zi⟩ a n ha:)
def aoc:=λa n ha=>(sF a n ha).1
def aod:=λa n ha=>(sF a n ha).2
noncomputable def Uf:=mk Q5 Tryz.func250 hn
def aoe:=λa b ha hb sa sb=>(Uf.cs (ab8 a b ha hb sa sb:)).1
def aof:=λa b ha hb sa sb=>(Uf.cs (ab8 a b ha hb sa sb:)).2
noncomputable def Ug:=mk Q6 Tryz.func209 (hc qZ (hc oW (hc Uc (hc Uf (hc Ud hn)))))
def xQ:=λa b ha hb=>Ug.cs (alk ⟨vo,vB⟩ ⟨uX,uY⟩ ⟨aeR,aeS⟩ aoe aof ⟨aeT,aeU⟩ a b ha hb:)
def aeY:=λa b ha hb=>(xQ a b ha hb).1
def aeZ:=λa b ha hb=>(xQ a b ha hb).2
noncomputable def ae0:=mk Q7 Tryz.func152 (hc Ug (hc Ue (hc aeX hn)))
def xR:=λop x y hx hy=>ae0.cs (ale ⟨aeY,aeZ⟩ ⟨aeV,aeW⟩ ⟨aoc,aod⟩ op x y hx hy:)
def aog:=λop x y hx hy=>(xR op x y hx hy).1
def aoh:=λop x y hx hy=>(xR op x y hx hy).2
noncomputable def KE:=mk Q8 Tryz.func156 (hc qZ hn)
def xS:=λa ha=>KE.cs (ak7 ⟨vo,vB⟩ a ha:)
def Uh:=λa ha=>(xS a ha).1
def Ui:=λa ha=>(xS a ha).2
noncomputable def ae1:=mk Q9 Tryz.func210 (hc nN hn)
def xU:=λop n y hy=>ae1.cs (alc ⟨q9,ru⟩ op n y hy:)
def aoi:=λop n y hy=>(xU op n y hy).1
def aoj:=λop n y hy=>(xU op n y hy).2
set_option maxRecDepth 100000
set_option maxHeartbeats 4000000
noncomputable def ae2:=mk Ra Tryz.func153 (hc Gn (hc nN (hc Gf (hc KD (hc KE (hc ae1 hn))))))
def xV:=λop x y hx hy=>ae2.cs (ald ⟨Ku,Kv⟩ ⟨q9,ru⟩ ⟨Kn,Ko⟩ ⟨Ua,Ub⟩ ⟨Uh,Ui⟩ aoi aoj op x y hx hy:)
def aol:=λop x y hx hy=>(xV op x y hx hy).1
def aom:=λop x y hx hy=>(xV op x y hx hy).2
noncomputable def Uj:=mk Rb Tryz.func81 (hc zu (hc Gn (hc ae0 (hc ae2 (hc Gq hn)))))
def Dl:=λop x y t hop hx hy ht hok=>Uj.cs (alf ⟨Cu,Cv⟩ ⟨Ku,Kv⟩ aog aoh aol aom ⟨KA,KC⟩ op x y t hop hx hy ht hok:)
def ae3:=λop x y t hop hx hy ht hok=>(Dl op x y t hop hx hy ht hok).1
def ae4:=λop x y t hop hx hy ht hok=>(Dl op x y t hop hx hy ht hok).2
noncomputable def Uk:=mk Rc Tryz.func154 hn
def aon:=λl k hl=>(Uk.cs (acS l k hl:)).1
def aoo:=λl k hl=>(Uk.cs (acS l k hl:)).2
noncomputable def ae5:=mk Rf Tryz.func82 (hc zu (hc Gq (hc Uk hn)))
def vC:=λl k t hl ht hk=>ae5.cs (al6 ⟨Cu,Cv⟩ ⟨KA,KC⟩ aon aoo l k t hl ht hk:)
def aop:=λl k t hl ht hk=>(vC l k t hl ht hk).1
def aoq:=λl k t hl ht hk=>(vC l k t hl ht hk).2
noncomputable def KF:=mk Rh Tryz.func84 (hc nN hn)
def vD:=λa ha=>KF.cs (al5 ⟨q9,ru⟩ a ha:)
def Ul:=λa ha=>(vD a ha).1
def Um:=λa ha=>(vD a ha).2
noncomputable def ae6:=mk Ri Tryz.func83 (hc nN (hc KF hn))
def vE:=λo x y r hx hy hr=>ae6.cs (al7 ⟨q9,ru⟩ ⟨Ul,Um⟩ o x y r hx hy hr:)
def aor:=λo x y r hx hy hr=>(vE o x y r hx hy hr).1
def aos:=λo x y r hx hy hr=>(vE o x y r hx hy hr).2
noncomputable def Un:=mk Rj Tryz.func86 hn
def aot:=λb=>(Un.cs (acU b:)).1
def aou:=λb=>(Un.cs (acU b:)).2
noncomputable def Uo:=mk Rk Tryz.func87 hn
def aov:=λb=>(Uo.cs (acV b:)).1
def aow:=λb=>(Uo.cs (acV b:)).2
noncomputable def KG:=mk Rl Tryz.func157 hn
def ae7:=λs k=>(KG.cs (acT s k:)).1
def ae8:=λs k=>(KG.cs (acT s k:)).2
noncomputable def ae9:=mk Rm Tryz.func158 (hc KE (hc Gn (hc KG hn)))
def Dm:=λs n hs hx hy hf=>ae9.cs (al8 ⟨Uh,Ui⟩ ⟨Ku,Kv⟩ ⟨ae7,ae8⟩ s n hs hx hy hf:)
def aox:=λs n hs hx hy hf=>(Dm s n hs hx hy hf).1
def aoy:=λs n hs hx hy hf=>(Dm s n hs hx hy hf).2
noncomputable def afa:=mk Rn Tryz.func88 (hc KE (hc qZ (hc nN (hc KG (hc ae9 (hc KF hn))))))
def xW:=λs n hs=>afa.cs (al9 ⟨Uh,Ui⟩ ⟨vo,vB⟩ ⟨q9,ru⟩ ⟨ae7,ae8⟩ aox aoy ⟨Ul,Um⟩ s n hs:)
def aoz:=λs n hs=>(xW s n hs).1
def aoA:=λs n hs=>(xW s n hs).2
noncomputable def afb:=mk Ro Tryz.func21 (hc uM (hc zu (hc KD (hc afa (hc TL (hc Gp (hc nN (hc Kz (hc Uj (hc Gq (hc ae5 (hc ae6 (hc T9 (hc KF (hc Un (hc Uo hn))))))))))))))))
def xX:=λt b ht hb=>afb.cs (ama ⟨zk,zl⟩ ⟨Cu,Cv⟩ ⟨Ua,Ub⟩ ⟨aoz,aoA⟩ ⟨aeG,aeH⟩ ⟨Kw,Ky⟩ ⟨q9,ru⟩ ⟨TU,TW⟩ ae3 ae4 ⟨KA,KC⟩ aop aoq aor aos aoa aob ⟨Ul,Um⟩ aot aou aov aow t b ht hb:)
def aoB:=λt b ht hb=>(xX t b ht hb).1
def aoC:=λt b ht hb=>(xX t b ht hb).2
noncomputable def ajI:=mk abv Tryz.func12 (hc Av hn)
def Dn:=ajI.cs (aq2 ⟨Df,Dh⟩:)
def ath:=(Dn).1
def ati:=(Dn).2
noncomputable def Gr:=mk Rp Tryz.func54 (hc qY hn)
def vF:=λl h=>Gr.cs (amf ⟨zh,zi⟩ l h:)
def KH:=λl h=>(vF l h).1
def KJ:=λl h=>(vF l h).2
noncomputable def afc:=mk Rq Tryz.func180 (hc Gr hn)
def xY:=λw i hw hi=>afc.cs (amv ⟨KH,KJ⟩ w i hw hi:)
def aoD:=λw i hw hi=>(xY w i hw hi).1
def aoE:=λw i hw hi=>(xY w i hw hi).2
noncomputable def Uq:=mk Rs Tryz.func164 (hc Gd hn)
def xZ:=λi=>Uq.cs (ams ⟨Kc,Ke⟩ i:)
def afd:=λi=>(xZ i).1
def afe:=λi=>(xZ i).2
noncomputable def aff:=mk Rt Tryz.func100 (hc Uq hn)
def sG:=λl hl=>aff.cs (amt ⟨afd,afe⟩ l hl:)
def aoF:=λl hl=>(sG l hl).1
def aoG:=λl hl=>(sG l hl).2
noncomputable def KL:=mk Rv Tryz.func108 (hc gy hn)
def vG:=λb p hb h1 h2=>KL.cs (alp ⟨gX,gY⟩ b p hb h1 h2:)
def Ur:=λb p hb h1 h2=>(vG b p hb h1 h2).1
def Us:=λb p hb h1 h2=>(vG b p hb h1 h2).2
noncomputable def afg:=mk Rw Tryz.func232 (hc Ki (hc gy hn))
def vH:=λt b p hb t0 h1 h2=>afg.cs (amC ⟨Tv,Tw⟩ ⟨gX,gY⟩ t b p hb t0 h1 h2:)
def aoH:=λt b p hb t0 h1 h2=>(vH t b p hb t0 h1 h2).1
def aoI:=λt b p hb t0 h1 h2=>(vH t b p hb t0 h1 h2).2
noncomputable def afh:=mk Rx Tryz.func233 (hc gy hn)
def vI:=λt b p hb t0 h1 h2=>afh.cs (amB ⟨gX,gY⟩ t b p hb t0 h1 h2:)
def aoJ:=λt b p hb t0 h1 h2=>(vI t b p hb t0 h1 h2).1
def aoK:=λt b p hb t0 h1 h2=>(vI t b p hb t0 h1 h2).2
noncomputable def afi:=mk Ry Tryz.func181 (hc aff (hc Uq (hc afg (hc Ki (hc Tt (hc afh (hc zm (hc gy (hc KL hn)))))))))
def sH:=λb p hb h1 h2=>afi.cs (amD ⟨aoF,aoG⟩ ⟨afd,afe⟩ aoH aoI ⟨Tv,Tw⟩ ⟨adt,adu⟩ aoJ aoK ⟨Ck,Cm⟩ ⟨gX,gY⟩ ⟨Ur,Us⟩ b p hb h1 h2:)
def aoL:=λb p hb h1 h2=>(sH b p hb h1 h2).1
def aoM:=λb p hb h1 h2=>(sH b p hb h1 h2).2
noncomputable def afj:=mk Rz Tryz.func182 (hc KL hn)
def sI:=λn b p hb hn h1 h2=>afj.cs (alz ⟨Ur,Us⟩ n b p hb hn h1 h2:)
def aoN:=λn b p hb hn h1 h2=>(sI n b p hb hn h1 h2).1
def aoO:=λn b p hb hn h1 h2=>(sI n b p hb hn h1 h2).2
noncomputable def KM:=mk RA Tryz.func14 (hc qY (hc jE (hc Gr hn)))
def AV:=λm h=>KM.cs (amg ⟨zh,zi⟩ ⟨kC,kD⟩ ⟨KH,KJ⟩ m h:)
def Ut:=λm h=>(AV m h).1
def Uu:=λm h=>(AV m h).2
noncomputable def KN:=mk RD Tryz.func234 hn
def afk:=λm h=>(KN.cs (ac5 m h:)).1
def afl:=λm h=>(KN.cs (ac5 m h:)).2
noncomputable def afm:=mk RF Tryz.func259 (hc Gd (hc qY hn))
def vJ:=λw=>afm.cs (amr ⟨Kc,Ke⟩ ⟨zh,zi⟩ w:)
def aoP:=λw=>(vJ w).1
def aoQ:=λw=>(vJ w).2
noncomputable def Uv:=mk RG Tryz.func261 hn
def aoR:=λm b=>(Uv.cs (ac9 m b:)).1
def aoS:=λm b=>(Uv.cs (ac9 m b:)).2
noncomputable def Gs:=mk RH Tryz.func262 hn
def Uw:=λm h=>(Gs.cs (ac6 m h:)).1
def Ux:=λm h=>(Gs.cs (ac6 m h:)).2
noncomputable def Cw:=mk RL Tryz.func281 (hc oW hn)
def x9:=λm n h=>Cw.cs (amh ⟨uX,uY⟩ m n h:)
def Cx:=λm n h=>(x9 m n h).1
def Cy:=λm n h=>(x9 m n h).2
noncomputable def afn:=mk RN Tryz.func277 (hc Gs (hc Cw hn))
def yc:=λm i h ho=>afn.cs (amn ⟨Uw,Ux⟩ ⟨Cx,Cy⟩ m i h ho:)
def aoT:=λm i h ho=>(yc m i h ho).1
def aoU:=λm i h ho=>(yc m i h ho).2
noncomputable def Gu:=mk RO Tryz.func278 (hc Cw hn)
def Uy:=λm d v h d0 d1=>(Gu.cs (ac8 ⟨Cx,Cy⟩ m d v h d0 d1:)).1
def Uz:=λm d v h d0 d1=>(Gu.cs (ac8 ⟨Cx,Cy⟩ m d v h d0 d1:)).2
noncomputable def afo:=mk RQ Tryz.func279 (hc oW hn)
def vK:=λv k h k0 k1=>afo.cs (ami ⟨uX,uY⟩ v k h k0 k1:)
def aoV:=λv k h k0 k1=>(vK v k h k0 k1).1
def aoW:=λv k h k0 k1=>(vK v k h k0 k1).2
noncomputable def afp:=mk RS Tryz.func280 (hc oW (hc Gs (hc Cw (hc Gu hn))))
def vL:=λm i h hi ho=>afp.cs (aml ⟨uX,uY⟩ ⟨Uw,Ux⟩ ⟨Cx,Cy⟩ ⟨Uy,Uz⟩ m i h hi ho:)
def aoX:=λm i h hi ho=>(vL m i h hi ho).1
def aoY:=λm i h hi ho=>(vL m i h hi ho).2
noncomputable def afq:=mk RU Tryz.func282 (hc Cw (hc Gu hn))
def yg:=λm i h hi hq hn ho=>afq.cs (amm ⟨Cx,Cy⟩ ⟨Uy,Uz⟩ m i h hi hq hn ho:)
def aoZ:=λm i h hi hq hn ho=>(yg m i h hi hq hn ho).1
def ao0:=λm i h hi hq hn ho=>(yg m i h hi hq hn ho).2
noncomputable def afr:=mk RV Tryz.func263 (hc Gf (hc Cw (hc afq (hc afp (hc Gu (hc afo (hc afn hn)))))))
def Dp:=λm i h hi hn ho=>afr.cs (amo ⟨Kn,Ko⟩ ⟨Cx,Cy⟩ aoZ ao0 aoX aoY ⟨Uy,Uz⟩ aoV aoW aoT aoU m i h hi hn ho:)
def ao1:=λm i h hi hn ho=>(Dp m i h hi hn ho).1
def ao2:=λm i h hi hn ho=>(Dp m i h hi hn ho).2
noncomputable def afs:=mk RX Tryz.func235 (hc afm (hc KM (hc KN (hc afr (hc Gs (hc Uv hn))))))
def vM:=λm b h ho=>afs.cs (amx ⟨aoP,aoQ⟩ ⟨Ut,Uu⟩ ⟨afk,afl⟩ ao1 ao2 ⟨Uw,Ux⟩ aoR aoS m b h ho:)
def ao3:=λm b h ho=>(vM m b h ho).1
def ao4:=λm b h ho=>(vM m b h ho).2
noncomputable def UA:=mk RY Tryz.func236 hn
def ao5:=λl n h=>(UA.cs (ada l n h:)).1
def ao6:=λl n h=>(UA.cs (ada l n h:)).2
noncomputable def aft:=mk RZ Tryz.func183 (hc KM (hc afs (hc KN (hc UA hn))))
def yh:=λm q n h hq ho=>aft.cs (amy ⟨Ut,Uu⟩ ao3 ao4 ⟨afk,afl⟩ ⟨ao5,ao6⟩ m q n h hq ho:)
def ao7:=λm q n h hq ho=>(yh m q n h hq ho).1
def ao8:=λm q n h hq ho=>(yh m q n h hq ho).2
noncomputable def afu:=mk R3 Tryz.func184 (hc gy hn)
def vN:=λb p hb h1 h2=>afu.cs (amA ⟨gX,gY⟩ b p hb h1 h2:)
def ao9:=λb p hb h1 h2=>(vN b p hb h1 h2).1
def apa:=λb p hb h1 h2=>(vN b p hb h1 h2).2
noncomputable def UC:=mk R4 Tryz.func129 (hc afc (hc aft (hc afi (hc afu (hc zm (hc gy (hc afj hn)))))))
def vO:=λb p hb h1 h2=>UC.cs (amE aoD aoE ao7 ao8 aoL aoM ao9 apa ⟨Ck,Cm⟩ ⟨gX,gY⟩ aoN aoO b p hb h1 h2:)
def afv:=λb p hb h1 h2=>(vO b p hb h1 h2).1
def afw:=λb p hb h1 h2=>(vO b p hb h1 h2).2
set_option maxRecDepth 100000
set_option maxHeartbeats 4000000
noncomputable def UD:=mk R5 Tryz.func51 (hc UC (hc gy hn))
def AX:=λc b p hb h1 h2=>UD.cs (amG ⟨afv,afw⟩ ⟨gX,gY⟩ c b p hb h1 h2:)
def afx:=λc b p hb h1 h2=>(AX c b p hb h1 h2).1
def afy:=λc b p hb h1 h2=>(AX c b p hb h1 h2).2
noncomputable def afz:=mk R6 Tryz.func49 (hc TB (hc TI (hc gy (hc UD (hc Tx (hc Kh hn))))))
def yj:=λb p hb h1 h2=>afz.cs (amH ⟨adG,adH⟩ ⟨adV,adW⟩ ⟨gX,gY⟩ ⟨afx,afy⟩ ⟨adw,adx⟩ ⟨Tq⟩ b p hb h1 h2:)
def apb:=λb p hb h1 h2=>(yj b p hb h1 h2).1
def apc:=λb p hb h1 h2=>(yj b p hb h1 h2).2
noncomputable def afA:=mk R7 Tryz.func53 (hc UC (hc zm (hc gy hn)))
def qo:=λn b p hb h1 h2=>afA.cs (amF ⟨afv,afw⟩ ⟨Ck,Cm⟩ ⟨gX,gY⟩ n b p hb h1 h2:)
def apd:=λn b p hb h1 h2=>(qo n b p hb h1 h2).1
def ape:=λn b p hb h1 h2=>(qo n b p hb h1 h2).2
noncomputable def afB:=mk R8 Tryz.func13 (hc afA (hc Kr (hc zm (hc gy (hc UD (hc TJ (hc afz hn)))))))
def qp:=λc hc hl=>afB.cs (amI apd ape ⟨ad1,ad2⟩ ⟨Ck,Cm⟩ ⟨gX,gY⟩ ⟨afx,afy⟩ ⟨adY,adZ⟩ apb apc c hc hl:)
def apf:=λc hc hl=>(qp c hc hl).1
def apg:=λc hc hl=>(qp c hc hl).2
noncomputable def ajJ:=mk abw Tryz.func130 (hc Av hn)
def vP:=λa ha=>ajJ.cs (aq7 ⟨Df,Dh⟩ a ha:)
def atj:=λa ha=>(vP a ha).1
def atl:=λa ha=>(vP a ha).2
noncomputable def ajK:=mk abx Tryz.func57 (hc Av (hc kH (hc ajJ hn)))
def AY:=λm h=>ajK.cs (arE ⟨Df,Dh⟩ ⟨lW,lY⟩ ⟨atj,atl⟩ m h:)
def atm:=λm h=>(AY m h).1
def atn:=λm h=>(AY m h).2
noncomputable def ajL:=mk aby Tryz.func58 (hc Nh hn)
def lK:=λm h=>ajL.cs (arF aer aes m h:)
def ato:=λm h=>(lK m h).1
def atp:=λm h=>(lK m h).2
noncomputable def afC:=mk abz Tryz.func133 hn
def atq:=λpc sv lt wt ha ins ct regs mem outs h=>(afC.cs (aiA pc sv lt wt ha ins ct regs mem outs h:)).1
def atr:=λpc sv lt wt ha ins ct regs mem outs h=>(afC.cs (aiA pc sv lt wt ha ins ct regs mem outs h:)).2
noncomputable def ajM:=mk abA Tryz.func59 (hc afC (hc aeo (hc aeF (hc kH hn))))
def nO:=λb m hb hm hs ho=>ajM.cs (arJ ⟨atq,atr⟩ ⟨aji,ajj⟩ ⟨ajC,ajD⟩ ⟨lW,lY⟩ b m hb hm hs ho:)
def att:=λb m hb hm hs ho=>(nO b m hb hm hs ho).1
def atu:=λb m hb hm hs ho=>(nO b m hb hm hs ho).2
noncomputable def ajN:=mk abB Tryz.func15 (hc ajM (hc ad7 (hc ajL (hc ajK hn))))
def AZ:=λb m hb hs ho=>ajN.cs (arK att atu ⟨aiQ,aiR⟩ ⟨ato,atp⟩ ⟨atm,atn⟩ b m hb hs ho:)
def atv:=λb m hb hs ho=>(AZ b m hb hs ho).1
def atw:=λb m hb hs ho=>(AZ b m hb hs ho).2
noncomputable def WE:=mk abC Tryz.func36 hn
def ajO:=λa b ha=>(WE.cs (aiu a b ha:)).1
def ajP:=λa b ha=>(WE.cs (aiu a b ha:)).2
noncomputable def ajQ:=mk abD Tryz.func16 (hc WE hn)
def yu:=λa b h=>ajQ.cs (arG ⟨ajO,ajP⟩ a b h:)
def atx:=λa b h=>(yu a b h).1
def aty:=λa b h=>(yu a b h).2
noncomputable def afD:=mk R9 Tryz.func237 (hc qZ (hc Kt hn))
def yw:=λx y n hx hy=>afD.cs (ak5 ⟨vo,vB⟩ ⟨aeJ,aeK⟩ x y n hx hy:)
def aph:=λx y n hx hy=>(yw x y n hx hy).1
def apj:=λx y n hx hy=>(yw x y n hx hy).2
noncomputable def afE:=mk Sb Tryz.func187 (hc jE (hc Gp (hc afD (hc Uj (hc Kz hn)))))
def A8:=λt op x y ht hx hy=>afE.cs (alg ⟨kC,kD⟩ ⟨Kw,Ky⟩ aph apj ae3 ae4 ⟨TU,TW⟩ t op x y ht hx hy:)
def apk:=λt op x y ht hx hy=>(A8 t op x y ht hx hy).1
def apl:=λt op x y ht hx hy=>(A8 t op x y ht hx hy).2
noncomputable def afF:=mk Sc Tryz.func188 (hc gy (hc zu (hc Ug (hc Ue (hc KD (hc KL hn))))))
def vQ:=λn b p hb hn h1 h2=>afF.cs (alq ⟨gX,gY⟩ ⟨Cu,Cv⟩ ⟨aeY,aeZ⟩ ⟨aeV,aeW⟩ ⟨Ua,Ub⟩ ⟨Ur,Us⟩ n b p hb hn h1 h2:)
def apm:=λn b p hb hn h1 h2=>(vQ n b p hb hn h1 h2).1
def apn:=λn b p hb hn h1 h2=>(vQ n b p hb hn h1 h2).2
noncomputable def afG:=mk Sd Tryz.func189 (hc Gp (hc Gq (hc Kz hn)))
def yx:=λt a ht ha=>afG.cs (alh ⟨Kw,Ky⟩ ⟨KA,KC⟩ ⟨TU,TW⟩ t a ht ha:)
def apo:=λt a ht ha=>(yx t a ht ha).1
def apq:=λt a ht ha=>(yx t a ht ha).2
noncomputable def afH:=mk Sg Tryz.func138 (hc gy (hc afE (hc afF (hc TL (hc afG hn)))))
def yB:=λb p hb h1 h2=>afH.cs (als ⟨gX,gY⟩ ⟨apk,apl⟩ ⟨apm,apn⟩ ⟨aeG,aeH⟩ apo apq b p hb h1 h2:)
def apr:=λb p hb h1 h2=>(yB b p hb h1 h2).1
def aps:=λb p hb h1 h2=>(yB b p hb h1 h2).2
noncomputable def afI:=mk Si Tryz.func63 (hc gy (hc zm (hc zu (hc afH hn))))
def sJ:=λn b p hb h1 h2=>afI.cs (alu ⟨gX,gY⟩ ⟨Ck,Cm⟩ ⟨Cu,Cv⟩ apr aps n b p hb h1 h2:)
def apt:=λn b p hb h1 h2=>(sJ n b p hb h1 h2).1
def apu:=λn b p hb h1 h2=>(sJ n b p hb h1 h2).2
noncomputable def afJ:=mk Sj Tryz.func19 (hc Kr (hc TJ (hc afI hn)))
def oI:=λc hc hl=>afJ.cs (al2 ⟨ad1,ad2⟩ ⟨adY,adZ⟩ ⟨apt,apu⟩ c hc hl:)
def apv:=λc hc hl=>(oI c hc hl).1
def apw:=λc hc hl=>(oI c hc hl).2
noncomputable def WG:=mk abE Tryz.func89 (hc WE hn)
def yC:=λa b ha=>WG.cs (aq3 ⟨ajO,ajP⟩ a b ha:)
def afK:=λa b ha=>(yC a b ha).1
def afL:=λa b ha=>(yC a b ha).2
noncomputable def ajR:=mk abF Tryz.func22 (hc WG hn)
def A9:=λa b ha=>ajR.cs (aq4 ⟨afK,afL⟩ a b ha:)
def atz:=λa b ha=>(A9 a b ha).1
def atA:=λa b ha=>(A9 a b ha).2
noncomputable def ajS:=mk abG Tryz.func90 (hc WG hn)
def vR:=λa b ha=>ajS.cs (arz ⟨afK,afL⟩ a b ha:)
def atB:=λa b ha=>(vR a b ha).1
def atC:=λa b ha=>(vR a b ha).2
noncomputable def ajT:=mk abH Tryz.func23 (hc WG (hc ajS hn))
def Ba:=λa b he ha=>ajT.cs (arA ⟨afK,afL⟩ ⟨atB,atC⟩ a b he ha:)
def atE:=λa b he ha=>(Ba a b he ha).1
def atF:=λa b he ha=>(Ba a b he ha).2
noncomputable def KO:=mk Sk Tryz.func94 (hc qZ (hc oW (hc Gr hn)))
def vS:=λa v ha hl=>KO.cs (amN ⟨vo,vB⟩ ⟨uX,uY⟩ ⟨KH,KJ⟩ a v ha hl:)
def KQ:=λa v ha hl=>(vS a v ha hl).1
def KR:=λa v ha hl=>(vS a v ha hl).2
noncomputable def UE:=mk Sl Tryz.func160 hn
def apx:=λl k=>(UE.cs (adg l k:)).1
def apy:=λl k=>(UE.cs (adg l k:)).2
noncomputable def afM:=mk Sn Tryz.func93 (hc KO (hc Gp (hc Gf (hc Gr (hc UE hn)))))
def vU:=λt regs loads ins ht h1 h2 h3=>afM.cs (amO ⟨KQ,KR⟩ ⟨Kw,Ky⟩ ⟨Kn,Ko⟩ ⟨KH,KJ⟩ apx apy t regs loads ins ht h1 h2 h3:)
def apz:=λt regs loads ins ht h1 h2 h3=>(vU t regs loads ins ht h1 h2 h3).1
def apA:=λt regs loads ins ht h1 h2 h3=>(vU t regs loads ins ht h1 h2 h3).2
noncomputable def afN:=mk abI Tryz.func95 (hc KO hn)
def atG:=λm rg v pc n h hr hl hv hw hc hn=>(afN.cs (aiF ⟨KQ,KR⟩ m rg v pc n h hr hl hv hw hc hn:)).1
def atH:=λm rg v pc n h hr hl hv hw hc hn=>(afN.cs (aiF ⟨KQ,KR⟩ m rg v pc n h hr hl hv hw hc hn:)).2
noncomputable def ajU:=mk abJ Tryz.func25 (hc afN (hc KO (hc afM hn)))
def sK:=λT S b m h=>ajU.cs (arX atG atH ⟨KQ,KR⟩ apz apA T S b m h:)
def atI:=λT S b m h=>(sK T S b m h).1
def atJ:=λT S b m h=>(sK T S b m h).2
noncomputable def ajV:=mk abK Tryz.func4 (hc ajN (hc ajH (hc ajQ (hc ajI (hc ajU (hc ajT (hc ajR (hc afB (hc afJ (hc uM (hc KM (hc afb hn))))))))))))
def sM:=λc d hc hd=>ajV.cs (arY ⟨atv,atw⟩ ⟨atf,atg⟩ ⟨atx,aty⟩ ⟨ath,ati⟩ atI atJ ⟨atE,atF⟩ ⟨atz,atA⟩ ⟨apf,apg⟩ ⟨apv,apw⟩ ⟨zk,zl⟩ ⟨Ut,Uu⟩ ⟨aoB,aoC⟩ c d hc hd:)
def atK:=λc d hc hd=>(sM c d hc hd).1
def atL:=λc d hc hd=>(sM c d hc hd).2
end Go.TX.F
namespace Go.Proofs.YtaaefcglllhodaaGreat
open Go.ChangeShapes Go.WideShapes Go.ChangeAt Go.RowKit
def au3:ownKnob Tryz.prog.godebug=Option.none:=by kernel_rfl
def ajW:laidOutB Tryz.prog=true:=by kernel_rfl
def afO:Tryz.prog.cellsOf 5=1:=by kernel_rfl
set_option maxRecDepth 100000 in
def lifted(os:Os)(started:os.Started)(H:Type)(enc:TypeId×Value->H):
  ReturnsInHanded {} Tryz.checked os 4 .any (Rows.fnSymRunSpec.pre6 enc Tryz.prog Tryz.f4 Rows.fnSymRunRow.domain false) (Rows.fnSymRunSpec.post enc Tryz.prog Tryz.f4 false true false false):=by
 refine returnsInHanded_of_change (C:=Tryz.checked) au3 started (by kernel_rfl) Tryz.func4
  (ChangeSpec.witness6 (enc:=enc) (C:=Tryz.checked) false ⟨#[], #[.slice none 0 0,.slice none 0 0],[]⟩ 8 (by kernel_rfl) (by kernel_rfl) (by kernel_rfl) (by kernel_rfl)) ?_
 intro W base args ds gs before hval0 hW _ _;have hval:∀(j:Nat) t v,Tryz.f4.params[j]? =some t->args[j]? =some v->Value.okWide Tryz.prog W .any base t v:=hval0;have hW':=hW;obtain⟨p,q,hA0,hV,rfl,_,_⟩:=hW;have hA:DataW.TrodAll enc Tryz.prog W 0 (λ_=>true) true Tryz.f4.params.toList args.toList ds p:=hA0;rw [Tryz.params4]at hA hval;obtain⟨v0,v1,d0,d1,p0,p1,rfl,rfl,rfl,h0,h1⟩:=trodAll_two hA;obtain⟨rfl,rfl⟩:=trodVars_none hV
 clear hA0 hval0
 simp only [List.append_nil]at hW';have hlt:∀x∈p0++p1,x.block<W.heap.size:=λx hx=>by simpa using hW'.lt x (by simpa using hx)
 have hl0:∀x∈p0,x.block<W.heap.size:=λx hx=>hlt x (List.mem_append_left _ hx)
 have hl1:∀x∈p1,x.block<W.heap.size:=λx hx=>hlt x (List.mem_append_right _ hx)
 obtain⟨xs,hr,hb⟩:=Go.TX.Nb Tryz.underlying22 Tryz.underlying5 afO (hval 0 22 v0 rfl rfl) h0 hl0;obtain⟨ys,hs,hc⟩:=Go.TX.Nb Tryz.underlying22 Tryz.underlying5 afO (hval 1 22 v1 rfl rfl) h1 hl1;have hp:=Go.TX.F.atK xs ys hb hc;have hq:=Go.TX.F.atL xs ys hb hc;refine(Go.TX.auY Go.TX.F.ajV.ok hr hs (λg d h=>by cases h) hp).mono λe W' ⟨he,hw⟩=> ?_
 have he:e= .returned (.bool true):=he.trans (congrArg (λz:Bool×Unit=>Ending.returned (.bool z.1)) hq);refine⟨_,he,[d0,d1],[],p0++p1,[],p0++p1,[],hW',trodAll_mk1 (shut_bool Tryz.underlying4 true),?_,rfl,hw.frame _,λh=>by cases h⟩;exact trodAll_mk2 (Below.trod ajW (by kernel_rfl) (of_decide_eq_true (by kernel_rfl)) h0 hw hl0) (Below.trod ajW (by kernel_rfl) (of_decide_eq_true (by kernel_rfl)) h1 hw hl1)
def y1:Tryz.pinned.checked.prog.funcNamed Rows.fnSymRunRow.func=some 4:=by kernel_rfl
def aS{a b:Bool}(h:a=true)(k:b=true):(a&&b)=true:=by rw [h,k];rfl
set_option maxHeartbeats 4000000 in
def y2:joinedFacts Tryz.pinned.checked.prog 4 Tryz.f4 Rows.fnSymRunSpec Rows.fnSymRunRow=true:=by
 unfold joinedFacts
 repeat' with_reducible apply aS
 all_goals (as_aux_lemma=>kernel_rfl)
def y3:Func.isWrapper Tryz.prog Tryz.f4 Rows.fnSymRunRow.wrapper Rows.fnSymRunRow.mainSum:=(by unfold Func.isWrapper;first | (rw [if_pos (by decide+kernel)];kernel_rfl) | (rw [if_neg (by decide+kernel)];exact⟨rfl,rfl⟩))
theorem x_holds:Rows.FnSymRunSaid:=
 OpenClaim.holds_of_wide 4 Tryz.f4 rfl rfl rfl rfl rfl rfl rfl ⟨rfl,rfl,rfl,rfl,rfl⟩ rfl rfl rfl rfl rfl y1 Tryz.func4 y2
  (of_decide_eq_true (by kernel_rfl)) y3
  (λos started H enc _=>lifted os started H enc)
end Go.Proofs.YtaaefcglllhodaaGreat
