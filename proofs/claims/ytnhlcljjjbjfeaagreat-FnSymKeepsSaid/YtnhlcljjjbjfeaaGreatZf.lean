/- For every input the law returns true, and the input reads as it did. No condition. -/
import Derived.Test.YtnhlcljjjbjfeaaGreatZe
import Derived.ChangeSlices
import Derived.ChangeSame
import Derived.JoinedOf
import Derived.JoinedAt
import Derived.Handed
import Derived.Below
import Derived.Carry
import Derived.OpenShut
import Derived.ChangeKeysEq
import Derived.Test.YtnhlcljjjbjfeaaGreatY
import Derived.Test.YtnhlcljjjbjfeaaGreatRows
set_option linter.all false
set_option linter.unusedSectionVars false
set_option linter.unusedVariables false
set_option linter.unusedSimpArgs false
namespace Go.TX.F
open Go Go.AE Go.TX
def afj (n:Int) (t:List Atom):Prop:=(t.length:Int)=n∧All n (fun i=>((t).getD (i).toNat default)=⟨1,i,[],[]⟩)
theorem afk {t:List Atom} (h:afj 4 t):aJ t:=by
  obtain⟨h1,h2⟩:=h
  refine l9.2 ⟨?_,by omega⟩
  rw [h1]
  intro i i1 i2
  have e:=h2 i i1 i2
  dsimp only at e ⊢
  rw [e]
  refine⟨?_,fun j j1 j2=> ?_⟩
  · unfold fO;rw [if_neg (by simp)];exact⟨⟨rfl,rfl⟩,Or.inl ⟨rfl,by dsimp only;omega,by dsimp only;omega⟩⟩
  · have e2:=h2 j j1 (by omega)
    dsimp only at e2 ⊢
    rw [e2];intro h;injection h;omega
theorem aa7 {p2:Int×Unit→Bool} {f2:Int×Unit→List aj×Unit} (hp2:∀n,p2 (n,())=true) (hf2:∀n,f2 (n,())=(fG n,())):GD (std 0) p2 f2 () (fun y=>afj 4 y.1):=by
  dsimp only [GD,Alg.cl,Alg.cg,Alg.rb,Alg.bd,Alg.l1,Tup.q,Tup.o]
  simp (disch:=omega) only [RR,hp2,hf2]
  refine ay (fun(y:Int×List (List aj)×List Atom×Unit)=>0≤y.1∧y.1≤4∧(y.2.1.length:Int)=y.1∧afj y.1 y.2.2.1) (fun y=>(4-y.1).toNat) ⟨by simp,by simp,by simp,by simp,All.zero⟩ ?_
  rintro⟨(i:Int),(q:List (List aj)),(t:List Atom),⟨⟩⟩ hI
  dsimp only at hI ⊢
  obtain⟨h1,h2,h3,h4,h5⟩:=hI
  simp (disch:=omega) only [RR,hp2,hf2,List.length_cons,List.length_nil]
  refine⟨fun h6=>⟨by omega,by omega,⟨by omega,by omega,by rw [List.length_append];simp only [List.length_cons,List.length_nil];omega,by rw [List.length_append];simp only [List.length_cons,List.length_nil];omega,fun j j1 j2=> ?_⟩,by omega⟩,fun h6=> ?_⟩
  · dsimp only
    have hl:((t++ [(⟨1,i,[],[]⟩:Atom)]).length:Int)=t.length+1:=by rw [List.length_append];rfl
    by_cases c:j<i
    · have:=h5 j j1 c
      dsimp only at this
      rw [getD_lt (show j.toNat<t.length by omega)]at this
      rw [getD_lt (show j.toNat< (t++ [(⟨1,i,[],[]⟩:Atom)]).length by omega),List.getElem_append_left (show j.toNat<t.length by omega)];exact this
    · have:j=i:=by omega
      subst this
      rw [getD_lt (show j.toNat< (t++ [(⟨1,j,[],[]⟩:Atom)]).length by omega),List.getElem_append_right (by omega)]
      simp
  · rw [show i=4 by omega]at h4 h5;exact⟨h4,h5⟩
structure aqb (b:List Int) (p n:Int) (y:List Int×Int×List Atom×Unit):Prop where
  b:y.1=b
  lo:p≤y.2.1
  hi:y.2.1≤p+10000
  sh:ShT y.2.2.1
  ne:0<y.2.2.1.length
  le:(y.2.2.1.length:Int)≤n
theorem aa8 {p1:Int×List Int×Int×Unit→Bool} {f1:Int×List Int×Int×Unit→Int×List Int×Int×Unit} (hp1:∀n b p,Bt b→0≤p→p<1000000000→p1 (n,b,p,())=true) (hf1:∀n b p,Bt b→0≤p→p<1000000000→Pk n b p (f1 (n,b,p,())))
    {p2:List Atom×Int×List aj×List aj×Unit→Bool} {f2:List Atom×Int×List aj×List aj×Unit→List Atom×List aj×Unit} (hp2:∀t op x y,ShT t→Sh x→Sh y→p2 (t,op,x,y,())=true) (hf2:∀t op x y,ShT t→Sh x→Sh y→f2 (t,op,x,y,())=((vO t op x y).1,(vO t op x y).2,()))
    {p3:Int×List Int×Int×Unit→Bool} {f3:Int×List Int×Int×Unit→List Int×Int×List aj×Unit} (hp3:∀n b p,Bt b→0≤n→0≤p→p<500000000→p3 (n,b,p,())=true) (hf3:∀n b p,Bt b→0≤n→0≤p→p<500000000→agL n b p (f3 (n,b,p,())))
    {p4:Unit→Bool} {f4:Unit→List Atom×List (List aj)×Unit} (hp4:p4 ()=true) (hf4:afj 4 (f4 ()).1)
    {p5:List Atom×Atom×Unit→Bool} {f5:List Atom×Atom×Unit→Int×List Atom×Unit} (hp5:∀t a,ShT t→ShA a→p5 (t,a,())=true) (hf5:∀t a,ShT t→ShA a→f5 (t,a,())=if bp (aJ t)then((bD t a).2,(bD t a).1,())else(-1,[],()))
    (b:List Int) (p:Int) (hb:Bt b) (h1:0≤p) (h2:p<400000000):Jj (std 0) p1 f1 p2 f2 p3 f3 p4 f4 p5 f5 (b,p,()) (fun y=>aqb b p 12 y):=by
  obtain⟨a1,a2,a3,a4⟩:=hf1 7 b p hb h1 (by omega)
  dsimp only [Jj,Alg.cl,Alg.cg,Alg.rb,Alg.bd,Alg.l1,Tup.q,Tup.o]
  simp (disch:=omega) only [RR,hp4,hp1 7 b p hb h1 (by omega),a1,a2]
  have r4:=hf4.1
  refine ay (fun(y:Int×List Int×Int×List Atom×Unit)=>0≤y.1∧y.1≤6∧y.2.1=b∧p≤y.2.2.1∧y.2.2.1+401*y.1≤p+3000∧aJ y.2.2.2.1∧0<y.2.2.2.1.length∧(y.2.2.2.1.length:Int)+y.1≤10) (fun y=>y.1.toNat)
    ⟨a3,by dsimp only;omega,rfl,by dsimp only;omega,by dsimp only;omega,afk hf4,by dsimp only;omega,by dsimp only;omega⟩ ?_
  rintro⟨(k:Int),(b':List Int),(q:Int),(t:List Atom),⟨⟩⟩ hI
  dsimp only at hI ⊢
  obtain⟨k1,k2,rfl,k3,k4,k5,k6,k7⟩:=hI
  obtain⟨b1,b2,b3,b4⟩:=hf1 5 b' q hb (by omega) (by omega)
  obtain⟨c1,c2,c3,c4,c5⟩:=hf3 t.length b' (q+1) hb (by omega) (by omega) (by omega)
  generalize hr:(f3 (t.length,b',q+1,())).2.1=r at c2 c3
  obtain⟨d1,d2,d3,d4,d5⟩:=hf3 t.length b' r hb (by omega) (by omega) (by omega)
  obtain⟨e1,e2,e3,e4⟩:=hf1 3 b' q hb (by omega) (by omega)
  obtain⟨g1,g2,g3,g4⟩:=hf1 2 b' (q+1) hb (by omega) (by omega)
  obtain⟨i1,i2,i3,i4⟩:=hf1 3 b' (q+1+1) hb (by omega) (by omega)
  have tok:=aa1 (op:=1+(f1 (5,b',q,())).1) k5 (by omega) (by omega) c4 d4 c5 d5
  simp (disch:=omega) only [RR,hp1 5 b' q hb (by omega) (by omega),b1,b2,hp3 t.length b' (q+1) hb (by omega) (by omega) (by omega),c1,hr,hp3 t.length b' r hb (by omega) (by omega) (by omega),d1,hp2 t _ _ _ k5.sh c4.sh d4.sh,hf2 t _ _ _ k5.sh c4.sh d4.sh,
    hp1 3 b' q hb (by omega) (by omega),e1,e2,hp1 2 b' (q+1) hb (by omega) (by omega),g1,g2,hp1 3 b' (q+1+1) hb (by omega) (by omega),i1,i2,hp5 t ⟨_,_,[],[]⟩ k5.sh ⟨jv,jv⟩,hf5 t ⟨_,_,[],[]⟩ k5.sh ⟨jv,jv⟩,eF k5,List.length_cons,List.length_nil]
  refine⟨fun k8=>⟨⟨by omega,by omega,by omega,by omega,tok.1,by omega,by omega⟩,by omega⟩,fun k8=>⟨fun k9=>⟨by omega,by omega,?_⟩,fun k9=>⟨rfl,by dsimp only;omega,by dsimp only;omega,k5.sh,k6,by dsimp only;omega⟩⟩⟩
  have pok:=vk (a:=⟨List.getD [(2:Int),3] (f1 (2,b',q+1,())).1.toNat default,(f1 (3,b',q+1+1,())).1,[],[]⟩) k5 (by omega)
  exact⟨rfl,by dsimp only;omega,by dsimp only;omega,pok.1.sh,by dsimp only;omega,by dsimp only;omega⟩
theorem aa9 {p1:Int×List Int×Int×Unit→Bool} {f1:Int×List Int×Int×Unit→Int×List Int×Int×Unit} (hp1:∀n b p,Bt b→0≤p→p<1000000000→p1 (n,b,p,())=true) (hf1:∀n b p,Bt b→0≤p→p<1000000000→Pk n b p (f1 (n,b,p,())))
    {p2:Int×List Int×Int×Unit→Bool} {f2:Int×List Int×Int×Unit→Bool×List Int×Int×Unit} (hp2:∀n b p,Bt b→0≤p→p<1000000000→p2 (n,b,p,())=true) (hf2:∀n b p,Bt b→0≤p→p<1000000000→(f2 (n,b,p,())).2.1=b∧(f2 (n,b,p,())).2.2.1=p+1)
    {p3:Int×Unit→Bool} {f3:Int×Unit→List aj×Unit} (hp3:∀n,p3 (n,())=true) (hf3:∀n,f3 (n,())=(fG n,()))
    {p4:List Int×Int×Unit→Bool} {f4:List Int×Int×Unit→List Int×Int×List Atom×Unit} (hp4:∀b p,Bt b→0≤p→p<400000000→p4 (b,p,())=true) (hf4:∀b p,Bt b→0≤p→p<400000000→aqb b p 12 (f4 (b,p,())))
    (n:Int) (b:List Int) (p:Int) (hb:Bt b) (h1:0≤p) (h2:p<300000000):Jk (std 0) p1 f1 p2 f2 p3 f3 p4 f4 (n,b,p,()) (fun(y:List Int×Int×List Atom×Unit)=>y.1=b∧p≤y.2.1∧y.2.1≤p+20000∧ShT y.2.2.1∧0<y.2.2.1.length):=by
  obtain⟨a1,a2,a3,a4,a5,a6⟩:=hf4 b p hb h1 (by omega)
  generalize hq:(f4 (b,p,())).2.1=q at a2 a3
  generalize ht:(f4 (b,p,())).2.2.1=t at a4 a5 a6
  obtain⟨b1,b2⟩:=hf2 n b q hb (by omega) (by omega)
  obtain⟨c1,c2,c3,c4⟩:=hf1 4 b (q+1) hb (by omega) (by omega)
  obtain⟨d1,d2,d3,d4⟩:=hf1 3 b (q+1+1) hb (by omega) (by omega)
  have cc:∀a:Atom,ShA a→ShT (t++ [a])∧0< (t++ [a]).length:=fun a ha=>⟨⟨by rw [List.length_append];simp only [List.length_cons,List.length_nil];omega,fun x hx=>by
    rw [List.mem_append,List.mem_singleton]at hx
    rcases hx with hx | rfl
    · exact a4.2 x hx
    · exact ha⟩,by simp⟩
  dsimp only [Jk,Alg.cl,Alg.cg,Alg.rb,Alg.bd,Alg.l1,Tup.q,Tup.o]
  simp (disch:=omega) only [RR,hp4 b p hb h1 (by omega),a1,hq,ht,hp2 n b q hb (by omega) (by omega),b1,b2,hp1 4 b (q+1) hb (by omega) (by omega),c1,c2,hp1 3 b (q+1+1) hb (by omega) (by omega),d1,d2,hp3,hf3,List.length_cons,List.length_nil]
  refine⟨fun _=>⟨fun _=>⟨by omega,by omega,by omega,by omega,by omega,by omega,by omega,cc _ (a4.at _)⟩,fun _=>⟨fun _=>⟨by omega,by omega,by omega,cc _ ⟨aaj 50,jv⟩⟩,fun _=>⟨fun _=>⟨by omega,by omega,by omega,by omega,by omega,by omega,by omega,by omega,?_⟩,fun _=>⟨by omega,by omega,by omega,cc _ ⟨jv,jv⟩⟩⟩⟩⟩,fun _=>⟨by omega,by omega,a4,a5⟩⟩
  refine⟨⟨by rw [List.length_set];omega,fun x hx=> ?_⟩,by rw [List.length_set];omega⟩
  rcases List.mem_or_eq_of_mem_set hx with hx | rfl
  · exact a4.2 x hx
  · exact a4.at (Int.toNat 0)
end Go.TX.F
namespace Go.TX.F
open Go Go.AE Go.TX
theorem V6 {l o:List aj} (h:aN o) (h2:∀k,cf o k=cf l k%65536):rP l=(true,o):=by
  unfold rP;rw [VZ h.nf h2,eF h,if_pos rfl]
theorem TP {x:List aj} (h:aN x):aN (jq x 65535)∧∀k,cf (jq x 65535) k=(65535*cf x k)%65536:=by
  have hc:∀(l:List aj) k,cf (l.map fun m=>(⟨m.bK*65535%65536,m.atoms⟩:aj)) k%65536=(65535*cf l k)%65536:=fun l k=>by
    induction l with
    | nil=>rfl
    | cons m l ih=>rw [List.map_cons,dz,dz];dsimp only;split<;>omega
  have no:Nf (x.map fun m=>(⟨m.bK*65535%65536,m.atoms⟩:aj)):=⟨by
    rw [List.pairwise_map];exact h.nf.ss,fun m hm=>by
    rw [List.mem_map]at hm
    obtain⟨n,hn,rfl⟩:=hm
    have:=h.nf.co n hn
    dsimp only;omega⟩
  have ok:aN (x.map fun m=>(⟨m.bK*65535%65536,m.atoms⟩:aj)):=gY.2 ⟨no,by rw [List.length_map];exact h.len,fun m hm=>by
    rw [List.mem_map]at hm
    obtain⟨n,hn,rfl⟩:=hm
    exact show n.atoms.length≤4∧aok n.atoms from h.aok hn⟩
  have pe:prods x (dI 65535)=x.map fun m=>(⟨m.bK*65535%65536,m.atoms⟩:aj):=by
    unfold dI;rw [if_pos (by omega),Dr]
    exact List.map_congr_left fun m hm=>Jt 65535 (h.aok hm).2
  have e:jq x 65535=x.map fun m=>(⟨m.bK*65535%65536,m.atoms⟩:aj):=by
    unfold jq l7
    rw [if_pos (by rw [eF h];rfl),if_pos (by rw [eF h,eF (kC _)];rfl),pe,V6 ok (fun k=>by have:=no.bnd k;omega)]
  rw [e]
  exact⟨ok,fun k=>by rw [←hc];have:=no.bnd k;omega⟩
theorem sub_self {x:List aj} (h:aN x):jr 2 x x=([],true):=by
  obtain⟨h1,h2⟩:=TP h
  unfold jr mY
  rw [if_neg (by omega),if_pos rfl,if_pos (by rw [eF h,eF h1];rfl),V6 eH (fun k=>by rw [dF,h2,lI];omega)]
theorem Jv {x:List aj} (h:(dP x).2=true):aN x∧x=dI (dP x).1∧0≤(dP x).1∧(dP x).1≤65535:=by
  unfold dP at h ⊢
  by_cases c:aN x
  · rw [eF c,if_pos rfl]at h ⊢
    refine⟨c,?_⟩
    by_cases c1:x.length=0
    · rw [if_pos c1];exact⟨by rw [List.eq_nil_of_length_eq_zero c1];rfl,by omega,by omega⟩
    · rw [if_neg c1]at h ⊢
      by_cases c2:x.length=1∧(x.getD 0 default).atoms.length=0
      · rw [if_pos c2]
        match x,c,c2 with
        | [m],c,c2=>
          have hc:=c.nf.co m (by simp)
          have ha:m.atoms=[]:=List.eq_nil_of_length_eq_zero c2.2
          refine⟨?_,by show 0≤m.bK;omega,by show m.bK≤65535;omega⟩
          show [m]=dI m.bK
          unfold dI;rw [if_pos hc,←ha]
      · rw [if_neg c2]at h;exact absurd h (by simp)
  · rw [fK c]at h;exact absurd h (by simp)
end Go.TX.F
namespace Go.TX.F
open Go Go.AE Go.TX
end Go.TX.F
namespace Go.TX.F
open Go Go.AE Go.TX
theorem V7 {d:List Int} {i j x:Int} (h1:0≤i) (h2:i<d.length) (h3:0≤j):((d.set i.toNat x).getD (j).toNat default)=if j=i then x else((d).getD (j).toNat default):=by
  simp only [List.getD]
  by_cases h:j=i
  · subst h;rw [if_pos rfl,List.getElem?_set_self (by omega)];rfl
  · rw [if_neg h,List.getElem?_set_ne (by omega)]
theorem X6 {d:List Int} {i j:Int} (h1:0≤i) (h2:i<d.length) (h3:0≤j) (h4:j<d.length) (h5:i≠j):((d.set i.toNat ((d).getD (j).toNat default)).set j.toNat ((d).getD (i).toNat default)).Perm d:=by
  rw [List.perm_iff_count]
  intro x
  rw [getD_lt (show i.toNat<d.length by omega),getD_lt (show j.toNat<d.length by omega),List.count_set (by simp;omega),List.count_set (by omega),List.getElem_set_ne (by omega)]
  have h6:(if d[i.toNat]==x then 1 else 0)≤List.count x d:=by
    split
    · rename_i h;exact List.count_pos_iff.2 (by rw [←eq_of_beq h];exact List.getElem_mem _)
    · omega
  split<;>split<;>simp_all<;>omega
theorem abb {p:Int×Int×Unit→Bool} {f:Int×Int×Unit→Bool×Unit} (hp:∀a b,p (a,b,())=true) (hf:∀a b,f (a,b,())=(decide (a<b),()))
    (a b:Int) (d:List Int) (hd:d.length<1000000000) (h1:a=0) (h2:b=d.length):
    Jd (std 0) p f (a,b,d,()) (fun y=>y.1=mP d):=by
  subst h1
  dsimp only [Jd,Alg.cl,Alg.cg,Alg.rb,Alg.bd,Alg.l1,Tup.q,Tup.o]
  simp (disch:=omega) only [RR]
  have fin:∀e:List Int,e.Perm d→(∀q:Int,1≤q→q<e.length→((e).getD (q-1).toNat default)≤((e).getD (q).toNat default))→e=mP d:=fun e g1 g2=>
    zw ((dH (d:=default) (R:=fun a b:Int=>a≤b) (fun h1 h2=>Int.le_trans h1 h2)).2 g2) g1
  refine ay (fun(y:Int×Int×Int×List Int×Unit)=>y.1=0∧y.2.1=b∧1≤y.2.2.1∧(y.2.2.1≤b∨y.2.2.1=1)∧y.2.2.2.1.Perm d∧∀q,1≤q→q<y.2.2.1→((y.2.2.2.1).getD (q-1).toNat default)≤((y.2.2.2.1).getD (q).toNat default)) (fun y=>(b-y.2.2.1).toNat)
    ⟨rfl,rfl,by simp,Or.inr rfl,List.Perm.refl d,fun q g1 g2=>by dsimp only at g2;omega⟩ ?_
  rintro⟨(a':Int),(b':Int),(i:Int),(e:List Int),⟨⟩⟩ hI
  dsimp only at hI ⊢
  obtain⟨rfl,rfl,h4,h5,h6,h7⟩:=hI
  have hle:=h6.length_eq
  simp (disch:=omega) only [RR]
  refine⟨fun h9=> ?_,fun h9=>fin e h6 fun q g1 g2=>h7 q g1 (by omega)⟩
  refine ay (fun(y:Int×Int×Int×Int×List Int×Unit)=>y.1=0∧y.2.1=b'∧y.2.2.1=i∧0≤y.2.2.2.1∧y.2.2.2.1≤i∧y.2.2.2.2.1.Perm d
      ∧(∀q,1≤q→q≤i→q≠y.2.2.2.1→((y.2.2.2.2.1).getD (q-1).toNat default)≤((y.2.2.2.2.1).getD (q).toNat default))∧(1≤y.2.2.2.1→y.2.2.2.1+1≤i→((y.2.2.2.2.1).getD (y.2.2.2.1-1).toNat default)≤((y.2.2.2.2.1).getD (y.2.2.2.1+1).toNat default))) (fun y=>y.2.2.2.1.toNat)
    ⟨rfl,rfl,rfl,by simp;omega,by simp,h6,fun q g1 g2 g3=>h7 q g1 (by dsimp only at g3;omega),fun g1 g2=>by dsimp only at g2;omega⟩ ?_
  rintro⟨(a'':Int),(b'':Int),(i':Int),(j:Int),(e':List Int),⟨⟩⟩ hI
  dsimp only at hI ⊢
  obtain⟨rfl,rfl,rfl,h10,h11,h12,h13,h14⟩:=hI
  have hle':=h12.length_eq
  simp (disch:=omega) only [RR,List.length_set,hp,hf]
  repeat' (refine And.intro ?_ ?_)
  all_goals try omega
  · intro ⟨g1,g2⟩
    have at2:∀k,0≤k→(((e'.set j.toNat ((e').getD (j-1).toNat default)).set (j-1).toNat ((e').getD (j).toNat default)).getD (k).toNat default)=if k=j-1 then((e').getD (j).toNat default)else if k=j then((e').getD (j-1).toNat default)else((e').getD (k).toNat default):=fun k hk=>by
      rw [V7 (by omega) (by simp;omega) hk,V7 (by omega) (by omega) hk]
    repeat' (refine And.intro ?_ ?_)
    all_goals try omega
    · exact(X6 (by omega) (by omega) (by omega) (by omega) (by omega)).trans h12
    · intro q k1 k2 k3
      rw [at2 _ (by omega),at2 _ (by omega)]
      by_cases c1:q=j
      · subst c1;rw [if_pos rfl,if_neg (by omega),if_pos rfl];omega
      · rw [if_neg (by omega)]
        by_cases c2:q=j+1
        · subst c2
          rw [if_pos (by omega),if_neg (by omega),if_neg (by omega)]
          exact h14 (by omega) (by omega)
        · rw [if_neg (by omega),if_neg (by omega),if_neg (by omega)]
          exact h13 q k1 k2 c1
    · intro k1 k2
      rw [at2 _ (by omega),at2 _ (by omega),if_neg (by omega),if_neg (by omega),if_neg (by omega),if_pos (by omega)]
      have:=h13 (j-1) (by omega) (by omega) (by omega)
      exact this
  · intro g
    refine⟨⟨by omega,by omega,h12,fun q k1 k2=> ?_⟩,by omega⟩
    by_cases c:q=j
    · subst c
      rw [Bool.and_eq_false_iff,decide_eq_false_iff_not,decide_eq_false_iff_not]at g
      omega
    · exact h13 q k1 (by omega) c
theorem abd {p:Int×Int×Unit→Bool} {f:Int×Int×Unit→Bool×Unit}
    {p1:Int×Int×List Int×Unit→Bool} {f1:Int×Int×List Int×Unit→List Int×Unit} (hp1:∀(a b:Int) (d:List Int),d.length<1000000000→a=0→b=d.length→p1 (a,b,d,())=true) (hf1:∀(a b:Int) (d:List Int),d.length<1000000000→a=0→b=d.length→(f1 (a,b,d,())).1=mP d)
    (p2 p3 f2 f3 p4 f4 p5 f5 p6 f6 p7 f7 p8 f8 p9 f9) (a b k:Int) (d:List Int) (hd:d.length≤12) (h1:a=0) (h2:b=d.length):
    Je (std 0) p f p1 f1 p2 f2 p3 f3 p4 f4 p5 f5 p6 f6 p7 f7 p8 f8 p9 f9 (a,b,k,d,()) (fun y=>y.1=mP d):=by
  subst h1
  dsimp only [Je,Alg.cl,Alg.cg,Alg.rb,Alg.bd,Alg.l1,Tup.q,Tup.o]
  simp (disch:=omega) only [RR]
  refine ay (fun(y:Int×Int×Int×Bool×Bool×List Int×Unit)=>y.1=0∧y.2.1=b∧y.2.2.2.2.2.1=d) (fun y=>0) ⟨rfl,rfl,rfl⟩ ?_
  rintro⟨(a':Int),(b':Int),(k':Int),(u:Bool),(v:Bool),(e:List Int),⟨⟩⟩ hI
  dsimp only at hI ⊢
  obtain⟨rfl,rfl,rfl⟩:=hI
  simp (disch:=omega) only [RR]
  exact⟨fun _=>⟨hp1 0 b' e (by omega) rfl h2,hf1 0 b' e (by omega) rfl h2⟩,fun h=>absurd h (by omega)⟩
theorem abe {p1:Int×Int×Int×List Int×Unit→Bool} {f1:Int×Int×Int×List Int×Unit→List Int×Unit} (hp1:∀(a b k:Int) (d:List Int),d.length≤12→a=0→b=d.length→p1 (a,b,k,d,())=true) (hf1:∀(a b k:Int) (d:List Int),d.length≤12→a=0→b=d.length→(f1 (a,b,k,d,())).1=mP d)
    {p2:Int×Unit→Bool} {f2:Int×Unit→Int×Unit} (hp2:∀n,0≤n→n≤18446744073709551615→p2 (n,())=true) (a:List Int) (ha:a.length≤8):
    Jf (std 0) p1 f1 p2 f2 (a,()) (fun y=>y=(mP a,())):=by
  dsimp only [Jf,Alg.cl,Alg.cg,Alg.rb,Alg.bd,Alg.l1,Tup.q,Tup.o]
  have e:IntKind.u64.wrap (a.length:Int)=(a.length:Int):=IntWalk.u64_in _ (by omega)
  refine⟨?_,hp1 _ _ _ _ (by omega) rfl rfl,by rw [hf1 _ _ _ _ (by omega) rfl rfl]⟩
  rw [e];exact hp2 _ (by omega) (by omega)
end Go.TX.F
namespace Go.TX.F
open Go Go.AE Go.TX
def wOK (l:List Int):Prop:=∀z∈l,0≤z∧z≤65535
theorem wOK.at {l:List Int} (h:wOK l) (n:Nat):0≤l.getD n default∧l.getD n default≤65535:=by
  by_cases hn:n<l.length
  · rw [getD_lt hn];exact h _ (List.getElem_mem _)
  · rw [List.getD,List.getElem?_eq_none (by omega)];decide
theorem wOK.snoc {l:List Int} (h:wOK l) {x:Int} (hx:0≤x∧x≤65535):wOK (l++ [x]):=fun z hz=>by
  rw [List.mem_append,List.mem_singleton]at hz
  rcases hz with hz | rfl
  · exact h z hz
  · exact hx
end Go.TX.F
namespace Go.TX.F
open Go Go.AE Go.TX
def ins (c:Int) (at_:List Int):List aj→List aj
  | []=>if c%65536=0 then []else [⟨c%65536,at_⟩]
  | m::o=>if dN at_ m.atoms<0 then(if c%65536=0 then m::o else⟨c%65536,at_⟩::m::o)
    else if at_=m.atoms then(if(c+m.bK)%65536=0 then o else⟨(c+m.bK)%65536,at_⟩::o)else m::ins c at_ o
theorem abf {op:Int} (hop:1≤op∧op≤5) {x y:List aj} (hx:aN x) (hy:aN y):aN (jr op x y).1:=by
  unfold jr
  split
  · exact MN _ _
  · split
    · exact MN _ _
    · split
      · exact V4 _ _
      · unfold Jq
        repeat' split
        all_goals first | exact kC _ | exact eH | assumption
end Go.TX.F
namespace Go.TX.F
open Go Go.AE Go.TX
end Go.TX.F
namespace Go.TX.F
open Go Go.AE Go.TX
@[reducible] def hX (o : IOp) : Prop := o.kind ≠ 1 ∧ o.kind ≠ 2 ∧ o.kind ≠ 6
@[reducible] def hY (o : IOp) : Prop := o.kind = 3 ∨ o.kind = 5
@[reducible] def mkV (o : IOp) : Prop := (1 ≤ o.kind ∧ o.kind ≤ 4) ∨ o.kind = 6
@[reducible] def evO (o : IOp) : Prop := 4 ≤ o.kind ∧ o.kind ≤ 7
def Vl (ops:List IOp) (x n:Int):Prop:=0≤x∧x<n∧mkV ((ops).getD (x).toNat default)
structure MO (ops:List IOp) (len i:Int) (o:IOp):Prop where
  kd:1≤o.kind∧o.kind≤8
  x1:hX o→Vl ops o.x i
  x0:¬hX o→o.x=0
  y1:hY o→Vl ops o.y i
  y0:¬hY o→o.y=0
  k1:o.kind=1→0≤o.k∧o.k≤65535
  k2:o.kind=2∨o.kind=8→0≤o.k∧o.k≤3
  k3:o.kind=3→1≤o.k∧o.k≤5
  k0:4≤o.kind→o.kind≤7→o.k=0
  a1:evO o→0≤o.at_∧o.at_<len
  a0:¬evO o→o.at_=0
structure AQ (b:Blk):Prop where
  f:1≤b.fin∧b.fin≤4
  x1:b.fin≠1→Vl b.ops b.x b.ops.length
  x0:b.fin=1→b.x=0
  y1:3≤b.fin→Vl b.ops b.y b.ops.length
  y0:b.fin≤2→b.y=0
  k1:b.fin≠2→0≤b.k∧b.k≤65535
  k0:b.fin=2→b.k=0
structure jw (b:Blk):Prop where
  ln:1≤b.len∧b.len≤8
  pc:0≤b.pc∧b.pc≤64-b.len
  sz:b.ops.length≤48
  op:∀i:Int,0≤i→i<b.ops.length→MO b.ops b.len i ((b.ops).getD (i).toNat default)
  en:AQ b
structure SS where
  t:List Atom
  regs:List (List aj)
  vals:List (List aj)
  ld:Int
  inn:Int
  evs:List Ev
def xOf (s:SS) (o:IOp):List aj:=if hX o then((s.vals).getD (o.x).toNat default)else []
def yOf (s:SS) (o:IOp):List aj:=if hY o then((s.vals).getD (o.y).toNat default)else []
def aOf (s:SS) (o:IOp):Atom:=if o.kind=4 then⟨2,s.ld,[],[]⟩else⟨3,s.inn,[],[]⟩
noncomputable def nT (s:SS) (o:IOp):List Atom:=if o.kind=3 then(tDo s.t o.k (xOf s o) (yOf s o)).1 else if o.kind=4∨o.kind=6 then(bD s.t (aOf s o)).1 else s.t
noncomputable def nV (s:SS) (o:IOp):List aj:=if o.kind=1 then dI o.k else if o.kind=2 then((s.regs).getD (o.k).toNat default)else if o.kind=3 then(tDo s.t o.k (xOf s o) (yOf s o)).2 else if o.kind=4∨o.kind=6 then fG (bD s.t (aOf s o)).2 else []
def nR (s:SS) (o:IOp):List (List aj):=if o.kind=8 then s.regs.set o.k.toNat (xOf s o)else s.regs
def nE (s:SS) (o:IOp):List Ev:=if evO o then s.evs++ [⟨o.kind,o.at_,xOf s o,yOf s o,if o.kind=4∨o.kind=5 then s.regs else []⟩]else s.evs
noncomputable def stp (s:SS) (o:IOp):SS:=⟨nT s o,nR s o,s.vals++ [nV s o],if o.kind=4 then s.ld+1 else s.ld,if o.kind=6 then s.inn+1 else s.inn,nE s o⟩
noncomputable def rN (t:List Atom):Nat→List Atom×List (List aj)
  | 0=>(t,[])
  | n+1=>((bD (rN t n).1 ⟨1,n,[],[]⟩).1,(rN t n).2++ [fG (bD (rN t n).1 ⟨1,n,[],[]⟩).2])
noncomputable def s0 (t:List Atom):SS:=⟨(rN t 4).1,(rN t 4).2,[],0,0,[]⟩
noncomputable def mg (t:List Atom) (b:Blk):SS:=b.ops.foldl stp (s0 t)
def JF (b:Blk) (s:SS):Sym:=⟨s.evs,s.regs,b.fin,if b.fin=1 then []else((s.vals).getD (b.x).toNat default),if 3≤b.fin then((s.vals).getD (b.y).toNat default)else [],b.k⟩
def aqc:Sym:=⟨[],[],0,[],[],0⟩
noncomputable def symEnd (s:Sym) (behind:Int):Sym:=
  if bp (aN s.x∧aN s.y)=false then aqc
  else if s.fin=2∧(dP s.x).2=true then⟨s.events,s.regs,1,[],[],(dP s.x).1⟩
  else if s.fin≠3∧s.fin≠4 then s
  else if s.x=s.y∨(dP s.x).2=true∧(dP s.y).2=true then
    ⟨s.events,s.regs,1,[],[],if s.x=s.y∧s.fin=3∨((dP s.x).2=true∧(dP s.y).2=true)∧(s.fin=3∧(dP s.x).1=(dP s.y).1∨s.fin=4∧(dP s.x).1< (dP s.y).1)then s.k else behind⟩
  else if s.fin=3∧0<gX s.x s.y then⟨s.events,s.regs,s.fin,s.y,s.x,s.k⟩else s
noncomputable def cB (t:List Atom) (b:Blk):List Atom×Sym:=if bp (aJ t∧t.length≤100∧jw b)=true then((mg t b).t,symEnd (JF b (mg t b)) (b.pc+b.len))else([],aqc)
theorem wQ (t:List Atom) (a:Atom):t<+:(bD t a).1:=by
  unfold bD
  split
  · exact List.prefix_refl _
  · split
    · exact List.prefix_refl _
    · exact List.prefix_append _ _
theorem AU {α:Type} {a b:List α} (h:a<+:b):a.length≤b.length:=h.length_le
theorem amu {α:Type} {d:α} {a b:List α} (h:a<+:b) {i:Int} (h1:i.toNat<a.length):b.getD i.toNat d=a.getD i.toNat d:=by
  obtain⟨c,rfl⟩:=h
  rw [getD_lt h1,getD_lt (by rw [List.length_append];omega),List.getElem_append_left h1]
theorem xI {t:List Atom} {a:Atom} (h:0≤(bD t a).2):(bD t a).2< (bD t a).1.length∧(((bD t a).1).getD ((bD t a).2).toNat default)=a:=by
  have hsp:=l8 t a
  revert h
  unfold bD
  split
  · intro h
    rcases hsp with⟨h1,_⟩ | ⟨_,h2,h3,_⟩
    · exact absurd h (by dsimp only;omega)
    · exact⟨h2,h3.symm⟩
  · split
    · intro h;exact absurd h (by dsimp only;omega)
    · intro _
      dsimp only
      refine⟨by rw [List.length_append];simp only [List.length_cons,List.length_nil];omega,?_⟩
      rw [getD_lt (by rw [List.length_append];simp only [List.length_cons,List.length_nil];omega)]
      simp
theorem TQ {u:List Atom} {a:Atom} (hu:aJ u) {k:Int} (h0:0≤k) (h1:k<u.length) (h2:((u).getD (k).toNat default)=a):bD u a=(u,k):=by
  have hf:sV u a=k:=by
    refine(l8 u a).uniq (Or.inr ⟨h0,h1,h2.symm,fun j j1 j2=> ?_⟩)
    have:=(l9.1 hu).1 k h0 h1
    have g:=this.2 j j1 j2
    dsimp only at g ⊢
    rw [h2]at g;exact g
  unfold bD
  rw [hf,if_pos h0]
theorem AV {t u:List Atom} {a:Atom} (hu:aJ u) (h:0≤(bD t a).2) (hp:(bD t a).1<+:u):bD u a=(u,(bD t a).2):=by
  obtain⟨g1,g2⟩:=xI h
  have:=AU hp
  exact TQ hu h (by omega) (by rw [amu hp (by omega),g2])
theorem Rf {op n:Int} {x y:List aj} (ux:aR x n) (uy:aR y n):aR (jr op x y).1 n:=by
  unfold jr
  split
  · exact zy ux uy
  · split
    · refine zy ux ?_
      unfold jq
      split
      · exact zB uy (mQ _ _)
      · exact jD _
    · split
      · exact zB ux uy
      · unfold Jq
        repeat' split
        all_goals first | exact ux | exact uy | exact jD _ | exact mQ _ _
structure amv (t:List Atom) (op:Int) (x y:List aj):Prop where
  tok:aJ (tDo t op x y).1
  pre:t<+:(tDo t op x y).1
  len:(tDo t op x y).1.length≤t.length+1
  pok:aN (tDo t op x y).2
  und:aR (tDo t op x y).2 (tDo t op x y).1.length
  ok:tOk t op x y=true
theorem afl {t:List Atom} {op:Int} {x y:List aj} (h:aJ t) (h2:t.length<200) (h3:1≤op∧op≤5) (hx:aN x) (hy:aN y) (ux:aR x t.length) (uy:aR y t.length):amv t op x y:=by
  by_cases c:(jr op x y).2=true
  · have e:tDo t op x y=(t,(jr op x y).1):=by unfold tDo;rw [if_pos c]
    refine⟨?_,?_,?_,?_,?_,by unfold tOk;rw [c];rfl⟩<;>rw [e]
    · exact h
    · exact List.prefix_refl _
    · exact Nat.le_succ _
    · exact abf h3 hx hy
    · exact Rf ux uy
  · have key:∀x' y',aN x'→aN y'→aR x' t.length→aR y' t.length→0≤(bD t ⟨4,op,x',y'⟩).2∧aJ (bD t ⟨4,op,x',y'⟩).1∧(bD t ⟨4,op,x',y'⟩).1.length≤t.length+1:=fun x' y' a1 a2 a3 a4=>by
      have p1:=vk (a:=⟨4,op,x',y'⟩) h h2
      have q1:=p1.2.2.2 (by unfold fO;rw [if_pos rfl];exact⟨h3,a1,a2,a3,a4⟩)
      exact⟨q1,p1.1,p1.2.2.1⟩
    by_cases c2:op≠2∧0<gX x y
    · obtain⟨k1,k2,k3⟩:=key y x hy hx uy ux
      have e:tDo t op x y=((bD t ⟨4,op,y,x⟩).1,fG (bD t ⟨4,op,y,x⟩).2):=by unfold tDo;rw [if_neg c,if_pos c2,if_neg (by omega)]
      refine⟨?_,?_,?_,?_,?_,by unfold tOk;rw [if_pos c2,decide_eq_false (by omega),Bool.not_false,Bool.or_true]⟩<;>rw [e]
      · exact k2
      · exact wQ _ _
      · exact k3
      · exact oh _
      · exact om (xI k1).1
    · obtain⟨k1,k2,k3⟩:=key x y hx hy ux uy
      have e:tDo t op x y=((bD t ⟨4,op,x,y⟩).1,fG (bD t ⟨4,op,x,y⟩).2):=by unfold tDo;rw [if_neg c,if_neg c2,if_neg (by omega)]
      refine⟨?_,?_,?_,?_,?_,by unfold tOk;rw [if_neg c2,decide_eq_false (by omega),Bool.not_false,Bool.or_true]⟩<;>rw [e]
      · exact k2
      · exact wQ _ _
      · exact k3
      · exact oh _
      · exact om (xI k1).1
theorem abg {t u:List Atom} {op:Int} {x y:List aj} (hu:aJ u) (h:tOk t op x y=true) (hp:(tDo t op x y).1<+:u):tDo u op x y=(u,(tDo t op x y).2):=by
  by_cases c:(jr op x y).2=true
  · unfold tDo;rw [if_pos c,if_pos c]
  · by_cases c2:op≠2∧0<gX x y
    · have k1:0≤(bD t ⟨4,op,y,x⟩).2:=by
        unfold tOk at h;rw [if_pos c2,Bool.or_eq_true,Bool.not_eq_true',decide_eq_false_iff_not]at h;have:=h.resolve_left c;omega
      have e:tDo t op x y=((bD t ⟨4,op,y,x⟩).1,fG (bD t ⟨4,op,y,x⟩).2):=by unfold tDo;rw [if_neg c,if_pos c2,if_neg (by omega)]
      rw [e]at hp ⊢
      have:=AV hu k1 hp
      unfold tDo;rw [if_neg c,if_pos c2,this,if_neg (by dsimp only;omega)]
    · have k1:0≤(bD t ⟨4,op,x,y⟩).2:=by
        unfold tOk at h;rw [if_neg c2,Bool.or_eq_true,Bool.not_eq_true',decide_eq_false_iff_not]at h;have:=h.resolve_left c;omega
      have e:tDo t op x y=((bD t ⟨4,op,x,y⟩).1,fG (bD t ⟨4,op,x,y⟩).2):=by unfold tDo;rw [if_neg c,if_neg c2,if_neg (by omega)]
      rw [e]at hp ⊢
      have:=AV hu k1 hp
      unfold tDo;rw [if_neg c,if_neg c2,this,if_neg (by dsimp only;omega)]
end Go.TX.F
namespace Go.TX.F
open Go Go.AE Go.TX
structure SI (n:Int) (i:Nat) (s:SS):Prop where
  tok:aJ s.t
  tl:(s.t.length:Int)≤n+i
  r4:s.regs.length=4
  rok:∀p∈s.regs,aN p∧aR p s.t.length
  vl:s.vals.length=i
  vok:∀p∈s.vals,aN p∧aR p s.t.length
  ld:0≤s.ld∧s.ld≤i
  inn:0≤s.inn∧s.inn≤i
theorem Jw {l:List (List aj)} {n:Int} (h:∀p∈l,aN p∧aR p n) (i:Int):aN ((l).getD (i).toNat default)∧aR ((l).getD (i).toNat default) n:=by
  by_cases c:i.toNat<l.length
  · rw [getD_lt c];exact h _ (List.getElem_mem _)
  · rw [List.getD_eq_getElem?_getD,List.getElem?_eq_none (by omega)];exact⟨eH,jD _⟩
theorem SI.x {n:Int} {i:Nat} {s:SS} (h:SI n i s) (o:IOp):aN (xOf s o)∧aR (xOf s o) s.t.length:=by
  unfold xOf;split
  · exact Jw h.vok _
  · exact⟨eH,jD _⟩
theorem SI.y {n:Int} {i:Nat} {s:SS} (h:SI n i s) (o:IOp):aN (yOf s o)∧aR (yOf s o) s.t.length:=by
  unfold yOf;split
  · exact Jw h.vok _
  · exact⟨eH,jD _⟩
theorem afm {n:Int} {i:Nat} {s:SS} (h:SI n i s) (hi:i<200) (o:IOp) (m:Int):fO (aOf s o) m:=by
  have h1:=h.ld
  have h2:=h.inn
  unfold aOf
  split
  · unfold fO;rw [if_neg (by simp)];exact⟨⟨rfl,rfl⟩,Or.inr ⟨Or.inl rfl,by dsimp only;omega,by dsimp only;omega⟩⟩
  · unfold fO;rw [if_neg (by simp)];exact⟨⟨rfl,rfl⟩,Or.inr ⟨Or.inr rfl,by dsimp only;omega,by dsimp only;omega⟩⟩
structure SOK (s:SS) (o:IOp):Prop where
  pre:s.t<+:(stp s o).t
  d:o.kind=3→amv s.t o.k (xOf s o) (yOf s o)
  p:o.kind=4∨o.kind=6→0≤(bD s.t (aOf s o)).2
theorem MQ {n:Int} {i:Nat} {s:SS} {o:IOp} (h:SI n i s) (hk:o.kind=3→1≤o.k∧o.k≤5) (hn:n+i<200) (hi:i<200):SI n (i+1) (stp s o)∧SOK s o:=by
  have hl:=h.tl
  have tl:s.t.length<200:=by omega
  have hd:o.kind=3→amv s.t o.k (xOf s o) (yOf s o):=fun e=>afl h.tok tl (hk e) (h.x o).1 (h.y o).1 (h.x o).2 (h.y o).2
  have hput:=vk (a:=aOf s o) h.tok tl
  have hp:=hput.2.2.2 (afm h hi o _)
  have T:aJ (nT s o)∧(nT s o).length≤s.t.length+1∧s.t<+:nT s o:=by
    unfold nT
    split
    · rename_i e;have:=hd e;exact⟨this.tok,this.len,this.pre⟩
    · split
      · exact⟨hput.1,hput.2.2.1,wQ _ _⟩
      · exact⟨h.tok,Nat.le_succ _,List.prefix_refl _⟩
  have up:∀ {p:List aj},aN p∧aR p s.t.length→aN p∧aR p (nT s o).length:=fun hp=>⟨hp.1,xH hp.2 (by have:=AU T.2.2;omega)⟩
  have V:aN (nV s o)∧aR (nV s o) (nT s o).length:=by
    unfold nV
    split
    · exact⟨kC _,mQ _ _⟩
    · split
      · exact up (Jw h.rok _)
      · split
        · rename_i e
          have:=hd e
          refine⟨this.pok,?_⟩
          have e2:nT s o=(tDo s.t o.k (xOf s o) (yOf s o)).1:=by unfold nT;rw [if_pos e]
          rw [e2];exact this.und
        · split
          · rename_i e1 e2
            have e3:nT s o=(bD s.t (aOf s o)).1:=by unfold nT;rw [if_neg (by omega),if_pos e2]
            rw [e3]
            exact⟨oh _,om (xI hp).1⟩
          · exact⟨eH,jD _⟩
  have g1:=h.ld
  have g2:=h.inn
  refine⟨⟨T.1,?_,?_,?_,?_,?_,?_,?_⟩,⟨T.2.2,hd,fun _=>hp⟩⟩
  · have:=T.2.1;show((nT s o).length:Int)≤_;omega
  · show(nR s o).length=4
    unfold nR;split
    · rw [List.length_set];exact h.r4
    · exact h.r4
  · show∀p∈nR s o,_
    intro p hp
    unfold nR at hp;split at hp
    · rcases List.mem_or_eq_of_mem_set hp with hp | rfl
      · exact up (h.rok p hp)
      · exact up (h.x o)
    · exact up (h.rok p hp)
  · show(s.vals++ [nV s o]).length=i+1
    rw [List.length_append,h.vl];rfl
  · show∀p∈s.vals++ [nV s o],_
    intro p hp
    rw [List.mem_append,List.mem_singleton]at hp
    rcases hp with hp | rfl
    · exact up (h.vok p hp)
    · exact V
  · show 0≤(if o.kind=4 then s.ld+1 else s.ld)∧(if o.kind=4 then s.ld+1 else s.ld)≤_
    split<;>omega
  · show 0≤(if o.kind=6 then s.inn+1 else s.inn)∧(if o.kind=6 then s.inn+1 else s.inn)≤_
    split<;>omega
theorem Dt {n:Int}:∀(ops:List IOp) (i:Nat) (s:SS),SI n i s→(∀o∈ops,o.kind=3→1≤o.k∧o.k≤5)→n+i+ops.length≤200→i+ops.length≤200→SI n (i+ops.length) (ops.foldl stp s)∧s.t<+:(ops.foldl stp s).t
  | [],i,s,h,_,_,_=>⟨h,List.prefix_refl _⟩
  | o::r,i,s,h,hk,h1,h2=>by
    rw [List.length_cons]at h1 h2
    obtain⟨a1,a2⟩:=MQ h (hk o List.mem_cons_self) (by omega) (by omega)
    obtain⟨b1,b2⟩:=Dt r (i+1) (stp s o) a1 (fun o ho=>hk o (List.mem_cons_of_mem _ ho)) (by omega) (by omega)
    rw [List.foldl_cons,List.length_cons,show i+(r.length+1)=i+1+r.length by omega]
    exact⟨b1,a2.pre.trans b2⟩
structure RI (t:List Atom) (n:Nat) (r:List Atom×List (List aj)):Prop where
  tok:aJ r.1
  tl:r.1.length≤t.length+n
  pre:t<+:r.1
  r4:r.2.length=n
  rok:∀p∈r.2,aN p∧aR p r.1.length
theorem KZ {t:List Atom} (h:aJ t) (hl:t.length≤196):∀n:Nat,n≤4→RI t n (rN t n)
  | 0,_=>⟨h,Nat.le_refl _,List.prefix_refl _,rfl,fun p hp=>absurd hp (by simp [rN])⟩
  | n+1,hn=>by
    have ih:=KZ h hl n (by omega)
    have l:=ih.tl
    have hp:=vk (a:=⟨1,n,[],[]⟩) ih.tok (by omega)
    have h0:=hp.2.2.2 (by unfold fO;rw [if_neg (by simp)];exact⟨⟨rfl,rfl⟩,Or.inl ⟨rfl,by dsimp only;omega,by dsimp only;omega⟩⟩)
    have pr:=wQ (rN t n).1 ⟨1,n,[],[]⟩
    unfold rN
    refine⟨hp.1,?_,ih.pre.trans pr,?_,fun p h=> ?_⟩
    · have:=hp.2.2.1;dsimp only;omega
    · dsimp only;rw [List.length_append,ih.r4];rfl
    · dsimp only at h ⊢
      rw [List.mem_append,List.mem_singleton]at h
      rcases h with h | rfl
      · have:=ih.rok p h;exact⟨this.1,xH this.2 (by have:=AU pr;omega)⟩
      · exact⟨oh _,om (xI h0).1⟩
theorem MR {t:List Atom} (h:aJ t) (hl:t.length≤196) {n:Nat} (hn:n<4):0≤(bD (rN t n).1 ⟨1,n,[],[]⟩).2:=by
  have ih:=KZ h hl n (by omega)
  have l:=ih.tl
  exact(vk (a:=⟨1,n,[],[]⟩) ih.tok (by omega)).2.2.2 (by unfold fO;rw [if_neg (by simp)];exact⟨⟨rfl,rfl⟩,Or.inl ⟨rfl,by dsimp only;omega,by dsimp only;omega⟩⟩)
theorem Rh {t:List Atom} (h:aJ t) (hl:t.length≤196):SI (t.length+4) 0 (s0 t):=by
  have:=KZ h hl 4 (by omega)
  have l:=this.tl
  exact⟨this.tok,by show((rN t 4).1.length:Int)≤_;omega,this.r4,this.rok,rfl,fun p hp=>absurd hp (by simp [s0]),by simp [s0],by simp [s0]⟩
theorem jw.k3 {b:Blk} (h:jw b):∀o∈b.ops,o.kind=3→1≤o.k∧o.k≤5:=fun o ho=>by
  obtain⟨i,hi,rfl⟩:=List.getElem_of_mem ho
  have:=(h.op i (by omega) (by omega)).k3
  rw [show(i:Int).toNat=i from rfl,getD_lt hi]at this
  exact this
theorem V8 {t:List Atom} {b:Blk} (h:aJ t) (hl:t.length≤100) (hb:jw b):SI (t.length+4) b.ops.length (mg t b)∧t<+:(mg t b).t:=by
  have sz:=hb.sz
  obtain⟨h1,h2⟩:=Dt b.ops 0 (s0 t) (Rh h (by omega)) hb.k3 (by omega) (by omega)
  rw [Nat.zero_add]at h1
  exact⟨h1,(KZ h (by omega) 4 (by omega)).pre.trans h2⟩
def SS.on (s:SS) (u:List Atom):SS:=⟨u,s.regs,s.vals,s.ld,s.inn,s.evs⟩
theorem amw {s:SS} {o:IOp} {u:List Atom} (hu:aJ u) (h:SOK s o) (hp:(stp s o).t<+:u):stp (s.on u) o=(stp s o).on u:=by
  have hp:nT s o<+:u:=hp
  have ex:xOf (s.on u) o=xOf s o:=rfl
  have ey:yOf (s.on u) o=yOf s o:=rfl
  have ea:aOf (s.on u) o=aOf s o:=rfl
  have eT:nT (s.on u) o=u:=by
    unfold nT
    split
    · rename_i e
      rw [ex,ey]
      have h3:=(h.d e).ok
      unfold nT at hp;rw [if_pos e]at hp
      rw [show(s.on u).t=u from rfl,abg hu h3 hp]
    · split
      · rename_i e1 e2
        unfold nT at hp;rw [if_neg e1,if_pos e2]at hp
        rw [ea,show(s.on u).t=u from rfl,AV hu (h.p e2) hp]
      · rfl
  have eV:nV (s.on u) o=nV s o:=by
    unfold nV
    split
    · rfl
    · split
      · rfl
      · split
        · rename_i e
          rw [ex,ey]
          have h3:=(h.d e).ok
          unfold nT at hp;rw [if_pos e]at hp
          rw [show(s.on u).t=u from rfl,abg hu h3 hp]
        · split
          · rename_i e1 e2
            unfold nT at hp;rw [if_neg e1,if_pos e2]at hp
            rw [ea,show(s.on u).t=u from rfl,AV hu (h.p e2) hp]
          · rfl
  show SS.mk (nT (s.on u) o) (nR (s.on u) o) ((s.on u).vals++ [nV (s.on u) o]) _ _ (nE (s.on u) o)=SS.mk u (nR s o) (s.vals++ [nV s o]) _ _ (nE s o)
  rw [eT,eV];rfl
theorem abh {n:Int} {u:List Atom} (hu:aJ u):∀(ops:List IOp) (i:Nat) (s:SS),SI n i s→(∀o∈ops,o.kind=3→1≤o.k∧o.k≤5)→n+i+ops.length≤200→i+ops.length≤200→(ops.foldl stp s).t<+:u→ops.foldl stp (s.on u)=(ops.foldl stp s).on u
  | [],i,s,h,_,_,_,_=>rfl
  | o::r,i,s,h,hk,h1,h2,hp=>by
    rw [List.length_cons]at h1 h2
    obtain⟨a1,a2⟩:=MQ h (hk o List.mem_cons_self) (by omega) (by omega)
    rw [List.foldl_cons]at hp
    obtain⟨_,b2⟩:=Dt r (i+1) (stp s o) a1 (fun o ho=>hk o (List.mem_cons_of_mem _ ho)) (by omega) (by omega)
    rw [List.foldl_cons,List.foldl_cons,amw hu a2 (b2.trans hp)]
    exact abh hu r (i+1) (stp s o) a1 (fun o ho=>hk o (List.mem_cons_of_mem _ ho)) (by omega) (by omega) hp
theorem agM {t u:List Atom} (h:aJ t) (hl:t.length≤196) (hu:aJ u):∀n:Nat,n≤4→(rN t n).1<+:u→rN u n=(u,(rN t n).2)
  | 0,_,_=>rfl
  | n+1,hn,hp=>by
    have h0:=MR h hl (n:=n) (by omega)
    have pr:=wQ (rN t n).1 ⟨1,n,[],[]⟩
    have hp':(bD (rN t n).1 ⟨1,n,[],[]⟩).1<+:u:=hp
    have ih:=agM h hl hu n (by omega) (pr.trans hp')
    show((bD (rN u n).1 ⟨1,n,[],[]⟩).1,(rN u n).2++ [fG (bD (rN u n).1 ⟨1,n,[],[]⟩).2])=(u,(rN t n).2++ [fG (bD (rN t n).1 ⟨1,n,[],[]⟩).2])
    rw [ih]
    dsimp only
    rw [AV hu h0 hp']
theorem afn {t u:List Atom} {b:Blk} (h:aJ t) (hl:t.length≤100) (hb:jw b) (hu:aJ u) (hp:(mg t b).t<+:u):mg u b=(mg t b).on u:=by
  have sz:=hb.sz
  have i0:=Rh h (by omega)
  obtain⟨_,h2⟩:=Dt b.ops 0 (s0 t) i0 hb.k3 (by omega) (by omega)
  have e:s0 u=(s0 t).on u:=by
    unfold s0 SS.on
    rw [agM h (by omega) hu 4 (by omega) (h2.trans hp)]
  unfold mg at hp ⊢
  rw [e]
  exact abh hu b.ops 0 (s0 t) i0 hb.k3 (by omega) (by omega) hp
theorem zC {t:List Atom} {b:Blk} (h:aJ t) (hl:t.length≤100) (hb:jw b):cB t b=((mg t b).t,symEnd (JF b (mg t b)) (b.pc+b.len)):=by
  unfold cB;rw [if_pos (eF ⟨h,hl,hb⟩)]
theorem K4 {t u:List Atom} {b:Blk} (h:aJ t) (hl:t.length≤100) (hb:jw b) (hu:aJ u) (hlu:u.length≤100) (hp:(cB t b).1<+:u):cB u b=(u,(cB t b).2):=by
  rw [zC h hl hb]at hp ⊢
  rw [zC hu hlu hb,afn h hl hb hu hp]
  rfl
theorem K6 {t:List Atom} {b:Blk} (h:aJ t) (hl:t.length≤100) (hb:jw b):aJ (cB t b).1∧t<+:(cB t b).1∧(cB t b).1.length≤t.length+b.ops.length+4:=by
  unfold cB
  rw [if_pos (eF ⟨h,hl,hb⟩)]
  obtain⟨h1,h2⟩:=V8 h hl hb
  have:=h1.tl
  exact⟨h1.tok,h2,by dsimp only;omega⟩
end Go.TX.F
namespace Go.TX.F
open Go Go.AE Go.TX
def ShP (l:List (List aj)):Prop:=l.length<1000000000∧∀p∈l,Sh p
def ShE (e:Ev):Prop:=Sh e.x∧Sh e.y∧ShP e.regs
def amx (l:List Ev):Prop:=l.length<1000000000∧∀e∈l,ShE e
structure ShY (s:Sym):Prop where
  e:amx s.events
  r:ShP s.regs
  x:Sh s.x
  y:Sh s.y
theorem ShP.at {l:List (List aj)} (h:ShP l) (n:Nat):Sh (l.getD n default):=by
  by_cases c:n<l.length
  · rw [getD_lt c];exact h.2 _ (List.getElem_mem _)
  · rw [List.getD_eq_getElem?_getD,List.getElem?_eq_none (by omega)];exact jv
theorem V9:ShP []:=⟨by simp,fun p h=>absurd h (by simp)⟩
theorem amx.at {l:List Ev} (h:amx l) (n:Nat):ShE (l.getD n default):=by
  by_cases c:n<l.length
  · rw [getD_lt c];exact h.2 _ (List.getElem_mem _)
  · rw [List.getD_eq_getElem?_getD,List.getElem?_eq_none (by omega)];exact⟨jv,jv,V9⟩
theorem SI.regs {n:Int} {i:Nat} {s:SS} (h:SI n i s):ShP s.regs:=⟨by have:=h.r4;omega,fun p hp=>(h.rok p hp).1.sh⟩
theorem afo {n:Int} {i:Nat} {s:SS} {o:IOp} (h:SI n i s) (h2:s.evs.length≤i∧∀e∈s.evs,ShE e):(stp s o).evs.length≤i+1∧∀e∈(stp s o).evs,ShE e:=by
  show(nE s o).length≤i+1∧∀e∈nE s o,ShE e
  unfold nE
  split
  · refine⟨by rw [List.length_append];have:=h2.1;simp only [List.length_cons,List.length_nil];omega,fun e he=> ?_⟩
    rw [List.mem_append,List.mem_singleton]at he
    rcases he with he | rfl
    · exact h2.2 e he
    · refine⟨(h.x o).1.sh,(h.y o).1.sh,?_⟩
      dsimp only
      split
      · exact h.regs
      · exact V9
  · exact⟨by have:=h2.1;omega,h2.2⟩
theorem TR {n:Int}:∀(ops:List IOp) (i:Nat) (s:SS),SI n i s→(∀o∈ops,o.kind=3→1≤o.k∧o.k≤5)→n+i+ops.length≤200→i+ops.length≤200→(s.evs.length≤i∧∀e∈s.evs,ShE e)→(ops.foldl stp s).evs.length≤i+ops.length∧∀e∈(ops.foldl stp s).evs,ShE e
  | [],i,s,h,_,_,_,h3=>h3
  | o::r,i,s,h,hk,h1,h2,h3=>by
    rw [List.length_cons]at h1 h2
    obtain⟨a1,a2⟩:=MQ h (hk o List.mem_cons_self) (by omega) (by omega)
    have:=TR r (i+1) (stp s o) a1 (fun o ho=>hk o (List.mem_cons_of_mem _ ho)) (by omega) (by omega) (afo h h3)
    rw [List.foldl_cons,List.length_cons,show i+(r.length+1)=i+1+r.length by omega]
    exact this
def evT (e:Ev):Int×Int×Nat:=(e.kind,e.at_,e.regs.length)
def opT (o:IOp):Int×Int×Nat:=(o.kind,o.at_,if o.kind=4∨o.kind=5 then 4 else 0)
def Wh (ops:List IOp):List IOp:=ops.filter fun o=>decide (evO o)
theorem Wi:∀(ops:List IOp) (s:SS),s.regs.length=4→(ops.foldl stp s).evs.map evT=s.evs.map evT++(Wh ops).map opT
  | [],s,_=>by simp [Wh]
  | o::r,s,h=>by
    have h':(stp s o).regs.length=4:=by
      show(nR s o).length=4
      unfold nR;split
      · rw [List.length_set];exact h
      · exact h
    rw [List.foldl_cons,Wi r (stp s o) h']
    show(nE s o).map evT++_=_
    unfold nE Wh
    by_cases c:evO o
    · have e:evT ⟨o.kind,o.at_,xOf s o,yOf s o,if o.kind=4∨o.kind=5 then s.regs else []⟩=opT o:=by
        unfold evT opT
        dsimp only
        split
        · rw [h]
        · rfl
      rw [if_pos c,List.filter_cons_of_pos (by simpa using c),List.map_append,List.append_assoc]
      refine congrArg (s.evs.map evT++ ·) ?_
      show evT _::_=opT o::_
      rw [e];rfl
    · rw [if_neg c,List.filter_cons_of_neg (by simpa using c)]
theorem Wj {n:Int} {i:Nat} {s:SS} {b:Blk} (h:SI n i s):aN (JF b s).x∧aN (JF b s).y:=by
  unfold JF
  dsimp only
  constructor
  · split
    · exact eH
    · exact(Jw h.vok _).1
  · split
    · exact(Jw h.vok _).1
    · exact eH
theorem MS {s:Sym} {n:Int} (h:aN s.x∧aN s.y):(symEnd s n).events=s.events∧(symEnd s n).regs=s.regs∧aN (symEnd s n).x∧aN (symEnd s n).y:=by
  unfold symEnd
  rw [if_neg (by rw [eF h];simp)]
  repeat' split
  all_goals first | exact⟨rfl,rfl,h⟩ | exact⟨rfl,rfl,eH,eH⟩ | exact⟨rfl,rfl,h.2,h.1⟩
structure aqd (t:List Atom) (b:Blk):Prop where
  evs:(cB t b).2.events.map evT=(Wh b.ops).map opT
  r4:(cB t b).2.regs.length=4
  sh:ShY (cB t b).2
  ne:0< (cB t b).1.length
theorem Ri {t:List Atom} {b:Blk} (h:aJ t) (hl:t.length≤100) (hb:jw b):aqd t b:=by
  have sz:=hb.sz
  have i0:=Rh h (by omega)
  obtain⟨h1,h2⟩:=V8 h hl hb
  have hs:=TR b.ops 0 (s0 t) i0 hb.k3 (by omega) (by omega) ⟨by simp [s0],fun e he=>absurd he (by simp [s0])⟩
  have he:=Wi b.ops (s0 t) i0.r4
  have hk:=MS (n:=b.pc+b.len) (Wj (b:=b) h1)
  have e:cB t b=((mg t b).t,symEnd (JF b (mg t b)) (b.pc+b.len)):=by unfold cB;rw [if_pos (eF ⟨h,hl,hb⟩)]
  rw [Nat.zero_add]at hs
  refine⟨?_,?_,?_,?_⟩
  · rw [e];dsimp only;rw [hk.1];show(mg t b).evs.map evT=_;unfold mg;rw [he];rfl
  · rw [e];dsimp only;rw [hk.2.1];exact h1.r4
  · rw [e]
    refine⟨?_,?_,hk.2.2.1.sh,hk.2.2.2.sh⟩
    · rw [hk.1];exact⟨by have:=hs.1;show(b.ops.foldl stp (s0 t)).evs.length<_;omega,hs.2⟩
    · rw [hk.2.1];exact h1.regs
  · rw [e]
    have r:=Dt b.ops 0 (s0 t) i0 hb.k3 (by omega) (by omega)
    have:=AU r.2
    have p:=xI (MR h (by omega) (n:=3) (by omega))
    have p0:=MR h (by omega) (n:=3) (by omega)
    show 0< (mg t b).t.length
    have:(s0 t).t.length=(bD (rN t 3).1 ⟨1,(3:Nat),[],[]⟩).1.length:=rfl
    unfold mg
    omega
noncomputable def t4:List Atom:=(rN [] 4).1
theorem X7:aJ []:=l9.2 ⟨All.zero,by simp⟩
theorem aqe:aJ t4∧t4.length≤4:=by
  have:=KZ X7 (by simp) 4 (by omega)
  exact⟨this.tok,Nat.le_trans this.tl (by simp)⟩
noncomputable def chk (b c:Blk):Bool:=bp (jw b∧jw c∧b.pc=c.pc∧b.len=c.len∧(b=c∨(cB t4 b).2=(cB (cB t4 b).1 c).2))
structure Lk (b c:Blk):Prop where
  ob:jw b
  oc:jw c
  pc:b.pc=c.pc
  len:b.len=c.len
  run:∀u,aJ u→u.length≤100→(cB u b).1=u→cB u c=cB u b
theorem Lk.refl {b:Blk} (h:jw b):Lk b b:=⟨h,h,rfl,rfl,fun _ _ _ _=>rfl⟩
theorem Lk.trans {b c d:Blk} (h:Lk b c) (g:Lk c d):Lk b d:=⟨h.ob,g.oc,h.pc.trans g.pc,h.len.trans g.len,fun u h1 h2 h3=>by
  have e:=h.run u h1 h2 h3
  rw [g.run u h1 h2 (by rw [e];exact h3),e]⟩
theorem afp {b:Blk} (hb:jw b):aJ (cB t4 b).1∧(cB t4 b).1.length≤100∧cB (cB t4 b).1 b=cB t4 b:=by
  have h4:=aqe
  have hr:=K6 h4.1 (by omega) hb
  have sz:=hb.sz
  refine⟨hr.1,by omega,?_⟩
  have:=K4 h4.1 (by omega) hb hr.1 (by omega) (List.prefix_refl _)
  rw [this]
theorem Lk.chk {b c:Blk} (h:Lk b c):chk b c=true:=by
  obtain⟨h1,h2,h3⟩:=afp h.ob
  refine eF ⟨h.ob,h.oc,h.pc,h.len,Or.inr ?_⟩
  rw [h.run _ h1 h2 (by rw [h3]),h3]
end Go.TX.F
namespace Go.TX.F
open Go Go.AE Go.TX
theorem TS (f:SS→IOp→SS) (s:SS) {l:List IOp} {i:Nat} (h:i<l.length):(l.take (i+1)).foldl f s=f ((l.take i).foldl f s) l[i]:=by
  rw [List.take_succ_eq_append_getElem h,List.foldl_append];rfl
def ren (nm:List Int) (o:IOp):IOp:=⟨o.kind,if hX o then((nm).getD (o.x).toNat default)else o.x,if hY o then((nm).getD (o.y).toNat default)else o.y,o.k,o.at_⟩
def cpN (s:List Int×List Int) (i:Int) (o:IOp):Int:=if o.kind=2∧0≤((s.2).getD (o.k).toNat default)then((s.2).getD (o.k).toNat default)else i
def cpL (s:List Int×List Int) (i:Int) (o:IOp):List Int:=if o.kind=2 then(if 0≤((s.2).getD (o.k).toNat default)then s.2 else s.2.set o.k.toNat i)else if o.kind=8 then s.2.set o.k.toNat ((s.1).getD (o.x).toNat default)else s.2
def cpS (ops:List IOp):Nat→List Int×List Int
  | 0=>([],[-1, -1, -1, -1])
  | i+1=>((cpS ops i).1++ [cpN (cpS ops i) i (ops.getD i default)],cpL (cpS ops i) i (ops.getD i default))
structure CI (ops:List IOp) (i:Nat) (s:SS):Prop where
  nm:∀j:Int,0≤j→j<i→(0≤(((cpS ops i).1).getD (j).toNat default)∧(((cpS ops i).1).getD (j).toNat default)≤j)∧((s.vals).getD ((((cpS ops i).1).getD (j).toNat default)).toNat default)=((s.vals).getD (j).toNat default)∧(mkV ((ops).getD (j).toNat default)→mkV ((ops).getD ((((cpS ops i).1).getD (j).toNat default)).toNat default))
  la:∀r:Int,0≤r→r≤3→0≤(((cpS ops i).2).getD (r).toNat default)→(((cpS ops i).2).getD (r).toNat default)<i∧((s.vals).getD ((((cpS ops i).2).getD (r).toNat default)).toNat default)=((s.regs).getD (r).toNat default)∧mkV ((ops).getD ((((cpS ops i).2).getD (r).toNat default)).toNat default)
end Go.TX.F
namespace Go.TX.F
open Go Go.AE Go.TX
def fcO (f:List IOp) (o:IOp):IOp:=if o.kind=3∧(((f).getD (o.x).toNat default)).kind=1∧(((f).getD (o.y).toNat default)).kind=1 then⟨1,0,0,wdo o.k (((f).getD (o.x).toNat default)).k (((f).getD (o.y).toNat default)).k,0⟩else o
def fc (ops:List IOp):Nat→List IOp
  | 0=> []
  | i+1=>fc ops i++ [fcO (fc ops i) (ops.getD i default)]
structure FI (ops:List IOp) (i:Nat) (s:SS):Prop where
  c:∀j:Int,0≤j→j<i→((((fc ops i)).getD (j).toNat default)).kind=1→(0≤((((fc ops i)).getD (j).toNat default)).k∧((((fc ops i)).getD (j).toNat default)).k≤65535)∧((s.vals).getD (j).toNat default)=dI ((((fc ops i)).getD (j).toNat default)).k
  m:∀j:Int,0≤j→j<i→mkV ((ops).getD (j).toNat default)→mkV (((fc ops i)).getD (j).toNat default)
end Go.TX.F
namespace Go.TX.F
open Go Go.AE Go.TX
theorem RB:(∀o:IOp,kD .iop 0 o=o.kind)∧(∀o:IOp,kD .iop 1 o=o.x)∧(∀o:IOp,kD .iop 2 o=o.y)∧(∀o:IOp,kD .iop 3 o=o.k)∧(∀o:IOp,kD .iop 4 o=o.at_)∧
    (∀b:Blk,kD .blk 0 b=b.pc)∧(∀b:Blk,kD .blk 1 b=b.len)∧(∀b:Blk,oZ .blk 2 .iop b=b.ops)∧(∀b:Blk,kD .blk 3 b=b.fin)∧(∀b:Blk,kD .blk 4 b=b.x)∧(∀b:Blk,kD .blk 5 b=b.y)∧(∀b:Blk,kD .blk 6 b=b.k)∧
    (∀x,Co.mk .iop x=⟨x.1,x.2.1,x.2.2.1,x.2.2.2.1,x.2.2.2.2.1⟩)∧(∀x,Co.mk .blk x=⟨x.1,x.2.1,x.2.2.1,x.2.2.2.1,x.2.2.2.2.1,x.2.2.2.2.2.1,x.2.2.2.2.2.2.1⟩)∧
    (∀i:Ins,kD .ins 0 i=i.op)∧(∀i:Ins,kD .ins 1 i=i.d)∧(∀i:Ins,kD .ins 2 i=i.a)∧(∀i:Ins,kD .ins 3 i=i.k)∧(∀x,Co.mk .ins x=⟨x.1,x.2.1,x.2.2.1,x.2.2.2.1⟩)∧
    (∀e:Ev,kD .ev 0 e=e.kind)∧(∀e:Ev,kD .ev 1 e=e.at_)∧(∀e:Ev,oZ .ev 2 .mono e=e.x)∧(∀e:Ev,oZ .ev 3 .mono e=e.y)∧(∀e:Ev,oZ .ev 4 .poly e=e.regs)∧(∀x,Co.mk .ev x=⟨x.1,x.2.1,x.2.2.1,x.2.2.2.1,x.2.2.2.2.1⟩)∧
    (∀s:Sym,oZ .sym 0 .ev s=s.events)∧(∀s:Sym,oZ .sym 1 .poly s=s.regs)∧(∀s:Sym,kD .sym 2 s=s.fin)∧(∀s:Sym,oZ .sym 3 .mono s=s.x)∧(∀s:Sym,oZ .sym 4 .mono s=s.y)∧(∀s:Sym,kD .sym 5 s=s.k)∧
    (∀x,Co.mk .sym x=⟨x.1,x.2.1,x.2.2.1,x.2.2.2.1,x.2.2.2.2.1,x.2.2.2.2.2.1⟩):=
  ⟨fun _=>rfl,fun _=>rfl,fun _=>rfl,fun _=>rfl,fun _=>rfl,fun _=>rfl,fun _=>rfl,fun _=>rfl,fun _=>rfl,fun _=>rfl,fun _=>rfl,fun _=>rfl,fun _=>rfl,fun _=>rfl,fun _=>rfl,fun _=>rfl,fun _=>rfl,fun _=>rfl,fun _=>rfl,fun _=>rfl,fun _=>rfl,fun _=>rfl,fun _=>rfl,fun _=>rfl,fun _=>rfl,fun _=>rfl,fun _=>rfl,fun _=>rfl,fun _=>rfl,fun _=>rfl,fun _=>rfl,fun _=>rfl⟩
@[reducible] def hK (o : IOp) : Prop := o.kind = 1 ∨ o.kind = 2 ∨ o.kind = 3 ∨ o.kind = 8
theorem agN {p1:Int×Int×Int×Unit→Bool} {f1:Int×Int×Int×Unit→Bool×Unit} (hp1:∀a b c,p1 (a,b,c,())=true) (hf1:∀a b c,f1 (a,b,c,())=(inB a b c,())) (o:IOp):
    Qt (std 0) p1 f1 (o,()) (fun y=>y=(decide (hX o),decide (hY o),decide (hK o),decide (evO o),())):=by
  dsimp only [Qt,Alg.cl,Alg.cg,Alg.rb,Alg.bd,Alg.l1,Tup.q,Tup.o]
  simp (disch:=omega) only [RR,RB,hp1,hf1]
  refine Prod.ext ?_ (Prod.ext ?_ (Prod.ext ?_ (Prod.ext ?_ rfl)))<;>rw [Bool.eq_iff_iff]<;>simp [hX,hY,hK,evO,inB,or_assoc,and_assoc]
theorem agO {p1:Int×Int×Int×Unit→Bool} {f1:Int×Int×Int×Unit→Bool×Unit} (hp1:∀a b c,p1 (a,b,c,())=true) (hf1:∀a b c,f1 (a,b,c,())=(inB a b c,())) (o:IOp):
    Qu (std 0) p1 f1 (o,()) (fun y=>y=(decide (mkV o),())):=by
  dsimp only [Qu,Alg.cl,Alg.cg,Alg.rb,Alg.bd,Alg.l1,Tup.q,Tup.o]
  simp (disch:=omega) only [RR,RB,hp1,hf1]
  refine Prod.ext ?_ rfl
  rw [Bool.eq_iff_iff];simp [mkV,inB]
theorem agP {p1:Int×Int×Int×Unit→Bool} {f1:Int×Int×Int×Unit→Bool×Unit} (hp1:∀a b c,p1 (a,b,c,())=true) (hf1:∀a b c,f1 (a,b,c,())=(inB a b c,())) (o:IOp):
    QH (std 0) p1 f1 (o,()) (fun y=>y=(decide (evO o),())):=by
  dsimp only [QH,Alg.cl,Alg.cg,Alg.rb,Alg.bd,Alg.l1,Tup.q,Tup.o]
  simp (disch:=omega) only [RR,RB,hp1,hf1]
  refine Prod.ext ?_ rfl
  rw [Bool.eq_iff_iff];simp [evO,inB]
theorem agQ {p2:IOp×Unit→Bool} {f2:IOp×Unit→Bool×Unit} (hp2:∀o,p2 (o,())=true) (hf2:∀o,f2 (o,())=(decide (mkV o),()))
    {p1:Int×Int×Int×Unit→Bool} {f1:Int×Int×Int×Unit→Bool×Unit} (hp1:∀a b c,p1 (a,b,c,())=true) (hf1:∀a b c,f1 (a,b,c,())=(inB a b c,())) (b:Blk) (x n:Int) (h0:0≤n) (h1:n≤b.ops.length) (h2:b.ops.length<1000000000):
    Qv (std 0) p2 f2 p1 f1 (b,x,n,()) (fun y=>y=(bp (Vl b.ops x n),())):=by
  dsimp only [Qv,Alg.cl,Alg.cg,Alg.rb,Alg.bd,Alg.l1,Tup.q,Tup.o]
  simp (disch:=omega) only [RR,RB,hp1,hf1,hp2,hf2,dx,nC]
  refine⟨by omega,by omega,?_⟩
  refine Prod.ext ?_ rfl
  dsimp only
  rw [Bool.eq_iff_iff,bg,Bool.and_eq_true,dx,decide_eq_true_eq]
  unfold Vl
  constructor
  · rintro⟨⟨a1,a2⟩,a3⟩;exact⟨a1,by omega,a3⟩
  · rintro⟨a1,a2,a3⟩;exact⟨⟨a1,by omega⟩,a3⟩
theorem Rj {ops:List IOp} {len i:Int} {o:IOp}:MO ops len i o↔(1≤o.kind∧o.kind≤8)∧(hX o∧Vl ops o.x i∨¬hX o∧o.x=0)∧(hY o∧Vl ops o.y i∨¬hY o∧o.y=0)∧
    (hK o∧(o.kind=1∧(0≤o.k∧o.k≤65535)∨(o.kind=2∨o.kind=8)∧(0≤o.k∧o.k≤3)∨o.kind=3∧(1≤o.k∧o.k≤5))∨¬hK o∧o.k=0)∧(evO o∧(0≤o.at_∧o.at_<len)∨¬evO o∧o.at_=0):=by
  constructor
  · rintro⟨kd,x1,x0,y1,y0,k1,k2,k3,k0,a1,a0⟩
    refine⟨kd,?_,?_,?_,?_⟩
    · by_cases h:hX o
      · exact Or.inl ⟨h,x1 h⟩
      · exact Or.inr ⟨h,x0 h⟩
    · by_cases h:hY o
      · exact Or.inl ⟨h,y1 h⟩
      · exact Or.inr ⟨h,y0 h⟩
    · unfold hK;omega
    · by_cases h:evO o
      · exact Or.inl ⟨h,a1 h⟩
      · exact Or.inr ⟨h,a0 h⟩
  · rintro⟨kd,x,y,k,a⟩
    refine⟨kd,fun h=> ?_,fun h=> ?_,fun h=> ?_,fun h=> ?_,fun h=> ?_,fun h=> ?_,fun h=> ?_,fun h h'=> ?_,fun h=> ?_,fun h=> ?_⟩
    · rcases x with x | x
      · exact x.2
      · exact absurd h x.1
    · rcases x with x | x
      · exact absurd x.1 h
      · exact x.2
    · rcases y with y | y
      · exact y.2
      · exact absurd h y.1
    · rcases y with y | y
      · exact absurd y.1 h
      · exact y.2
    · unfold hK at k;omega
    · unfold hK at k;omega
    · unfold hK at k;omega
    · unfold hK at k;omega
    · rcases a with a | a
      · exact a.2
      · exact absurd h a.1
    · rcases a with a | a
      · exact absurd a.1 h
      · exact a.2
theorem agR {p3:Blk×Int×Int×Unit→Bool} {f3:Blk×Int×Int×Unit→Bool×Unit} (hp3:∀b x n,0≤n→n≤b.ops.length→b.ops.length<1000000000→p3 (b,x,n,())=true) (hf3:∀b x n,0≤n→n≤b.ops.length→b.ops.length<1000000000→f3 (b,x,n,())=(bp (Vl b.ops x n),()))
    {p2:IOp×Unit→Bool} {f2:IOp×Unit→Bool×Bool×Bool×Bool×Unit} (hp2:∀o,p2 (o,())=true) (hf2:∀o,f2 (o,())=(decide (hX o),decide (hY o),decide (hK o),decide (evO o),()))
    {p4:Int×Unit→Bool} {f4:Int×Unit→Bool×Unit} (hp4:∀a,p4 (a,())=true) (hf4:∀a,f4 (a,())=(inB a 0 65535,()))
    {p1:Int×Int×Int×Unit→Bool} {f1:Int×Int×Int×Unit→Bool×Unit} (hp1:∀a b c,p1 (a,b,c,())=true) (hf1:∀a b c,f1 (a,b,c,())=(inB a b c,()))
    {p5:Int×Unit→Bool} {f5:Int×Unit→Bool×Unit} (hp5:∀a,p5 (a,())=true) (hf5:∀a,f5 (a,())=(inB a 1 5,()))
    {p6:Int×Unit→Bool} {f6:Int×Unit→Bool×Unit} (hp6:∀a,p6 (a,())=true) (hf6:∀a,f6 (a,())=(inB a 0 3,()))
    (b:Blk) (i:Int) (h0:0≤i) (h1:i<b.ops.length) (h2:b.ops.length<1000000000) (h3:1≤b.len∧b.len≤8):
    Qw (std 0) p3 f3 p2 f2 p4 f4 p1 f1 p5 f5 p6 f6 (b,i,()) (fun y=>y=(bp (MO b.ops b.len i ((b.ops).getD (i).toNat default)),())):=by
  have TT:=fun x=>hp3 b x i h0 (by omega) h2
  have TU:=fun x=>hf3 b x i h0 (by omega) h2
  dsimp only [Qw,Alg.cl,Alg.cg,Alg.rb,Alg.bd,Alg.l1,Tup.q,Tup.o]
  simp (disch:=omega) only [RR,RB,hp1,hf1,hp2,hf2,TT,TU,hp4,hf4,hp5,hf5,hp6,hf6,nC]
  refine⟨by omega,by omega,fun h=> ?_,fun h=> ?_⟩
  · rw [fK (fun g=>h g.kd)]
  · have h:=dx.1 h
    refine Prod.ext ?_ rfl
    dsimp only
    rw [Bool.eq_iff_iff,bg,Rj]
    generalize ((b.ops).getD (i).toNat default)=o at h ⊢
    simp only [Bool.and_eq_true,Bool.or_eq_true,Bool.not_eq_true',decide_eq_true_eq,decide_eq_false_iff_not,bg,dx,h,true_and,and_true]
    have e:∀ {a:Int},(0≤a∧a≤b.len-1)↔(0≤a∧a<b.len):=fun {a}=>by omega
    have k:(bif decide (o.kind=1)then inB o.k 0 65535 else bif decide (o.kind=2)then inB o.k 0 3 else bif decide (o.kind=3)then inB o.k 1 5 else(decide (o.kind=8)&&inB o.k 0 3))=true↔(o.kind=1∧(0≤o.k∧o.k≤65535)∨(o.kind=2∨o.kind=8)∧(0≤o.k∧o.k≤3)∨o.kind=3∧(1≤o.k∧o.k≤5)):=by
      rcases(by omega:o.kind=1∨o.kind=2∨o.kind=3∨o.kind=8∨(o.kind≠1∧o.kind≠2∧o.kind≠3∧o.kind≠8))with c | c | c | c | ⟨c1,c2,c3,c4⟩
      · simp [c,inB]
      · simp [c,inB]
      · simp [c,inB]
      · simp [c,inB]
      · simp [c1,c2,c3,c4]
    rw [k]
    simp only [e,and_assoc]
theorem agS (b:Blk):Qz (std 0) (b,()) (fun y=>y=(decide (b.fin≠1),decide (3≤b.fin),decide (b.fin≠2),())):=by
  dsimp only [Qz,Alg.cl,Alg.cg,Alg.rb,Alg.bd,Alg.l1,Tup.q,Tup.o]
  simp (disch:=omega) only [RR,RB]
  refine Prod.ext ?_ (Prod.ext rfl (Prod.ext ?_ rfl))<;>simp
theorem K7 {b:Blk}:AQ b↔(1≤b.fin∧b.fin≤4)∧(b.fin≠1∧Vl b.ops b.x b.ops.length∨¬b.fin≠1∧b.x=0)∧(3≤b.fin∧Vl b.ops b.y b.ops.length∨¬3≤b.fin∧b.y=0)∧(b.fin≠2∧(0≤b.k∧b.k≤65535)∨¬b.fin≠2∧b.k=0):=by
  constructor
  · rintro⟨f,x1,x0,y1,y0,k1,k0⟩
    refine⟨f,?_,?_,by omega⟩
    · by_cases h:b.fin=1
      · exact Or.inr ⟨fun g=>g h,x0 h⟩
      · exact Or.inl ⟨h,x1 h⟩
    · by_cases h:3≤b.fin
      · exact Or.inl ⟨h,y1 h⟩
      · exact Or.inr ⟨h,y0 (by omega)⟩
  · rintro⟨f,x,y,k⟩
    refine⟨f,fun h=> ?_,fun h=> ?_,fun h=> ?_,fun h=> ?_,fun h=>by omega,fun h=>by omega⟩
    · rcases x with x | x
      · exact x.2
      · exact absurd h x.1
    · rcases x with x | x
      · exact absurd h x.1
      · exact x.2
    · rcases y with y | y
      · exact y.2
      · exact absurd h y.1
    · rcases y with y | y
      · exact absurd y.1 (by omega)
      · exact y.2
theorem agT {p2:Blk×Unit→Bool} {f2:Blk×Unit→Bool×Bool×Bool×Unit} (hp2:∀b,p2 (b,())=true) (hf2:∀b,f2 (b,())=(decide (b.fin≠1),decide (3≤b.fin),decide (b.fin≠2),()))
    {p3:Blk×Int×Int×Unit→Bool} {f3:Blk×Int×Int×Unit→Bool×Unit} (hp3:∀b x n,0≤n→n≤b.ops.length→b.ops.length<1000000000→p3 (b,x,n,())=true) (hf3:∀b x n,0≤n→n≤b.ops.length→b.ops.length<1000000000→f3 (b,x,n,())=(bp (Vl b.ops x n),()))
    {p4:Int×Unit→Bool} {f4:Int×Unit→Bool×Unit} (hp4:∀a,p4 (a,())=true) (hf4:∀a,f4 (a,())=(inB a 0 65535,()))
    {p1:Int×Int×Int×Unit→Bool} {f1:Int×Int×Int×Unit→Bool×Unit} (hp1:∀a b c,p1 (a,b,c,())=true) (hf1:∀a b c,f1 (a,b,c,())=(inB a b c,())) (b:Blk) (h2:b.ops.length<1000000000):
    QA (std 0) p2 f2 p3 f3 p4 f4 p1 f1 (b,()) (fun y=>y=(bp (AQ b),())):=by
  have TT:=fun x=>hp3 b x b.ops.length (by omega) (Int.le_refl _) h2
  have TU:=fun x=>hf3 b x b.ops.length (by omega) (Int.le_refl _) h2
  dsimp only [QA,Alg.cl,Alg.cg,Alg.rb,Alg.bd,Alg.l1,Tup.q,Tup.o]
  simp (disch:=omega) only [RR,RB,hp1,hf1,hp2,hf2,TT,TU,hp4,hf4]
  refine Prod.ext ?_ rfl
  dsimp only
  rw [Bool.eq_iff_iff,bg,K7]
  simp only [Bool.and_eq_true,Bool.or_eq_true,Bool.not_eq_true',decide_eq_true_eq,decide_eq_false_iff_not,bg,dx,and_assoc]
theorem agU {p2:Blk×Unit→Bool} {f2:Blk×Unit→Bool×Unit} (hp2:∀b,b.ops.length<1000000000→p2 (b,())=true) (hf2:∀b,b.ops.length<1000000000→f2 (b,())=(bp (AQ b),()))
    {p3:Blk×Int×Unit→Bool} {f3:Blk×Int×Unit→Bool×Unit} (hp3:∀(b:Blk) (i:Int),0≤i→i<b.ops.length→b.ops.length<1000000000→1≤b.len∧b.len≤8→p3 (b,i,())=true) (hf3:∀(b:Blk) (i:Int),0≤i→i<b.ops.length→b.ops.length<1000000000→1≤b.len∧b.len≤8→f3 (b,i,())=(bp (MO b.ops b.len i ((b.ops).getD (i).toNat default)),()))
    {p1:Int×Int×Int×Unit→Bool} {f1:Int×Int×Int×Unit→Bool×Unit} (hp1:∀a b c,p1 (a,b,c,())=true) (hf1:∀a b c,f1 (a,b,c,())=(inB a b c,())) (b:Blk) (h2:b.ops.length<1000000000):
    QB (std 0) p2 f2 p3 f3 p1 f1 (b,()) (fun y=>y=(bp (jw b),())):=by
  dsimp only [QB,Alg.cl,Alg.cg,Alg.rb,Alg.bd,Alg.l1,Tup.q,Tup.o]
  simp (disch:=omega) only [RR,RB,hp1,hf1]
  by_cases hl:1≤b.len∧b.len≤8
  · have hl':=dx.2 hl
    simp (disch:=omega) only [RR,hl',dx,nC]
    refine⟨fun h=> ?_,fun h=> ?_⟩
    · rw [fK (fun g=> ?_)]
      have g1:=g.pc
      have g2:=g.sz
      omega
    · refine ay (fun(y:Int×Int×Blk×Unit)=>y.1=b.ops.length∧y.2.2.1=b∧0≤y.2.1∧y.2.1≤b.ops.length∧All y.2.1 (fun i=>MO b.ops b.len i ((b.ops).getD (i).toNat default))) (fun y=>(b.ops.length-y.2.1).toNat) ⟨rfl,rfl,by simp,by simp,All.zero⟩ ?_
      rintro⟨(n:Int),(i:Int),(b':Blk),⟨⟩⟩ hI
      dsimp only at hI ⊢
      obtain⟨rfl,rfl,h3,h4,h5⟩:=hI
      simp (disch:=omega) only [RR,hp2 b' h2,hf2 b' h2]
      refine⟨fun h6=>⟨hp3 b' i h3 h6 h2 hl,?_⟩,fun h6=> ?_⟩
      · rw [hf3 b' i h3 h6 h2 hl]
        dsimp only
        refine⟨fun h7=> ?_,fun h7=>⟨⟨by omega,by omega,h5.snoc (bg.1 h7)⟩,by omega⟩⟩
        rw [fK (fun g=>lT.1 h7 (g.op i h3 h6))]
      · by_cases he:AQ b'
        · rw [eF he,eF (show jw b' from⟨hl,by omega,by omega,fun j j1 j2=>h5 j j1 (by omega),he⟩)]
        · rw [fK he,fK (fun g=>he g.en)]
  · have hl':=nC.2 hl
    simp (disch:=omega) only [RR,hl']
    rw [fK (fun g=>hl g.ln)]
    exact⟨rfl,fun h=>h.1.1.elim⟩
end Go.TX.F
namespace Go.TX.F
open Go Go.AE Go.TX
theorem abj {p1:Int×Int×Int×Unit→Bool} {f1:Int×Int×Int×Unit→Bool×Unit} (hp1:∀a b c,p1 (a,b,c,())=true) (hf1:∀a b c,f1 (a,b,c,())=(inB a b c,())) (k:Int):
    GJ (std 0) p1 f1 (k,()) (fun y=>y=(decide ((1≤k∧k≤4)∨k=6),())):=by
  dsimp only [GJ,Alg.cl,Alg.cg,Alg.rb,Alg.bd,Alg.l1,Tup.q,Tup.o]
  simp (disch:=omega) only [RR,hp1,hf1]
  refine Prod.ext ?_ rfl
  rw [Bool.eq_iff_iff];simp [inB]
theorem abk {p1:Int×Unit→Bool} {f1:Int×Unit→Bool×Unit} (hp1:∀k,p1 (k,())=true) (hf1:∀k,f1 (k,())=(decide ((1≤k∧k≤4)∨k=6),())) (ops:List IOp) (x n:Int) (h1:n≤ops.length):
    GK (std 0) p1 f1 (ops,x,n,()) (fun y=>y=(bp (Vl ops x n),())):=by
  dsimp only [GK,Alg.cl,Alg.cg,Alg.rb,Alg.bd,Alg.l1,Tup.q,Tup.o]
  simp (disch:=omega) only [RR,RB,hp1,hf1]
  refine⟨by simp only [Bool.and_eq_false_iff,decide_eq_false_iff_not];omega,by simp only [Bool.and_eq_false_iff,decide_eq_false_iff_not];omega,?_⟩
  refine Prod.ext ?_ rfl
  dsimp only
  rw [Bool.eq_iff_iff,bg,Bool.and_eq_true,Bool.and_eq_true,decide_eq_true_eq,decide_eq_true_eq,decide_eq_true_eq,and_assoc]
  rfl
theorem abl {p4:Int×Unit→Bool} {f4:Int×Unit→Bool×Unit} (hp4:∀a,p4 (a,())=true) (hf4:∀a,f4 (a,())=(inB a 0 65535,()))
    {p1:Int×Int×Int×Unit→Bool} {f1:Int×Int×Int×Unit→Bool×Unit} (hp1:∀a b c,p1 (a,b,c,())=true) (hf1:∀a b c,f1 (a,b,c,())=(inB a b c,()))
    {p3:List IOp×Int×Int×Unit→Bool} {f3:List IOp×Int×Int×Unit→Bool×Unit} (hp3:∀(ops:List IOp) (x n:Int),n≤ops.length→p3 (ops,x,n,())=true) (hf3:∀(ops:List IOp) (x n:Int),n≤ops.length→f3 (ops,x,n,())=(bp (Vl ops x n),()))
    (ops:List IOp) (i len:Int) (h0:0≤i) (h1:i<ops.length) (h3:1≤len∧len≤8):GL (std 0) p4 f4 p1 f1 p3 f3 (ops,i,len,()) (fun y=>y=(bp (MO ops len i ((ops).getD (i).toNat default)),())):=by
  have TT:=fun x=>hp3 ops x i (by omega)
  have TU:=fun x=>hf3 ops x i (by omega)
  have e:∀ {a:Int},(0≤a∧a≤len-1)↔(0≤a∧a<len):=fun {a}=>by omega
  dsimp only [GL,Alg.cl,Alg.cg,Alg.rb,Alg.bd,Alg.l1,Tup.q,Tup.o]
  simp (disch:=omega) only [RR,RB,hp1,hf1,TT,TU,hp4,hf4]
  refine⟨by omega,by omega,?_⟩
  rw [show bp (MO ops len i ((ops).getD (i).toNat default))=bp (_)from MC Rj]
  generalize ((ops).getD (i).toNat default)=o
  have go:∀ {c:Bool} {P:Prop},(c=true↔P)→(c,())=(bp P,()):=fun {c P} h=>Prod.ext (by dsimp only;rw [Bool.eq_iff_iff,bg];exact h) rfl
  refine⟨fun c=> ?_,fun c1=>⟨fun c=> ?_,fun c2=>⟨fun c=> ?_,fun c3=> ?_⟩⟩⟩
  · refine go ?_
    simp only [Bool.and_eq_true,decide_eq_true_eq,bg,dx,c,hX,hY,hK,evO,e]
    simp [and_assoc]
  · refine go ?_
    simp only [Bool.and_eq_true,decide_eq_true_eq,bg,dx,c,hX,hY,hK,evO,e]
    simp [and_assoc]
  · refine go ?_
    simp only [Bool.and_eq_true,decide_eq_true_eq,bg,dx,c,hX,hY,hK,evO,e]
    simp [and_assoc]
  · by_cases c4:o.kind=4∨o.kind=7
    · have c5:o.kind≠8:=by omega
      rcases c4 with c | c<;>simp (disch:=omega) only [RR,c,Int.reduceEq]<;>(refine go ?_)<;>simp only [Bool.and_eq_true,decide_eq_true_eq,bg,dx,c,hX,hY,hK,evO,e]<;>simp [and_assoc]
    · by_cases c:o.kind=5
      · simp (disch:=omega) only [RR,c,Int.reduceEq]
        refine go ?_
        simp only [Bool.and_eq_true,decide_eq_true_eq,bg,dx,c,hX,hY,hK,evO,e]
        simp [and_assoc]
      · by_cases c':o.kind=6
        · simp (disch:=omega) only [RR,c',Int.reduceEq]
          refine go ?_
          simp only [Bool.and_eq_true,decide_eq_true_eq,bg,dx,c',hX,hY,hK,evO,e]
          simp [and_assoc]
        · by_cases c8:o.kind=8
          · simp (disch:=omega) only [RR,c8,Int.reduceEq]
            refine go ?_
            simp only [Bool.and_eq_true,decide_eq_true_eq,bg,dx,c8,hX,hY,hK,evO,e]
            simp [and_assoc]
          · have n4:¬o.kind=4:=fun h=>c4 (Or.inl h)
            have n7:¬o.kind=7:=fun h=>c4 (Or.inr h)
            simp (disch:=omega) only [RR,n4,n7,c,c',c8]
            rw [fK (fun h=>by have:=h.1;omega)]
theorem abm {p4:Int×Unit→Bool} {f4:Int×Unit→Bool×Unit} (hp4:∀a,p4 (a,())=true) (hf4:∀a,f4 (a,())=(inB a 0 65535,()))
    {p3:List IOp×Int×Int×Unit→Bool} {f3:List IOp×Int×Int×Unit→Bool×Unit} (hp3:∀(ops:List IOp) (x n:Int),n≤ops.length→p3 (ops,x,n,())=true) (hf3:∀(ops:List IOp) (x n:Int),n≤ops.length→f3 (ops,x,n,())=(bp (Vl ops x n),()))
    (b:Blk):GN (std 0) p4 f4 p3 f3 (b,()) (fun y=>y=(bp (AQ b),())):=by
  have TT:=fun x=>hp3 b.ops x b.ops.length (Int.le_refl _)
  have TU:=fun x=>hf3 b.ops x b.ops.length (Int.le_refl _)
  dsimp only [GN,Alg.cl,Alg.cg,Alg.rb,Alg.bd,Alg.l1,Tup.q,Tup.o]
  simp (disch:=omega) only [RR,RB,TT,TU,hp4,hf4]
  rw [show bp (AQ b)=bp (_)from MC K7]
  have go:∀ {c:Bool} {P:Prop},(c=true↔P)→(c,())=(bp P,()):=fun {c P} h=>Prod.ext (by dsimp only;rw [Bool.eq_iff_iff,bg];exact h) rfl
  refine⟨fun c=> ?_,fun c1=>⟨fun c=> ?_,fun c2=> ?_⟩⟩
  · refine go ?_
    simp only [Bool.and_eq_true,decide_eq_true_eq,bg,dx,c]
    simp [and_assoc]
  · refine go ?_
    simp only [Bool.and_eq_true,decide_eq_true_eq,bg,dx,c]
    simp [and_assoc]
  · by_cases c:b.fin=3
    · simp (disch:=omega) only [RR,c,Int.reduceEq]
      refine go ?_
      simp only [Bool.and_eq_true,decide_eq_true_eq,bg,dx,c]
      simp [and_assoc]
    · by_cases c4:b.fin=4
      · simp (disch:=omega) only [RR,c4,Int.reduceEq]
        refine go ?_
        simp only [Bool.and_eq_true,decide_eq_true_eq,bg,dx,c4]
        simp [and_assoc]
      · simp (disch:=omega) only [RR,c,c4]
        rw [fK (fun h=>by have:=h.1;omega)]
theorem abn {p1:Int×Int×Int×Unit→Bool} {f1:Int×Int×Int×Unit→Bool×Unit} (hp1:∀a b c,p1 (a,b,c,())=true) (hf1:∀a b c,f1 (a,b,c,())=(inB a b c,()))
    {p2:Blk×Unit→Bool} {f2:Blk×Unit→Bool×Unit} (hp2:∀b,p2 (b,())=true) (hf2:∀b,f2 (b,())=(bp (AQ b),()))
    {p3:List IOp×Int×Int×Unit→Bool} {f3:List IOp×Int×Int×Unit→Bool×Unit} (hp3:∀(ops:List IOp) (i len:Int),0≤i→i<ops.length→1≤len∧len≤8→p3 (ops,i,len,())=true) (hf3:∀(ops:List IOp) (i len:Int),0≤i→i<ops.length→1≤len∧len≤8→f3 (ops,i,len,())=(bp (MO ops len i ((ops).getD (i).toNat default)),())) (b:Blk) (h2:b.ops.length<1000000000):
    GQ (std 0) p1 f1 p2 f2 p3 f3 (b,()) (fun y=>y=(bp (jw b),())):=by
  dsimp only [GQ,Alg.cl,Alg.cg,Alg.rb,Alg.bd,Alg.l1,Tup.q,Tup.o]
  simp (disch:=omega) only [RR,RB,hp1,hf1]
  by_cases hl:1≤b.len∧b.len≤8
  · have hl':=dx.2 hl
    simp (disch:=omega) only [RR,hl',dx,nC]
    refine⟨fun h=> ?_,fun h=> ?_⟩
    · rw [fK (fun g=> ?_)]
      have g1:=g.pc
      have g2:=g.sz
      omega
    · refine ay (fun(y:Int×Blk×Unit)=>y.2.1=b∧0≤y.1∧y.1≤b.ops.length∧All y.1 (fun i=>MO b.ops b.len i ((b.ops).getD (i).toNat default))) (fun y=>(b.ops.length-y.1).toNat) ⟨rfl,by simp,by simp,All.zero⟩ ?_
      rintro⟨(i:Int),(b':Blk),⟨⟩⟩ hI
      dsimp only at hI ⊢
      obtain⟨rfl,h3,h4,h5⟩:=hI
      simp (disch:=omega) only [RR,hp2 b',hf2 b']
      refine⟨fun h6=>⟨hp3 b'.ops i b'.len h3 h6 hl,?_⟩,fun h6=> ?_⟩
      · rw [hf3 b'.ops i b'.len h3 h6 hl]
        dsimp only
        refine⟨fun h7=> ?_,fun h7=>⟨⟨by omega,by omega,h5.snoc (bg.1 h7)⟩,by omega⟩⟩
        rw [fK (fun g=>lT.1 h7 (g.op i h3 h6))]
      · by_cases he:AQ b'
        · rw [eF he,eF (show jw b' from⟨hl,by omega,by omega,fun j j1 j2=>h5 j j1 (by omega),he⟩)]
        · rw [fK he,fK (fun g=>he g.en)]
  · have hl':=nC.2 hl
    simp (disch:=omega) only [RR,hl']
    rw [fK (fun g=>hl g.ln)]
    exact⟨rfl,fun h=>h.1.1.elim⟩
theorem agV {p4:Int×Unit→Bool} {f4:Int×Unit→Bool×Unit} (hp4:∀a,p4 (a,())=true) (hf4:∀a,f4 (a,())=(inB a 0 65535,())) (r a b:Int):
    Qd (std 0) p4 f4 (r,a,b,()) (fun y=>y=(inB a 0 65535&&inB b 0 65535&& (decide (r=1∧a=b∨r=2∧a<b)),())):=by
  dsimp only [Qd,Alg.cl,Alg.cg,Alg.rb,Alg.bd,Alg.l1,Tup.q,Tup.o]
  simp (disch:=omega) only [RR,hp4,hf4]
  refine Prod.ext ?_ rfl
  rw [Bool.eq_iff_iff];simp
theorem agW {p1:List aj×Unit→Bool} {f1:List aj×Unit→List aj×Unit} (hp1:∀a,Sh a→p1 (a,())=true) (hf1:∀a,Sh a→f1 (a,())=(a,())) (a:List (List aj)) (ha:ShP a):
    P7 (std 0) p1 f1 (a,()) (fun y=>y=(a,())):=by
  have hlen:=ha.1
  dsimp only [P7,Alg.cl,Alg.cg,Alg.rb,Alg.bd,Alg.l1,Tup.q,Tup.o]
  refine ay (fun(y:List (List aj)×Int×Int×List (List aj)×Unit)=>y.1=a∧y.2.1=a.length∧y.2.2.2.1=a.take y.2.2.1.toNat∧0≤y.2.2.1∧y.2.2.1≤a.length) (fun y=>(a.length-y.2.2.1).toNat) ⟨rfl,rfl,by simp,by simp,by simp⟩ ?_
  rintro⟨(l:List (List aj)),(m:Int),(i:Int),(o:List (List aj)),⟨⟩⟩ hI
  dsimp only at hI ⊢
  obtain⟨rfl,rfl,rfl,h1,h2⟩:=hI
  simp (disch:=omega) only [RR,hp1 _ (ha.at _),hf1 _ (ha.at _)]
  refine⟨fun h4=>⟨by omega,by omega,?_,⟨dO h1 h4 rfl,by omega,by omega⟩,by omega⟩,fun h4=>by rw [List.take_of_length_le (by omega)]⟩
  have:=List.length_take_le' i.toNat l
  simp only [List.length_cons,List.length_nil];omega
theorem agX {p1:List aj×Unit→Bool} {f1:List aj×Unit→List aj×Unit} (hp1:∀a,Sh a→p1 (a,())=true) (hf1:∀a,Sh a→f1 (a,())=(a,()))
    {p2:List (List aj)×Unit→Bool} {f2:List (List aj)×Unit→List (List aj)×Unit} (hp2:∀a,ShP a→p2 (a,())=true) (hf2:∀a,ShP a→f2 (a,())=(a,())) (s:Sym) (hs:ShY s):
    P8 (std 0) p1 f1 p2 f2 (s,()) (fun y=>y=(s.fin,s.k,s.events,s.regs,s.x,s.y,())):=by
  have hlen:=hs.e.1
  dsimp only [P8,Alg.cl,Alg.cg,Alg.rb,Alg.bd,Alg.l1,Tup.q,Tup.o]
  simp (disch:=omega) only [RR,RB,hp1 _ hs.x,hf1 _ hs.x,hp1 _ hs.y,hf1 _ hs.y,hp2 _ hs.r,hf2 _ hs.r]
  refine ay (fun(y:List Ev×Int×Int×Int×Int×Int×Int×List Ev×List (List aj)×List aj×List aj×Unit)=>y.1=s.events∧y.2.1=s.events.length∧y.2.2.2.2.2.1=s.fin∧y.2.2.2.2.2.2.1=s.k∧y.2.2.2.2.2.2.2.1=s.events.take y.2.2.1.toNat∧y.2.2.2.2.2.2.2.2.1=s.regs∧y.2.2.2.2.2.2.2.2.2.1=s.x∧y.2.2.2.2.2.2.2.2.2.2.1=s.y∧0≤y.2.2.1∧y.2.2.1≤s.events.length) (fun y=>(s.events.length-y.2.2.1).toNat) ⟨rfl,rfl,rfl,rfl,by simp,rfl,rfl,rfl,by simp,by simp⟩ ?_
  rintro⟨(l:List Ev),(m:Int),(i:Int),(q1:Int),(q2:Int),(q3:Int),(q4:Int),(o:List Ev),(r:List (List aj)),(u:List aj),(v:List aj),⟨⟩⟩ hI
  dsimp only at hI ⊢
  obtain⟨rfl,rfl,rfl,rfl,rfl,rfl,rfl,rfl,h1,h2⟩:=hI
  have he:=hs.e.at i.toNat
  simp (disch:=omega) only [RR,RB,hp1 _ he.1,hf1 _ he.1,hp1 _ he.2.1,hf1 _ he.2.1,hp2 _ he.2.2,hf2 _ he.2.2]
  refine⟨fun h4=>⟨by omega,by omega,?_,⟨dO h1 h4 rfl,by omega,by omega⟩,by omega⟩,fun h4=>by rw [List.take_of_length_le (by omega)]⟩
  have:=List.length_take_le' i.toNat s.events
  simp only [List.length_cons,List.length_nil];omega
end Go.TX.F
namespace Go.TX.F
open Go Go.AE Go.TX
theorem agY {p1:Int×Unit→Bool} {f1:Int×Unit→List aj×Unit} (hp1:∀n,p1 (n,())=true) (hf1:∀n,f1 (n,())=(fG n,()))
    {p2:List Atom×Atom×Unit→Bool} {f2:List Atom×Atom×Unit→List Atom×Int×Unit} (hp2:∀(t:List Atom) a,t.length<1000000000→ShA a→p2 (t,a,())=true) (hf2:∀(t:List Atom) a,t.length<1000000000→ShA a→f2 (t,a,())=((bD t a).1,(bD t a).2,()))
    (kd k:Int) (t:List Atom) (fl:Bool) (ht:t.length<1000000000):
    QF (std 0) p1 f1 p2 f2 (kd,k,t,fl,()) (fun y=>y=if(bD t ⟨kd,k,[],[]⟩).2<0 then([],t,true,())else(fG (bD t ⟨kd,k,[],[]⟩).2,(bD t ⟨kd,k,[],[]⟩).1,fl,())):=by
  have sa:ShA ⟨kd,k,[],[]⟩:=⟨jv,jv⟩
  dsimp only [QF,Alg.cl,Alg.cg,Alg.rb,Alg.bd,Alg.l1,Tup.q,Tup.o]
  simp (disch:=omega) only [RR,hp1,hf1,hp2 _ _ ht sa,hf2 _ _ ht sa]
  exact⟨fun h=>by rw [if_pos h],fun h=>by rw [if_neg h]⟩
theorem Wm (t:List Atom) (n:Nat):rN t (n+1)=((bD (rN t n).1 ⟨1,n,[],[]⟩).1,(rN t n).2++ [fG (bD (rN t n).1 ⟨1,n,[],[]⟩).2]):=rfl
theorem agZ {p1:Int×Int×List Atom×Bool×Unit→Bool} {f1:Int×Int×List Atom×Bool×Unit→List aj×List Atom×Bool×Unit} (hp1:∀kd k (t:List Atom) fl,t.length<1000000000→p1 (kd,k,t,fl,())=true)
    (hf1:∀kd k (t:List Atom) fl,t.length<1000000000→f1 (kd,k,t,fl,())=if(bD t ⟨kd,k,[],[]⟩).2<0 then([],t,true,())else(fG (bD t ⟨kd,k,[],[]⟩).2,(bD t ⟨kd,k,[],[]⟩).1,fl,()))
    (t:List Atom) (fl:Bool) (ht:aJ t) (hl:t.length≤196):QG (std 0) p1 f1 (t,fl,()) (fun y=>y=((rN t 4).1,fl,(rN t 4).2,())):=by
  dsimp only [QG,Alg.cl,Alg.cg,Alg.rb,Alg.bd,Alg.l1,Tup.q,Tup.o]
  refine ay (fun(y:Int×List Atom×Bool×List (List aj)×Unit)=>0≤y.1∧y.1≤4∧y.2.2.1=fl∧y.2.1=(rN t y.1.toNat).1∧y.2.2.2.1=(rN t y.1.toNat).2) (fun y=>(4-y.1).toNat) ⟨by simp,by simp,rfl,rfl,rfl⟩ ?_
  rintro⟨(i:Int),(u:List Atom),(g:Bool),(r:List (List aj)),⟨⟩⟩ hI
  dsimp only at hI ⊢
  obtain⟨h1,h2,rfl,rfl,rfl⟩:=hI
  have ok:=KZ ht hl i.toNat (by omega)
  have l1:=ok.tl
  have l2:=ok.r4
  simp (disch:=omega) only [RR,hp1 _ _ (rN t i.toNat).1 _ (by omega),hf1 _ _ (rN t i.toNat).1 _ (by omega),List.length_cons,List.length_nil]
  refine⟨fun h3=> ?_,fun h3=> ?_⟩
  · have hp:=MR ht hl (n:=i.toNat) (by omega)
    rw [show((i.toNat:Nat):Int)=i by omega]at hp
    rw [if_neg (by omega)]
    have e:(i+1).toNat=i.toNat+1:=by omega
    have e2:((i.toNat:Nat):Int)=i:=by omega
    refine⟨by omega,⟨by omega,by omega,rfl,?_,?_⟩,by omega⟩
    · rw [e,Wm,e2]
    · rw [e,Wm,e2]
  · rw [show i.toNat=4 by omega]
theorem ag0 (a:List (List aj)) (h0:0<a.length) (h1:a.length<1000000000):QI (std 0) (a,()) (fun y=>y=(a,a,())):=by
  dsimp only [QI,Alg.cl,Alg.cg,Alg.rb,Alg.bd,Alg.l1,Tup.q,Tup.o]
  simp (disch:=omega) only [RR,List.length_nil]
  exact⟨by omega,by omega,rfl⟩
theorem ag1 {p1:List aj×Unit→Bool} {f1:List aj×Unit→Int×Bool×Unit} (hp1:∀a,Sh a→p1 (a,())=true) (hf1:∀a,Sh a→f1 (a,())=((dP a).1,(dP a).2,()))
    {p2:List aj×Unit→Bool} {f2:List aj×Unit→Bool×Unit} (hp2:∀a,Sh a→p2 (a,())=true) (hf2:∀a,Sh a→f2 (a,())=(bp (aN a),()))
    {p3:List aj×List aj×Unit→Bool} {f3:List aj×List aj×Unit→Int×Unit} (hp3:∀a b,Sh a→p3 (a,b,())=true) (hf3:∀a b,Sh a→f3 (a,b,())=(gX a b,()))
    {p4:Sym×Unit→Bool} {f4:Sym×Unit→Int×Int×List Ev×List (List aj)×List aj×List aj×Unit} (hp4:∀s,ShY s→p4 (s,())=true) (hf4:∀s,ShY s→f4 (s,())=(s.fin,s.k,s.events,s.regs,s.x,s.y,()))
    {p5:List aj×List aj×Unit→Bool} {f5:List aj×List aj×Unit→Bool×Unit} (hp5:∀a b,Sh a→p5 (a,b,())=true) (hf5:∀a b,Sh a→f5 (a,b,())=(decide (gX a b=0),()))
    {p6:Int×Int×Int×Unit→Bool} {f6:Int×Int×Int×Unit→Bool×Unit} (hp6:∀r a b,p6 (r,a,b,())=true) (hf6:∀r a b,f6 (r,a,b,())=(inB a 0 65535&&inB b 0 65535&& (decide (r=1∧a=b∨r=2∧a<b)),()))
    (s:Sym) (n:Int) (hs:ShY s) (h0:0≤s.fin) (h1:s.fin≤4):Qe (std 0) p1 f1 p2 f2 p3 f3 p4 f4 p5 f5 p6 f6 (s,n,()) (fun y=>y=(symEnd s n,())):=by
  dsimp only [Qe,Alg.cl,Alg.cg,Alg.rb,Alg.bd,Alg.l1,Tup.q,Tup.o]
  simp (disch:=omega) only [RR,RB,hp1 _ hs.x,hf1 _ hs.x,hp1 _ hs.y,hf1 _ hs.y,hp2 _ hs.x,hf2 _ hs.x,hp2 _ hs.y,hf2 _ hs.y,hp3 _ _ hs.x,hf3 _ _ hs.x,hp4 s hs,hf4 s hs,hp5 _ _ hs.x,hf5 _ _ hs.x,hp6,hf6]
  have xy:gX s.x s.y=0↔s.x=s.y:=Dq
  have rx:(dP s.x).2=true→inB (dP s.x).1 0 65535=true:=fun h=>dx.2 (Jv h).2.2
  have ry:(dP s.y).2=true→inB (dP s.y).1 0 65535=true:=fun h=>dx.2 (Jv h).2.2
  unfold symEnd
  refine⟨fun h=> ?_,fun h=>⟨fun g=> ?_,fun g=>⟨fun k=> ?_,fun k=>⟨fun l=>⟨fun m=> ?_,fun m=> ?_⟩,fun l=>⟨fun m=> ?_,fun m=> ?_⟩⟩⟩⟩⟩
  · rw [if_pos (by rw [Jm,Bool.and_eq_false_iff];exact h)];rfl
  all_goals rw [if_neg (by rw [Jm,h.1,h.2];simp)]
  · rw [if_pos g]
  all_goals rw [if_neg (show¬(s.fin=2∧(dP s.x).2=true) by
    rintro⟨a,b⟩;rw [decide_eq_true a,b]at g;cases g)]
  · rw [if_pos k]
  all_goals rw [if_neg (show¬(s.fin≠3∧s.fin≠4) by
    rintro⟨a,b⟩;rw [decide_eq_false a,decide_eq_false b]at k;cases k)]
  · rw [if_pos (by rw [←xy];exact l),if_neg]
    rintro(⟨q1,q2⟩ | ⟨⟨q1,q2⟩,q3⟩)
    · have:=m.1;rw [decide_eq_true (xy.2 q1),decide_eq_true q2]at this;cases this
    · have:=m.2
      rw [q1,q2,rx q1,ry q2,decide_eq_true (by omega)]at this;cases this
  · rw [if_pos (by rw [←xy];exact l),if_pos]
    rcases m with⟨q1,q2⟩ | ⟨q1,_,q3⟩
    · exact Or.inl ⟨xy.1 q1,q2⟩
    · exact Or.inr ⟨q1,by omega⟩
  all_goals rw [if_neg (show¬(s.x=s.y∨(dP s.x).2=true∧(dP s.y).2=true) by
    rintro(q | ⟨q1,q2⟩)
    · exact l.1 (xy.2 q)
    · have:=l.2;rw [q1,q2]at this;cases this)]
  · rw [if_pos m]
  · rw [if_neg]
    rintro⟨a,b⟩;rw [decide_eq_true a,decide_eq_true b]at m;cases m
end Go.TX.F
namespace Go.TX.F
open Go Go.AE Go.TX
noncomputable def SW (t:List Atom) (b:Blk) (i:Nat):SS:=(b.ops.take i).foldl stp (s0 t)
structure At (t:List Atom) (b:Blk) (i:Nat) (ld inn:Int) (tb:List Atom) (V:List (List aj)) (ev:List Ev) (rg:List (List aj)):Prop where
  ld:ld=(SW t b i).ld
  inn:inn=(SW t b i).inn
  tb:tb=(SW t b i).t
  V:V=(SW t b i).vals++List.replicate (b.ops.length-i) []
  ev:ev=(SW t b i).evs
  rg:rg=(SW t b i).regs
theorem At.arI {t:List Atom} {b:Blk} {i:Nat} {ld inn:Int} {tb:List Atom} {V:List (List aj)} {ev:List Ev} {rg:List (List aj)} (h:At t b i ld inn tb V ev rg) (hv:(SW t b i).vals.length=i) (hi:i≤b.ops.length):V.length=b.ops.length:=by
  rw [h.V,List.length_append,List.length_replicate,hv];omega
theorem Wn (t:List Atom):∀(l:List IOp) (s:SS),(l.foldl stp s).evs.length≤s.evs.length+l.length
  | [],s=>Nat.le_refl _
  | o::r,s=>by
    rw [List.foldl_cons,List.length_cons]
    have h1:=Wn t r (stp s o)
    have h2:(stp s o).evs.length≤s.evs.length+1:=by
      show(nE s o).length≤_
      unfold nE;split
      · rw [List.length_append];exact Nat.le_refl _
      · omega
    omega
theorem amy {t:List Atom} {b:Blk} (i:Nat) (hi:i≤b.ops.length):(SW t b i).evs.length≤i:=by
  have:=Wn t (b.ops.take i) (s0 t)
  rw [List.length_take,Nat.min_eq_left hi]at this
  show((b.ops.take i).foldl stp (s0 t)).evs.length≤i
  have e:(s0 t).evs.length=0:=rfl
  omega
theorem afq {t:List Atom} {b:Blk} {i:Nat} (hi:i<b.ops.length):SW t b (i+1)=stp (SW t b i) (b.ops.getD i default):=by
  unfold SW;rw [TS _ _ hi,getD_lt hi]
theorem At.next {t:List Atom} {b:Blk} {i:Nat} {ld inn:Int} {tb:List Atom} {V:List (List aj)} {ev:List Ev} {rg:List (List aj)} (h:At t b i ld inn tb V ev rg) (hv:(SW t b i).vals.length=i) (hi:i<b.ops.length) {o:IOp} (ho:b.ops.getD i default=o)
    {ld' abo:Int} {tb':List Atom} {V':List (List aj)} {ev':List Ev} {rg':List (List aj)} (h1:ld'=if o.kind=4 then ld+1 else ld) (h2:abo=if o.kind=6 then inn+1 else inn) (h3:tb'=nT (SW t b i) o) (h4:V'=V.set i (nV (SW t b i) o)) (h5:ev'=nE (SW t b i) o) (h6:rg'=nR (SW t b i) o):At t b (i+1) ld' abo tb' V' ev' rg':=by
  have e:=afq (t:=t) hi
  rw [ho]at e
  refine⟨?_,?_,?_,?_,?_,?_⟩<;>rw [e]
  · rw [h1,h.ld];rfl
  · rw [h2,h.inn];rfl
  · exact h3
  · rw [h4,h.V]
    show _=((SW t b i).vals++ [nV (SW t b i) o])++_
    rw [List.set_append_right _ _ (by omega),hv,Nat.sub_self,show b.ops.length-i=(b.ops.length- (i+1))+1 by omega,List.replicate_succ,List.set_cons_zero,List.append_assoc];rfl
  · exact h5
  · exact h6
set_option maxHeartbeats 1000000 in
theorem ag2 {p1:Blk×Unit→Bool} {f1:Blk×Unit→Bool×Bool×Bool×Unit} (hp1:∀b,p1 (b,())=true) (hf1:∀b,f1 (b,())=(decide (b.fin≠1),decide (3≤b.fin),decide (b.fin≠2),()))
    {p2:Blk×Unit→Bool} {f2:Blk×Unit→Bool×Unit} (hp2:∀b,b.ops.length<1000000000→p2 (b,())=true) (hf2:∀b,b.ops.length<1000000000→f2 (b,())=(bp (jw b),()))
    {p3:IOp×Unit→Bool} {f3:IOp×Unit→Bool×Unit} (hp3:∀o,p3 (o,())=true) (hf3:∀o,f3 (o,())=(decide (evO o),()))
    {p4:IOp×Unit→Bool} {f4:IOp×Unit→Bool×Bool×Bool×Bool×Unit} (hp4:∀o,p4 (o,())=true) (hf4:∀o,f4 (o,())=(decide (hX o),decide (hY o),decide (hK o),decide (evO o),()))
    {p5:Int×Unit→Bool} {f5:Int×Unit→List aj×Unit} (hp5:∀n,p5 (n,())=true) (hf5:∀n,f5 (n,())=(dI n,()))
    {p6:Sym×Int×Unit→Bool} {f6:Sym×Int×Unit→Sym×Unit} (hp6:∀s n,ShY s→0≤s.fin→s.fin≤4→p6 (s,n,())=true) (hf6:∀s n,ShY s→0≤s.fin→s.fin≤4→f6 (s,n,())=(symEnd s n,()))
    {p7:List Atom×Unit→Bool} {f7:List Atom×Unit→Bool×Unit} (hp7:∀a,ShT a→p7 (a,())=true) (hf7:∀a,ShT a→f7 (a,())=(bp (aJ a),()))
    {p8:List Atom×Unit→Bool} {f8:List Atom×Unit→List Atom×Unit} (hp8:∀a,ShT a→p8 (a,())=true) (hf8:∀a,ShT a→f8 (a,())=(a,()))
    {p9:List Atom×Int×List aj×List aj×Unit→Bool} {f9:List Atom×Int×List aj×List aj×Unit→List Atom×List aj×Bool×Unit} (hp9:∀(t:List Atom) op x y,t.length<1000000000→Sh x→Sh y→p9 (t,op,x,y,())=true)
    (hf9:∀(t:List Atom) op x y,t.length<1000000000→Sh x→Sh y→(f9 (t,op,x,y,())).1=(tDo t op x y).1∧(f9 (t,op,x,y,())).2.1=(tDo t op x y).2∧(f9 (t,op,x,y,())).2.2.1=tOk t op x y)
    {p10:Int×Int×List Atom×Bool×Unit→Bool} {f10:Int×Int×List Atom×Bool×Unit→List aj×List Atom×Bool×Unit} (aqf:∀kd k (t:List Atom) fl,t.length<1000000000→p10 (kd,k,t,fl,())=true)
    (arJ:∀kd k (t:List Atom) fl,t.length<1000000000→f10 (kd,k,t,fl,())=if(bD t ⟨kd,k,[],[]⟩).2<0 then([],t,true,())else(fG (bD t ⟨kd,k,[],[]⟩).2,(bD t ⟨kd,k,[],[]⟩).1,fl,()))
    {p11:List Atom×Bool×Unit→Bool} {f11:List Atom×Bool×Unit→List Atom×Bool×List (List aj)×Unit} (arK:∀(t:List Atom) fl,aJ t→t.length≤196→p11 (t,fl,())=true) (arL:∀(t:List Atom) fl,aJ t→t.length≤196→f11 (t,fl,())=((rN t 4).1,fl,(rN t 4).2,()))
    {p12:List (List aj)×Unit→Bool} {f12:List (List aj)×Unit→List (List aj)×List (List aj)×Unit} (aqg:∀a:List (List aj),0<a.length→a.length<1000000000→p12 (a,())=true) (aqh:∀a:List (List aj),0<a.length→a.length<1000000000→f12 (a,())=(a,a,()))
    (t:List Atom) (b:Blk) (ht:ShT t) (hb:b.ops.length<1000000000):Q7 (std 0) p1 f1 p2 f2 p3 f3 p4 f4 p5 f5 p6 f6 p7 f7 p8 f8 p9 f9 p10 f10 p11 f11 p12 f12 (t,b,()) (fun y=>y=((cB t b).1,(cB t b).2,())):=by
  have hlt:=ht.1
  dsimp only [Q7,Alg.cl,Alg.cg,Alg.rb,Alg.bd,Alg.l1,Tup.q,Tup.o]
  simp (disch:=omega) only [RR,RB,hp7 t ht,hf7 t ht,hp2 b hb,hf2 b hb]
  by_cases c:aJ t∧t.length≤100∧jw b
  case neg=>
    refine⟨fun _=> ?_,fun h=> ?_⟩
    · unfold cB;rw [fK c];rfl
    · exact absurd ⟨bg.1 h.1.1,by omega,bg.1 h.2⟩ c
  obtain⟨c1,c2,c3⟩:=c
  simp (disch:=omega) only [RR,eF c1,eF c3,arK t false c1 (by omega),arL t false c1 (by omega)]
  have sz:=c3.sz
  have hop:=c3.op
  have hk3:=c3.k3
  have i0:=Rh c1 (by omega)
  have siw:∀j:Nat,j≤b.ops.length→SI (t.length+4) j (SW t b j):=fun j hj=>by
    have:=(Dt (b.ops.take j) 0 (s0 t) i0 (fun o ho=>hk3 o (List.mem_of_mem_take ho)) (by rw [List.length_take];omega) (by rw [List.length_take];omega)).1
    rw [List.length_take,Nat.min_eq_left hj,Nat.zero_add]at this;exact this
  refine⟨fun h=>absurd h (by omega),fun _=>⟨by omega,by omega,?_⟩⟩
  refine ay (fun(y:Int×Int×List IOp×Int×Int×Blk×Int×Int×List Atom×Bool×Int×Int×List (List aj)×List Ev×List (List aj)×Unit)=>y.2.2.2.2.2.1=b∧y.2.2.1=b.ops∧y.2.2.2.1=b.ops.length∧y.2.2.2.2.2.2.2.2.2.1=false∧y.2.2.2.2.2.2.2.2.2.2.1=b.fin∧y.2.2.2.2.2.2.2.2.2.2.2.1=b.k∧
      0≤y.2.2.2.2.1∧y.2.2.2.2.1≤b.ops.length∧At t b y.2.2.2.2.1.toNat y.1 y.2.1 y.2.2.2.2.2.2.2.2.1 y.2.2.2.2.2.2.2.2.2.2.2.2.1 y.2.2.2.2.2.2.2.2.2.2.2.2.2.1 y.2.2.2.2.2.2.2.2.2.2.2.2.2.2.1) (fun y=>(b.ops.length-y.2.2.2.2.1).toNat)
    ⟨rfl,rfl,rfl,rfl,rfl,rfl,by simp,by simp,⟨rfl,rfl,rfl,rfl,rfl,rfl⟩⟩ ?_
  rintro⟨(ld:Int),(inn:Int),(ops:List IOp),(n:Int),(i:Int),(b':Blk),(z1:Int),(z2:Int),(tb:List Atom),(fl:Bool),(fin:Int),(kk:Int),(V:List (List aj)),(ev:List Ev),(rg:List (List aj)),⟨⟩⟩ hI
  dsimp only at hI ⊢
  obtain⟨e1,e2,e3,e4,e5,e6,h1,h2,hA⟩:=hI
  subst e1 e2 e3 e4 e5 e6
  have hl:V.length=b'.ops.length:=hA.arI (siw i.toNat (by omega)).vl (by omega)
  have si:=siw i.toNat (by omega)
  obtain⟨a1,a2,a3,a4,a5,a6⟩:=hA
  have tl:tb.length<1000000000:=by rw [a3];have:=si.tl;omega
  have r4:rg.length=4:=by rw [a6];exact si.r4
  have evl:ev.length≤i.toNat:=by rw [a5];exact amy i.toNat (by omega)
  by_cases h7:i<b'.ops.length
  case neg=>
    have en:=c3.en
    have hf:=en.f
    have hpc:=c3.pc
    have hln:=c3.ln
    have ein:i.toNat=b'.ops.length:=by omega
    have eS:SW t b' i.toNat=mg t b':=by unfold SW mg;rw [ein,List.take_of_length_le (Nat.le_refl _)]
    rw [eS]at a1 a2 a3 a4 a5 a6 si
    have eV:V=(mg t b').vals:=by rw [a4,ein,Nat.sub_self];simp
    clear a4
    have pk:=Wj (b:=b') si
    have eR:=zC c1 c2 c3
    have sh:ShY (JF b' (mg t b')):=by
      have i0:=Rh c1 (by omega)
      have hs:=TR b'.ops 0 (s0 t) i0 hk3 (by omega) (by omega) ⟨by simp [s0],fun e he=>absurd he (by simp [s0])⟩
      exact⟨⟨by have:=hs.1;show(b'.ops.foldl stp (s0 t)).evs.length<_;omega,hs.2⟩,si.regs,pk.1.sh,pk.2.sh⟩
    have st:=si.tok.sh
    have q6:=hp6 (JF b' (mg t b')) (b'.pc+b'.len) sh (by show 0≤b'.fin;omega) hf.2
    have r6:=hf6 (JF b' (mg t b')) (b'.pc+b'.len) sh (by show 0≤b'.fin;omega) hf.2
    subst a1 a2 a3 a5 a6 eV
    have x1:=en.x1
    have y1:=en.y1
    have sl:=si.vl
    have E:JF b' (mg t b')=⟨(mg t b').evs,(mg t b').regs,b'.fin,if b'.fin=1 then []else(((mg t b').vals).getD (b'.x).toNat default),if 3≤b'.fin then(((mg t b').vals).getD (b'.y).toNat default)else [],b'.k⟩:=rfl
    rw [E]at q6 r6
    rcases(by omega:b'.fin=1∨b'.fin=2∨3≤b'.fin)with c | c | c
    · have n2:¬3≤b'.fin:=by omega
      rw [if_pos c,if_neg n2]at q6 r6
      simp (disch:=omega) only [RR,RB,h7,hp1,hf1,decide_eq_false n2,c,ne_eq,not_true_eq_false,decide_false,hp8 _ st,hf8 _ st]
      rw [c]at q6 r6
      rw [eR,E,if_pos c,if_neg n2,c]
      exact⟨fun h=>absurd h (by omega),fun _=>⟨q6,by rw [r6]⟩⟩
    · have n1:b'.fin≠1:=by omega
      have n2:¬3≤b'.fin:=by omega
      obtain⟨v1,v2,_⟩:=x1 n1
      rw [if_neg n1,if_neg n2]at q6 r6
      simp (disch:=omega) only [RR,RB,h7,hp1,hf1,decide_eq_true n1,decide_eq_false n2,hp8 _ st,hf8 _ st]
      rw [eR,E,if_neg n1,if_neg n2]
      exact⟨v1,by omega,v1,by omega,q6,by rw [r6]⟩
    · have n1:b'.fin≠1:=by omega
      obtain⟨v1,v2,_⟩:=x1 n1
      obtain⟨w1,w2,_⟩:=y1 c
      rw [if_neg n1,if_pos c]at q6 r6
      simp (disch:=omega) only [RR,RB,h7,hp1,hf1,decide_eq_true n1,decide_eq_true c,hp8 _ st,hf8 _ st]
      rw [eR,E,if_neg n1,if_pos c]
      exact⟨v1,by omega,v1,by omega,w1,by omega,w1,by omega,q6,by rw [r6]⟩
  have hok:=hop i h1 h7
  have nxt:=fun {ld' abo:Int} {tb':List Atom} {V':List (List aj)} {ev':List Ev} {rg':List (List aj)}=>At.next (t:=t) (b:=b') (i:=i.toNat) (o:=((b'.ops).getD (i).toNat default)) ⟨a1,a2,a3,a4,a5,a6⟩ si.vl (by omega) rfl (ld':=ld') (abo:=abo) (tb':=tb') (V':=V') (ev':=ev') (rg':=rg')
  have ei:(i+1).toNat=i.toNat+1:=by omega
  have vx:∀j:Int,0≤j→j<i→((V).getD (j).toNat default)=(((SW t b' i.toNat).vals).getD (j).toNat default):=fun j j1 j2=>by
    have:=si.vl
    rw [a4,getD_lt (by rw [List.length_append];omega),getD_lt (by omega),List.getElem_append_left]
  have ex:hX ((b'.ops).getD (i).toNat default)→((V).getD ((((b'.ops).getD (i).toNat default)).x).toNat default)=xOf (SW t b' i.toNat) ((b'.ops).getD (i).toNat default):=fun h=>by
    unfold xOf;rw [if_pos h];exact vx _ (hok.x1 h).1 (hok.x1 h).2.1
  have ey:hY ((b'.ops).getD (i).toNat default)→((V).getD ((((b'.ops).getD (i).toNat default)).y).toNat default)=yOf (SW t b' i.toNat) ((b'.ops).getD (i).toNat default):=fun h=>by
    unfold yOf;rw [if_pos h];exact vx _ (hok.y1 h).1 (hok.y1 h).2.1
  have v0:V.set i.toNat []=V:=by
    have:=si.vl
    rw [a4,List.set_append_right _ _ (by omega),this,Nat.sub_self,show b'.ops.length-i.toNat=(b'.ops.length- (i.toNat+1))+1 by omega,List.replicate_succ,List.set_cons_zero]
  obtain⟨sn,so⟩:=MQ (o:=((b'.ops).getD (i).toNat default)) si hok.k3 (by omega) (by omega)
  have gl:=si.ld
  have gi:=si.inn
  have shx:=(si.x ((b'.ops).getD (i).toNat default)).1.sh
  have shy:=(si.y ((b'.ops).getD (i).toNat default)).1.sh
  generalize hs:SW t b' i.toNat=s at*
  generalize ho:((b'.ops).getD (i).toNat default)=o at*
  have kd:=hok.kd
  subst a1 a2 a3 a5 a6
  have L0:o.kind≠4→s.ld=if o.kind=4 then s.ld+1 else s.ld:=fun h=>by rw [if_neg h]
  have I0:o.kind≠6→s.inn=if o.kind=6 then s.inn+1 else s.inn:=fun h=>by rw [if_neg h]
  have T0:o.kind≠3→o.kind≠4→o.kind≠6→s.t=nT s o:=fun h3 h4 h6=>by unfold nT;rw [if_neg h3,if_neg (by omega)]
  have R0:o.kind≠8→s.regs=nR s o:=fun h=>by unfold nR;rw [if_neg h]
  have E0:¬evO o→s.evs=nE s o:=fun h=>by unfold nE;rw [if_neg h]
  have V0:o.kind=5∨o.kind=7∨o.kind=8→V=V.set i.toNat (nV s o):=fun h=>by
    rw [show nV s o=[] by unfold nV;rw [if_neg (by omega),if_neg (by omega),if_neg (by omega),if_neg (by omega)],v0]
  have P0:∀kd k,0≤(bD s.t ⟨kd,k,[],[]⟩).2→f10 (kd,k,s.t,false,())=(fG (bD s.t ⟨kd,k,[],[]⟩).2,(bD s.t ⟨kd,k,[],[]⟩).1,false,()):=fun kd k h=>by
    rw [arJ _ _ _ _ tl,if_neg (by omega)]
  have y0:¬hY o→yOf s o=[]:=fun h=>by unfold yOf;rw [if_neg h]
  have x0:¬hX o→xOf s o=[]:=fun h=>by unfold xOf;rw [if_neg h]
  rcases(by omega:o.kind=1∨o.kind=2∨o.kind=3∨o.kind=4∨o.kind=5∨o.kind=6∨o.kind=7∨o.kind=8)with c | c | c | c | c | c | c | c
  · have dX:decide (hX o)=false:=decide_eq_false (by unfold hX;omega)
    have dY:decide (hY o)=false:=decide_eq_false (by unfold hY;omega)
    have dE:decide (evO o)=false:=decide_eq_false (by unfold evO;omega)
    have N:At t b' (i.toNat+1) s.ld s.inn s.t (V.set i.toNat (dI o.k)) s.evs s.regs:=nxt (L0 (by omega)) (I0 (by omega)) (T0 (by omega) (by omega) (by omega)) (by unfold nV;rw [if_pos c]) (E0 (by unfold evO;omega)) (R0 (by omega))
    simp (disch:=omega) only [RR,RB,ho,h7,hp4,hf4,hp3,hf3,dX,dY,dE,c,Int.reduceEq,List.length_cons,List.length_nil,hp5,hf5]
    repeat' apply And.intro
    all_goals first | omega | (rw [ei];exact N)
  · have dX:decide (hX o)=false:=decide_eq_false (by unfold hX;omega)
    have dY:decide (hY o)=false:=decide_eq_false (by unfold hY;omega)
    have dE:decide (evO o)=false:=decide_eq_false (by unfold evO;omega)
    have k2:=hok.k2 (Or.inl c)
    have N:At t b' (i.toNat+1) s.ld s.inn s.t (V.set i.toNat ((s.regs).getD (o.k).toNat default)) s.evs s.regs:=nxt (L0 (by omega)) (I0 (by omega)) (T0 (by omega) (by omega) (by omega)) (by unfold nV;rw [if_neg (by omega),if_pos c]) (E0 (by unfold evO;omega)) (R0 (by omega))
    simp (disch:=omega) only [RR,RB,ho,h7,hp4,hf4,hp3,hf3,dX,dY,dE,c,Int.reduceEq,List.length_cons,List.length_nil,r4]
    repeat' apply And.intro
    all_goals first | omega | (rw [ei];exact N)
  · have dX:decide (hX o)=true:=decide_eq_true (by unfold hX;omega)
    have dY:decide (hY o)=true:=decide_eq_true (by unfold hY;omega)
    have dE:decide (evO o)=false:=decide_eq_false (by unfold evO;omega)
    have v1:=hok.x1 (by unfold hX;omega)
    have v2:=hok.y1 (by unfold hY;omega)
    have u1:=v1.2.1
    have u2:=v2.2.1
    have w1:=v1.1
    have w2:=v2.1
    obtain⟨d1,d2,d3⟩:=hf9 s.t o.k _ _ tl shx shy
    have d4:=(so.d c).ok
    have N:At t b' (i.toNat+1) s.ld s.inn (tDo s.t o.k (xOf s o) (yOf s o)).1 (V.set i.toNat (tDo s.t o.k (xOf s o) (yOf s o)).2) s.evs s.regs:=nxt (L0 (by omega)) (I0 (by omega)) (by unfold nT;rw [if_pos c]) (by unfold nV;rw [if_neg (by omega),if_neg (by omega),if_pos c]) (E0 (by unfold evO;omega)) (R0 (by omega))
    simp (disch:=omega) only [RR,RB,ho,h7,hp4,hf4,hp3,hf3,dX,dY,dE,c,Int.reduceEq,List.length_cons,List.length_nil,ex (by unfold hX;omega),ey (by unfold hY;omega),hp9 s.t o.k _ _ tl shx shy,d1,d2,d3,d4]
    repeat' apply And.intro
    all_goals first | omega | (rw [ei];exact N)
  · have dX:decide (hX o)=true:=decide_eq_true (by unfold hX;omega)
    have dY:decide (hY o)=false:=decide_eq_false (by unfold hY;omega)
    have dE:decide (evO o)=true:=decide_eq_true (by unfold evO;omega)
    have v1:=hok.x1 (by unfold hX;omega)
    have u1:=v1.2.1
    have w1:=v1.1
    have ea:aOf s o=⟨2,s.ld,[],[]⟩:=by unfold aOf;rw [if_pos c]
    have pp:=so.p (Or.inl c)
    rw [ea]at pp
    have N:At t b' (i.toNat+1) (s.ld+1) s.inn (bD s.t ⟨2,s.ld,[],[]⟩).1 (V.set i.toNat (fG (bD s.t ⟨2,s.ld,[],[]⟩).2)) (s.evs++ [⟨4,o.at_,xOf s o,[],s.regs⟩]) s.regs:=nxt (by rw [if_pos c]) (I0 (by omega)) (by unfold nT;rw [if_neg (by omega),if_pos (Or.inl c),ea]) (by unfold nV;rw [if_neg (by omega),if_neg (by omega),if_neg (by omega),if_pos (Or.inl c),ea]) (by unfold nE;rw [if_pos (by unfold evO;omega),if_pos (Or.inl c),c,y0 (by unfold hY;omega)]) (R0 (by omega))
    simp (disch:=omega) only [RR,RB,ho,h7,hp4,hf4,hp3,hf3,dX,dY,dE,c,Int.reduceEq,List.length_cons,List.length_nil,ex (by unfold hX;omega),aqg s.regs (by omega) (by omega),aqh s.regs (by omega) (by omega),aqf 2 s.ld s.t false tl,P0 2 s.ld pp]
    repeat' apply And.intro
    all_goals first | omega | (rw [ei];exact N)
  · have dX:decide (hX o)=true:=decide_eq_true (by unfold hX;omega)
    have dY:decide (hY o)=true:=decide_eq_true (by unfold hY;omega)
    have dE:decide (evO o)=true:=decide_eq_true (by unfold evO;omega)
    have v1:=hok.x1 (by unfold hX;omega)
    have v2:=hok.y1 (by unfold hY;omega)
    have u1:=v1.2.1
    have u2:=v2.2.1
    have w1:=v1.1
    have w2:=v2.1
    have N:At t b' (i.toNat+1) s.ld s.inn s.t V (s.evs++ [⟨5,o.at_,xOf s o,yOf s o,s.regs⟩]) s.regs:=nxt (L0 (by omega)) (I0 (by omega)) (T0 (by omega) (by omega) (by omega)) (V0 (by omega)) (by unfold nE;rw [if_pos (by unfold evO;omega),if_pos (Or.inr c),c]) (R0 (by omega))
    simp (disch:=omega) only [RR,RB,ho,h7,hp4,hf4,hp3,hf3,dX,dY,dE,c,Int.reduceEq,List.length_cons,List.length_nil,ex (by unfold hX;omega),ey (by unfold hY;omega),aqg s.regs (by omega) (by omega),aqh s.regs (by omega) (by omega)]
    repeat' apply And.intro
    all_goals first | omega | (rw [ei];exact N)
  · have dX:decide (hX o)=false:=decide_eq_false (by unfold hX;omega)
    have dY:decide (hY o)=false:=decide_eq_false (by unfold hY;omega)
    have dE:decide (evO o)=true:=decide_eq_true (by unfold evO;omega)
    have ea:aOf s o=⟨3,s.inn,[],[]⟩:=by unfold aOf;rw [if_neg (by omega)]
    have pp:=so.p (Or.inr c)
    rw [ea]at pp
    have N:At t b' (i.toNat+1) s.ld (s.inn+1) (bD s.t ⟨3,s.inn,[],[]⟩).1 (V.set i.toNat (fG (bD s.t ⟨3,s.inn,[],[]⟩).2)) (s.evs++ [⟨6,o.at_,[],[],[]⟩]) s.regs:=nxt (L0 (by omega)) (by rw [if_pos c]) (by unfold nT;rw [if_neg (by omega),if_pos (Or.inr c),ea]) (by unfold nV;rw [if_neg (by omega),if_neg (by omega),if_neg (by omega),if_pos (Or.inr c),ea]) (by unfold nE;rw [if_pos (by unfold evO;omega),if_neg (by omega),c,x0 (by unfold hX;omega),y0 (by unfold hY;omega)]) (R0 (by omega))
    simp (disch:=omega) only [RR,RB,ho,h7,hp4,hf4,hp3,hf3,dX,dY,dE,c,Int.reduceEq,List.length_cons,List.length_nil,aqf 3 s.inn s.t false tl,P0 3 s.inn pp]
    repeat' apply And.intro
    all_goals first | omega | (rw [ei];exact N)
  · have dX:decide (hX o)=true:=decide_eq_true (by unfold hX;omega)
    have dY:decide (hY o)=false:=decide_eq_false (by unfold hY;omega)
    have dE:decide (evO o)=true:=decide_eq_true (by unfold evO;omega)
    have v1:=hok.x1 (by unfold hX;omega)
    have u1:=v1.2.1
    have w1:=v1.1
    have N:At t b' (i.toNat+1) s.ld s.inn s.t V (s.evs++ [⟨7,o.at_,xOf s o,[],[]⟩]) s.regs:=nxt (L0 (by omega)) (I0 (by omega)) (T0 (by omega) (by omega) (by omega)) (V0 (by omega)) (by unfold nE;rw [if_pos (by unfold evO;omega),if_neg (by omega),c,y0 (by unfold hY;omega)]) (R0 (by omega))
    simp (disch:=omega) only [RR,RB,ho,h7,hp4,hf4,hp3,hf3,dX,dY,dE,c,Int.reduceEq,List.length_cons,List.length_nil,ex (by unfold hX;omega)]
    repeat' apply And.intro
    all_goals first | omega | (rw [ei];exact N)
  · have dX:decide (hX o)=true:=decide_eq_true (by unfold hX;omega)
    have dY:decide (hY o)=false:=decide_eq_false (by unfold hY;omega)
    have dE:decide (evO o)=false:=decide_eq_false (by unfold evO;omega)
    have v1:=hok.x1 (by unfold hX;omega)
    have u1:=v1.2.1
    have w1:=v1.1
    have k2:=hok.k2 (Or.inr c)
    have N:At t b' (i.toNat+1) s.ld s.inn s.t V s.evs (s.regs.set o.k.toNat (xOf s o)):=nxt (L0 (by omega)) (I0 (by omega)) (T0 (by omega) (by omega) (by omega)) (V0 (by omega)) (E0 (by unfold evO;omega)) (by unfold nR;rw [if_pos c])
    simp (disch:=omega) only [RR,RB,ho,h7,hp4,hf4,hp3,hf3,dX,dY,dE,c,Int.reduceEq,List.length_cons,List.length_nil,ex (by unfold hX;omega),r4]
    repeat' apply And.intro
    all_goals first | omega | (rw [ei];exact N)
end Go.TX.F
namespace Go.TX.F
open Go Go.AE Go.TX
theorem amA (i:Ins):Ih (std 0) (i,()) (fun _=>True):=by
  dsimp only [Ih,Alg.cl,Alg.cg,Alg.rb,Alg.bd,Alg.l1,Tup.q,Tup.o]
  simp (disch:=omega) only [RR]
theorem amB {p1:Int×Int×Int×Unit→Bool} {f1:Int×Int×Int×Unit→Bool×Unit} (hp1:∀a b c,p1 (a,b,c,())=true) (hf1:∀a b c,f1 (a,b,c,())=(inB a b c,())) {p2:Ins×Unit→Bool} {f2:Ins×Unit→Bool×Unit} (hp2:∀i,p2 (i,())=true) (i:Ins):Ii (std 0) p1 f1 p2 f2 (i,()) (fun _=>True):=by
  dsimp only [Ii,Alg.cl,Alg.cg,Alg.rb,Alg.bd,Alg.l1,Tup.q,Tup.o]
  simp (disch:=omega) only [RR,hp1,hp2]
theorem amC (i:Int):Ij (std 0) (i,()) (fun _=>True):=by
  dsimp only [Ij,Alg.cl,Alg.cg,Alg.rb,Alg.bd,Alg.l1,Tup.q,Tup.o]
theorem amD {p1:Int×Unit→Bool} {f1:Int×Unit→Bool×Unit} (hp1:∀i,p1 (i,())=true) {p2:Ins×Unit→Bool} {f2:Ins×Unit→Bool×Unit} (hp2:∀i,p2 (i,())=true) (i:Ins):Ik (std 0) p1 f1 p2 f2 (i,()) (fun _=>True):=by
  dsimp only [Ik,Alg.cl,Alg.cg,Alg.rb,Alg.bd,Alg.l1,Tup.q,Tup.o]
  simp (disch:=omega) only [RR,hp1,hp2]
theorem amE {p1:Int×Unit→Bool} {f1:Int×Unit→Bool×Unit} (hp1:∀i,p1 (i,())=true) {p2:Ins×Unit→Bool} {f2:Ins×Unit→Bool×Unit} (hp2:∀i,p2 (i,())=true) {p3:Int×Int×Int×Unit→Bool} {f3:Int×Int×Int×Unit→Bool×Unit} (hp3:∀a b c,p3 (a,b,c,())=true) (hf3:∀a b c,f3 (a,b,c,())=(inB a b c,())) {p4:Ins×Unit→Bool} {f4:Ins×Unit→Bool×Unit} (hp4:∀i,p4 (i,())=true) (pc:Int) (l:List Ins) (hl:(l.length:Int)<1000):Io (std 0) p1 f1 p2 f2 p3 f3 p4 f4 (pc,l,()) (fun _=>True):=by
  dsimp only [Io,Alg.cl,Alg.cg,Alg.rb,Alg.bd,Alg.l1,Tup.q,Tup.o]
  simp (disch:=omega) only [RR,hp1,hp2,hp3,hp4]
  refine fun _=> ?_
  refine ay (fun(y:List Ins×Int×Unit)=>y.1=l∧0≤y.2.1) (fun y=>((l.length:Int)-y.2.1).toNat) ⟨rfl,by simp⟩ ?_
  rintro⟨(l':List Ins),(j:Int),⟨⟩⟩ hI
  dsimp only at hI ⊢
  obtain⟨rfl,h1⟩:=hI
  simp (disch:=omega) only [RR,hp1,hp2,hp3,hp4,or_true]
  refine fun h=>⟨h1,h,by omega,by omega,by omega,by omega,fun _=> ?_⟩
  rw [w64 (by omega) (by omega)];constructor<;>omega
theorem abp (a1 a2 a3 a4 a5 a6:Int) (o:IOp) (ops:List IOp) (hl:(ops.length:Int)<1000000):Ip (std 0) (a1,a2,a3,a4,a5,a6,o,ops,()) (fun y=>(y.2.2.2.2.2.2.2.1.length:Int)=ops.length+1):=by
  dsimp only [Ip,Alg.cl,Alg.cg,Alg.rb,Alg.bd,Alg.l1,Tup.q,Tup.o]
  simp (disch:=omega) only [RR,List.length_append,List.length_cons,List.length_nil]
  omega
theorem abq {p1:Int×Int×Int×Int×Int×Int×IOp×List IOp×Unit→Bool} {f1:Int×Int×Int×Int×Int×Int×IOp×List IOp×Unit→Int×Int×Int×Int×Int×Int×Int×List IOp×Unit} (hp1:∀a1 a2 a3 a4 a5 a6 o ops,(ops.length:Int)<1000000→p1 (a1,a2,a3,a4,a5,a6,o,ops,())=true) (hf1:∀a1 a2 a3 a4 a5 a6 o ops,(ops.length:Int)<1000000→((f1 (a1,a2,a3,a4,a5,a6,o,ops,())).2.2.2.2.2.2.2.1.length:Int)=ops.length+1) (a1 a2 a3 a4 a5 a6:Int) (k:Int) (ops:List IOp) (hl:(ops.length:Int)<1000000):Ir (std 0) p1 f1 (a1,a2,a3,a4,a5,a6,k,ops,()) (fun y=>(y.2.2.2.2.2.2.2.1.length:Int)=ops.length+1):=by
  dsimp only [Ir,Alg.cl,Alg.cg,Alg.rb,Alg.bd,Alg.l1,Tup.q,Tup.o]
  simp (disch:=omega) only [RR,hp1,hf1]
theorem abr {p1:Int×Int×Int×Int×Int×Int×IOp×List IOp×Unit→Bool} {f1:Int×Int×Int×Int×Int×Int×IOp×List IOp×Unit→Int×Int×Int×Int×Int×Int×Int×List IOp×Unit} (hp1:∀a1 a2 a3 a4 a5 a6 o ops,(ops.length:Int)<1000000→p1 (a1,a2,a3,a4,a5,a6,o,ops,())=true) (hf1:∀a1 a2 a3 a4 a5 a6 o ops,(ops.length:Int)<1000000→((f1 (a1,a2,a3,a4,a5,a6,o,ops,())).2.2.2.2.2.2.2.1.length:Int)=ops.length+1) (a1 a2 a3 a4 a5 a6:Int) (k x:Int) (ops:List IOp) (hl:(ops.length:Int)<1000000):Iq (std 0) p1 f1 (a1,a2,a3,a4,a5,a6,k,x,ops,()) (fun y=>(y.2.2.2.2.2.2.1.length:Int)=ops.length+1):=by
  dsimp only [Iq,Alg.cl,Alg.cg,Alg.rb,Alg.bd,Alg.l1,Tup.q,Tup.o]
  simp (disch:=omega) only [RR,hp1,hf1]
theorem abt {p1:Int×Int×Int×Int×Int×Int×Int×List IOp×Unit→Bool} {f1:Int×Int×Int×Int×Int×Int×Int×List IOp×Unit→Int×Int×Int×Int×Int×Int×Int×List IOp×Unit} (hp1:∀a1 a2 a3 a4 a5 a6 k ops,(ops.length:Int)<1000000→p1 (a1,a2,a3,a4,a5,a6,k,ops,())=true) (hf1:∀a1 a2 a3 a4 a5 a6 k ops,(ops.length:Int)<1000000→((f1 (a1,a2,a3,a4,a5,a6,k,ops,())).2.2.2.2.2.2.2.1.length:Int)=ops.length+1) {p2:Int×Int×Int×Int×Int×Int×IOp×List IOp×Unit→Bool} {f2:Int×Int×Int×Int×Int×Int×IOp×List IOp×Unit→Int×Int×Int×Int×Int×Int×Int×List IOp×Unit} (hp2:∀a1 a2 a3 a4 a5 a6 o ops,(ops.length:Int)<1000000→p2 (a1,a2,a3,a4,a5,a6,o,ops,())=true) (hf2:∀a1 a2 a3 a4 a5 a6 o ops,(ops.length:Int)<1000000→((f2 (a1,a2,a3,a4,a5,a6,o,ops,())).2.2.2.2.2.2.2.1.length:Int)=ops.length+1) (a1 a2 a3 a4 a5 a6:Int) (k a:Int) (o:IOp) (ops:List IOp) (hl:(ops.length:Int)<999000):Iu (std 0) p1 f1 p2 f2 (a1,a2,a3,a4,a5,a6,k,a,o,ops,()) (fun y=>(y.2.2.2.2.2.2.2.1.length:Int)=ops.length+3):=by
  dsimp only [Iu,Alg.cl,Alg.cg,Alg.rb,Alg.bd,Alg.l1,Tup.q,Tup.o]
  simp (disch:=(first | omega | (simp (disch:=(first | omega | (simp (disch:=(first | omega | (simp (disch:=omega) only [hf1,hf2];omega))) only [hf1,hf2];omega))) only [hf1,hf2];omega))) only [RR,hp1,hp2,hf1,hf2]
  omega
theorem abu {p1:Int×Int×Int×Int×Int×Int×Int×List IOp×Unit→Bool} {f1:Int×Int×Int×Int×Int×Int×Int×List IOp×Unit→Int×Int×Int×Int×Int×Int×Int×List IOp×Unit} (hp1:∀a1 a2 a3 a4 a5 a6 k ops,(ops.length:Int)<1000000→p1 (a1,a2,a3,a4,a5,a6,k,ops,())=true) (hf1:∀a1 a2 a3 a4 a5 a6 k ops,(ops.length:Int)<1000000→((f1 (a1,a2,a3,a4,a5,a6,k,ops,())).2.2.2.2.2.2.2.1.length:Int)=ops.length+1) {p2:Int×Int×Int×Int×Int×Int×IOp×List IOp×Unit→Bool} {f2:Int×Int×Int×Int×Int×Int×IOp×List IOp×Unit→Int×Int×Int×Int×Int×Int×Int×List IOp×Unit} (hp2:∀a1 a2 a3 a4 a5 a6 o ops,(ops.length:Int)<1000000→p2 (a1,a2,a3,a4,a5,a6,o,ops,())=true) (hf2:∀a1 a2 a3 a4 a5 a6 o ops,(ops.length:Int)<1000000→((f2 (a1,a2,a3,a4,a5,a6,o,ops,())).2.2.2.2.2.2.2.1.length:Int)=ops.length+1) {p3:Int×Int×Int×Int×Int×Int×Int×Int×IOp×List IOp×Unit→Bool} {f3:Int×Int×Int×Int×Int×Int×Int×Int×IOp×List IOp×Unit→Int×Int×Int×Int×Int×Int×Int×List IOp×Unit} (hp3:∀a1 a2 a3 a4 a5 a6 k a o ops,(ops.length:Int)<999000→p3 (a1,a2,a3,a4,a5,a6,k,a,o,ops,())=true) (hf3:∀a1 a2 a3 a4 a5 a6 k a o ops,(ops.length:Int)<999000→((f3 (a1,a2,a3,a4,a5,a6,k,a,o,ops,())).2.2.2.2.2.2.2.1.length:Int)=ops.length+3) {p4:Int×Int×Int×Int×Int×Int×Int×Int×List IOp×Unit→Bool} {f4:Int×Int×Int×Int×Int×Int×Int×Int×List IOp×Unit→Int×Int×Int×Int×Int×Int×List IOp×Unit} (hp4:∀a1 a2 a3 a4 a5 a6 k x ops,(ops.length:Int)<1000000→p4 (a1,a2,a3,a4,a5,a6,k,x,ops,())=true) (hf4:∀a1 a2 a3 a4 a5 a6 k x ops,(ops.length:Int)<1000000→((f4 (a1,a2,a3,a4,a5,a6,k,x,ops,())).2.2.2.2.2.2.1.length:Int)=ops.length+1) (a1 a2 a3 a4 a5 a6:Int) (i:Ins) (k:Int) (ops:List IOp) (hl:(ops.length:Int)<998000):Iy (std 0) p1 f1 p2 f2 p3 f3 p4 f4 (a1,a2,a3,a4,a5,a6,i,k,ops,()) (fun y=>(y.2.2.2.2.2.2.1.length:Int)=ops.length+5):=by
  dsimp only [Iy,Alg.cl,Alg.cg,Alg.rb,Alg.bd,Alg.l1,Tup.q,Tup.o]
  simp (disch:=(first | omega | (simp (disch:=(first | omega | (simp (disch:=(first | omega | (simp (disch:=omega) only [hf1,hf2,hf3,hf4];omega))) only [hf1,hf2,hf3,hf4];omega))) only [hf1,hf2,hf3,hf4];omega))) only [RR,hp1,hp2,hp3,hp4,hf1,hf2,hf3,hf4]
  constructor<;>intro _<;>omega
theorem abv {p1:Int×Int×Int×Int×Int×Int×Int×List IOp×Unit→Bool} {f1:Int×Int×Int×Int×Int×Int×Int×List IOp×Unit→Int×Int×Int×Int×Int×Int×Int×List IOp×Unit} (hp1:∀a1 a2 a3 a4 a5 a6 k ops,(ops.length:Int)<1000000→p1 (a1,a2,a3,a4,a5,a6,k,ops,())=true) (hf1:∀a1 a2 a3 a4 a5 a6 k ops,(ops.length:Int)<1000000→((f1 (a1,a2,a3,a4,a5,a6,k,ops,())).2.2.2.2.2.2.2.1.length:Int)=ops.length+1) (a1 a2 a3 a4 a5 a6:Int) (i:Ins) (ops:List IOp) (hl:(ops.length:Int)<999000):Iz (std 0) p1 f1 (a1,a2,a3,a4,a5,a6,i,ops,()) (fun y=>(y.2.2.2.2.2.2.1.length:Int)≤ops.length+5):=by
  dsimp only [Iz,Alg.cl,Alg.cg,Alg.rb,Alg.bd,Alg.l1,Tup.q,Tup.o]
  simp (disch:=(first | omega | (simp (disch:=(first | omega | (simp (disch:=(first | omega | (simp (disch:=omega) only [hf1];omega))) only [hf1];omega))) only [hf1];omega))) only [RR,hp1,hf1]
  refine⟨fun _=>by omega,fun _=>⟨fun _=>by omega,fun _=>by omega⟩⟩
theorem amF (k:Int) (hk:k<1000):Iw (std 0) (k,()) (fun _=>True):=by
  dsimp only [Iw,Alg.cl,Alg.cg,Alg.rb,Alg.bd,Alg.l1,Tup.q,Tup.o]
  simp (disch:=omega) only [RR]
  refine ay (fun(y:Int×Int×Int×Unit)=>y.1=k∧0≤y.2.2.1) (fun y=>(k-y.2.2.1).toNat) ⟨rfl,by simp⟩ ?_
  rintro⟨(k':Int),(z:Int),(j:Int),⟨⟩⟩ hI
  dsimp only at hI ⊢
  obtain⟨rfl,h1⟩:=hI
  simp (disch:=omega) only [RR]
  refine fun h=> ?_
  rw [w64 (by omega) (by omega)];constructor<;>omega
theorem abw {p1:Int×Int×Int×Int×Int×Int×Int×List IOp×Unit→Bool} {f1:Int×Int×Int×Int×Int×Int×Int×List IOp×Unit→Int×Int×Int×Int×Int×Int×Int×List IOp×Unit} (hp1:∀a1 a2 a3 a4 a5 a6 k ops,(ops.length:Int)<1000000→p1 (a1,a2,a3,a4,a5,a6,k,ops,())=true) (hf1:∀a1 a2 a3 a4 a5 a6 k ops,(ops.length:Int)<1000000→((f1 (a1,a2,a3,a4,a5,a6,k,ops,())).2.2.2.2.2.2.2.1.length:Int)=ops.length+1) {p2:Int×Int×Int×Int×Int×Int×Ins×List IOp×Unit→Bool} {f2:Int×Int×Int×Int×Int×Int×Ins×List IOp×Unit→Int×Int×Int×Int×Int×Int×List IOp×Unit} (hp2:∀a1 a2 a3 a4 a5 a6 i ops,(ops.length:Int)<999000→p2 (a1,a2,a3,a4,a5,a6,i,ops,())=true) (hf2:∀a1 a2 a3 a4 a5 a6 i ops,(ops.length:Int)<999000→((f2 (a1,a2,a3,a4,a5,a6,i,ops,())).2.2.2.2.2.2.1.length:Int)≤ops.length+5) {p3:Int×Int×Int×Int×Int×Int×IOp×List IOp×Unit→Bool} {f3:Int×Int×Int×Int×Int×Int×IOp×List IOp×Unit→Int×Int×Int×Int×Int×Int×Int×List IOp×Unit} (hp3:∀a1 a2 a3 a4 a5 a6 o ops,(ops.length:Int)<1000000→p3 (a1,a2,a3,a4,a5,a6,o,ops,())=true) (hf3:∀a1 a2 a3 a4 a5 a6 o ops,(ops.length:Int)<1000000→((f3 (a1,a2,a3,a4,a5,a6,o,ops,())).2.2.2.2.2.2.2.1.length:Int)=ops.length+1) {p4:Int×Int×Int×Int×Int×Int×Ins×Int×List IOp×Unit→Bool} {f4:Int×Int×Int×Int×Int×Int×Ins×Int×List IOp×Unit→Int×Int×Int×Int×Int×Int×List IOp×Unit} (hp4:∀a1 a2 a3 a4 a5 a6 i k ops,(ops.length:Int)<998000→p4 (a1,a2,a3,a4,a5,a6,i,k,ops,())=true) (hf4:∀a1 a2 a3 a4 a5 a6 i k ops,(ops.length:Int)<998000→((f4 (a1,a2,a3,a4,a5,a6,i,k,ops,())).2.2.2.2.2.2.1.length:Int)=ops.length+5) {p5:Int×Int×Int×Int×Int×Int×Int×Int×IOp×List IOp×Unit→Bool} {f5:Int×Int×Int×Int×Int×Int×Int×Int×IOp×List IOp×Unit→Int×Int×Int×Int×Int×Int×Int×List IOp×Unit} (hp5:∀a1 a2 a3 a4 a5 a6 k a o ops,(ops.length:Int)<999000→p5 (a1,a2,a3,a4,a5,a6,k,a,o,ops,())=true) (hf5:∀a1 a2 a3 a4 a5 a6 k a o ops,(ops.length:Int)<999000→((f5 (a1,a2,a3,a4,a5,a6,k,a,o,ops,())).2.2.2.2.2.2.2.1.length:Int)=ops.length+3) {p6:Int×Int×Int×Int×Int×Int×Int×Int×List IOp×Unit→Bool} {f6:Int×Int×Int×Int×Int×Int×Int×Int×List IOp×Unit→Int×Int×Int×Int×Int×Int×List IOp×Unit} (hp6:∀a1 a2 a3 a4 a5 a6 k x ops,(ops.length:Int)<1000000→p6 (a1,a2,a3,a4,a5,a6,k,x,ops,())=true) (hf6:∀a1 a2 a3 a4 a5 a6 k x ops,(ops.length:Int)<1000000→((f6 (a1,a2,a3,a4,a5,a6,k,x,ops,())).2.2.2.2.2.2.1.length:Int)=ops.length+1) {p7:Int×Unit→Bool} {f7:Int×Unit→Int×Unit} (hp7:∀k,k<1000→p7 (k,())=true) (a1 a2 a3 a4 a5 a6:Int) (i:Ins) (k:Int) (ops:List IOp) (hk:i.k<1000) (hl:(ops.length:Int)<997000):IB (std 0) p1 f1 p2 f2 p3 f3 p4 f4 p5 f5 p6 f6 p7 f7 (a1,a2,a3,a4,a5,a6,i,k,ops,()) (fun y=>(y.2.2.2.2.2.2.1.length:Int)≤ops.length+5):=by
  have e4:=fun i k=>hf4 a1 a2 a3 a4 a5 a6 i k ops (by omega)
  have e2:=fun i=>hf2 a1 a2 a3 a4 a5 a6 i ops (by omega)
  dsimp only [IB,Alg.cl,Alg.cg,Alg.rb,Alg.bd,Alg.l1,Tup.q,Tup.o]
  simp (disch:=(first | omega | (simp (disch:=(first | omega | (simp (disch:=(first | omega | (simp (disch:=omega) only [hf1,hf3,hf5,RB];omega))) only [hf1,hf3,hf5,RB];omega))) only [hf1,hf3,hf5,RB];omega))) only [RR,RB,hp1,hp2,hp3,hp4,hp5,hp6,hp7,hf1,hf3,hf4,hf5,hf6]
  have:=e2 i
  repeat' (first | (refine⟨?_,?_⟩) | intro _)
  all_goals omega
def KB (l:List Ins):Prop:=∀i∈l,i.k<1000
theorem KB.at {l:List Ins} (h:KB l) (n:Nat):(l.getD n default).k<1000:=by
  by_cases h1:n<l.length
  · rw [getD_lt h1];exact h _ (List.getElem_mem _)
  · simp only [List.getD,List.getElem?_eq_none (by omega:l.length≤n)];decide
theorem abx {p1:Int×List Ins×Unit→Bool} {f1:Int×List Ins×Unit→Bool×Unit} (hp1:∀pc l,(l.length:Int)<1000→p1 (pc,l,())=true) {p2:Int×Int×Int×Int×Int×Int×Ins×Int×List IOp×Unit→Bool} {f2:Int×Int×Int×Int×Int×Int×Ins×Int×List IOp×Unit→Int×Int×Int×Int×Int×Int×List IOp×Unit} (hp2:∀a1 a2 a3 a4 a5 a6 i k ops,i.k<1000→(ops.length:Int)<997000→p2 (a1,a2,a3,a4,a5,a6,i,k,ops,())=true) (hf2:∀a1 a2 a3 a4 a5 a6 i k ops,i.k<1000→(ops.length:Int)<997000→((f2 (a1,a2,a3,a4,a5,a6,i,k,ops,())).2.2.2.2.2.2.1.length:Int)≤ops.length+5) (pc:Int) (l:List Ins) (hl:(l.length:Int)<1000) (hk:KB l):IC (std 0) p1 f1 p2 f2 (pc,l,()) (fun y=>(y.2.2.2.2.2.2.1.length:Int)≤5000):=by
  dsimp only [IC,Alg.cl,Alg.cg,Alg.rb,Alg.bd,Alg.l1,Tup.q,Tup.o]
  simp (disch:=omega) only [RR,hp1,List.length_nil]
  refine⟨fun _=>by omega,fun _=> ?_⟩
  refine ay (fun(y:List Ins×Int×Int×Int×Int×Int×Int×Int×Int×Int×Int×Int×Int×Int×List IOp×Unit)=>y.1=l∧0≤y.2.1∧y.2.1≤l.length∧(y.2.2.2.2.2.2.2.2.2.2.2.2.2.2.1.length:Int)≤5*y.2.1) (fun y=>((l.length:Int)-y.2.1).toNat) ⟨rfl,by simp,by simp,by simp⟩ ?_
  rintro⟨(l':List Ins),(j:Int),u1,u2,u3,u4,u5,u6,b1,b2,b3,b4,b5,b6,(ops:List IOp),⟨⟩⟩ hI
  dsimp only at hI ⊢
  obtain⟨rfl,h1,h2,h3⟩:=hI
  have hk':=hk.at j.toNat
  simp (disch:=omega) only [RR,hp2]
  refine⟨fun h=> ?_,fun h=>by omega⟩
  have:=hf2 b1 b2 b3 b4 b5 b6 ((l').getD (j).toNat default) j ops hk' (by omega)
  exact⟨h1,h,⟨by omega,by omega,by omega⟩,by omega⟩
end Go.TX.F
namespace Go.TX.F
open Go Go.AE Go.TX
structure InD (m:Int) (b:List Int) (p:Int) (y:Int×Int×Int×Int×List Int×Int×Unit):Prop where
  b:y.2.2.2.2.1=b
  lo:p≤y.2.2.2.2.2.1
  hi:y.2.2.2.2.2.1≤p+m
  k:0≤y.2.2.2.1∧y.2.2.2.1≤255
@[reducible] def amG : List Int → Prop
  | []=>True
  | x::l=>(0≤x∧x≤255)∧amG l
theorem Rk:∀(l:List Int) (n:Nat),amG l→0≤l.getD n default∧l.getD n default≤255
  | [],n,_=>by simp only [List.getD_nil];decide
  | x::l,0,h=>h.1
  | x::l,n+1,h=>Rk l n h.2
theorem pkR {f1:Int×List Int×Int×Unit→Int×List Int×Int×Unit} {b:List Int} (hb:Bt b) (hf1:∀n b p,Bt b→0≤p→p<1000000000→Pk n b p (f1 (n,b,p,()))):
    (∀n p,0≤p→p<1000000000→(f1 (n,b,p,())).2.1=b)∧(∀n p,0≤p→p<1000000000→(f1 (n,b,p,())).2.2.1=p+1)∧
    (∀n p,0≤p→p<1000000000→(0≤(f1 (n,b,p,())).1)=True)∧(∀n p k,0≤p→p<1000000000→n≤k→0<k→((f1 (n,b,p,())).1<k)=True)∧
    (∀n p k,0≤p→p<1000000000→n≤k+1→0≤k→((f1 (n,b,p,())).1≤k)=True):=
  ⟨fun n p h1 h2=>(hf1 n b p hb h1 h2).1,fun n p h1 h2=>(hf1 n b p hb h1 h2).2.1,fun n p h1 h2=>eq_true (hf1 n b p hb h1 h2).2.2.1,
    fun n p k h1 h2 h3 h4=>eq_true (by have:=(hf1 n b p hb h1 h2).2.2;omega),fun n p k h1 h2 h3 h4=>eq_true (by have:=(hf1 n b p hb h1 h2).2.2;omega)⟩
theorem aby {p1:Int×List Int×Int×Unit→Bool} {f1:Int×List Int×Int×Unit→Int×List Int×Int×Unit} (hp1:∀n b p,Bt b→0≤p→p<1000000000→p1 (n,b,p,())=true) (hf1:∀n b p,Bt b→0≤p→p<1000000000→Pk n b p (f1 (n,b,p,()))) (b:List Int) (p:Int) (hb:Bt b) (h1:0≤p) (h2:p<900000000):Ig (std 0) p1 f1 (b,p,()) (fun y=>InD 20 b p y):=by
  have R:=pkR hb hf1
  have P:=fun n p h1 h2=>hp1 n b p hb h1 h2
  dsimp only [Ig,Alg.cl,Alg.cg,Alg.rb,Alg.bd,Alg.l1,Tup.q,Tup.o]
  simp (disch:=omega) only [RR,R,P,List.length_cons,List.length_nil]
  repeat' (first | (refine⟨?_,?_⟩) | intro _)
  all_goals try omega
  all_goals refine⟨rfl,by dsimp only;omega,by dsimp only;omega,?_⟩
  all_goals dsimp only
  all_goals first | omega | (refine Rk _ _ ?_;simp (disch:=omega) only [amG,R,Int.reduceLE,and_self,true_and,and_true]) | (simp (disch:=omega) only [R,Int.reduceLE,and_self,true_and,and_true])
theorem abz {p1:List Int×Int×Unit→Bool} {f1:List Int×Int×Unit→Int×Int×Int×Int×List Int×Int×Unit} (hp1:∀b p,Bt b→0≤p→p<900000000→p1 (b,p,())=true) (hf1:∀b p,Bt b→0≤p→p<900000000→InD 20 b p (f1 (b,p,()))) {p2:Int×List Int×Int×Unit→Bool} {f2:Int×List Int×Int×Unit→Int×List Int×Int×Unit} (hp2:∀n b p,Bt b→0≤p→p<1000000000→p2 (n,b,p,())=true) (hf2:∀n b p,Bt b→0≤p→p<1000000000→Pk n b p (f2 (n,b,p,()))) {p3:Ins×Unit→Bool} {f3:Ins×Unit→Bool×Unit} (hp3:∀i,p3 (i,())=true) (b:List Int) (p:Int) (hb:Bt b) (h1:0≤p) (h2:p<800000000):Il (std 0) p1 f1 p2 f2 p3 f3 (b,p,()) (fun y=>InD 30 b p y):=by
  obtain⟨a1,a2,a3,a4⟩:=hf1 b p hb h1 (by omega)
  have R:=pkR hb hf2
  have P:=fun n p h1 h2=>hp2 n b p hb h1 h2
  dsimp only [Il,Alg.cl,Alg.cg,Alg.rb,Alg.bd,Alg.l1,Tup.q,Tup.o]
  simp (disch:=omega) only [RR,hp1 b p hb h1 (by omega),hp3,a1,R,P]
  refine⟨fun _=>⟨rfl,by dsimp only;omega,by dsimp only;omega,?_⟩,fun _=>⟨rfl,a2,by dsimp only;omega,a4⟩⟩
  dsimp only
  simp (disch:=omega) only [R,Int.reduceLE,and_self]
structure LiD (b:List Int) (p:Int) (y:List Int×Int×List Ins×Unit):Prop where
  b:y.1=b
  lo:p≤y.2.1
  hi:y.2.1≤p+1000
  len:(y.2.2.1.length:Int)≤20
  k:KB y.2.2.1
theorem KB.app {l:List Ins} {i:Ins} (h:KB l) (h2:i.k≤255):KB (l++ [i]):=fun x hx=>by
  rw [List.mem_append,List.mem_singleton]at hx
  rcases hx with hx | rfl
  · exact h x hx
  · omega
theorem abA {p1:List Int×Int×Unit→Bool} {f1:List Int×Int×Unit→Int×Int×Int×Int×List Int×Int×Unit} (hp1:∀b p,Bt b→0≤p→p<800000000→p1 (b,p,())=true) (hf1:∀b p,Bt b→0≤p→p<800000000→InD 30 b p (f1 (b,p,()))) {p2:Int×List Int×Int×Unit→Bool} {f2:Int×List Int×Int×Unit→Int×List Int×Int×Unit} (hp2:∀n b p,Bt b→0≤p→p<1000000000→p2 (n,b,p,())=true) (hf2:∀n b p,Bt b→0≤p→p<1000000000→Pk n b p (f2 (n,b,p,()))) (b:List Int) (p:Int) (hb:Bt b) (h1:0≤p) (h2:p<700000000):Im (std 0) p1 f1 p2 f2 (b,p,()) (fun y=>LiD b p y):=by
  obtain⟨e1,e2,e3,e4⟩:=hf2 8 b p hb h1 (by omega)
  dsimp only [Im,Alg.cl,Alg.cg,Alg.rb,Alg.bd,Alg.l1,Tup.q,Tup.o]
  simp (disch:=omega) only [RR,hp2 8 b p hb h1 (by omega),e1,e2]
  refine ay (fun(y:Int×List Int×Int×List Ins×Unit)=>0≤y.1∧y.1≤8∧y.2.1=b∧p≤y.2.2.1∧y.2.2.1+40*y.1≤p+400∧(y.2.2.2.1.length:Int)+y.1≤8∧KB y.2.2.2.1) (fun y=>y.1.toNat)
    ⟨e3,by dsimp only;omega,rfl,by dsimp only;omega,by dsimp only;omega,by dsimp only [List.length_nil];omega,fun x hx=>by cases hx⟩ ?_
  rintro⟨(k:Int),(b':List Int),(q:Int),(l:List Ins),⟨⟩⟩ hI
  dsimp only at hI ⊢
  obtain⟨k1,k2,rfl,k3,k4,k5,k6⟩:=hI
  have R:=pkR hb hf2
  have P:=fun n p h1 h2=>hp2 n b' p hb h1 h2
  obtain⟨a1,a2,a3,a4⟩:=hf1 b' q hb (by omega) (by omega)
  obtain⟨b1,b2,b3,b4⟩:=hf1 b' (q+1) hb (by omega) (by omega)
  simp (disch:=omega) only [RR,RB,hp1 b' q hb (by omega) (by omega),hp1 b' (q+1) hb (by omega) (by omega),a1,b1,R,P,List.length_cons,List.length_nil,List.length_append]
  refine⟨fun c=>⟨by omega,⟨by omega,by omega,by omega,by omega,by omega,k6.app a4.2⟩,by omega⟩,fun c=>⟨fun _=>⟨by omega,rfl,by dsimp only;omega,by dsimp only;omega,?_,?_⟩,fun _=>⟨fun _=>⟨by omega,rfl,by dsimp only;omega,by dsimp only;omega,?_,?_⟩,fun _=>⟨by omega,rfl,by dsimp only;omega,by dsimp only;omega,?_,?_⟩⟩⟩⟩
  · dsimp only;rw [List.length_append];simp only [List.length_cons,List.length_nil];omega
  · refine k6.app ?_
    dsimp only
    simp (disch:=omega) only [R]
  · dsimp only;rw [List.length_append];simp only [List.length_cons,List.length_nil];omega
  · exact k6.app (by dsimp only;omega)
  · dsimp only;rw [List.length_append];simp only [List.length_cons,List.length_nil];omega
  · exact k6.app b4.2
end Go.TX.F
namespace Go.TX.F
open Go Go.AE Go.TX
theorem abB (b:Blk) (hb:b.ops.length<1000000):Ht (std 0) (b,()) (fun y=>y=(b.pc,b.len,b.fin,b.x,b.y,b.k,b.ops,())):=by
  dsimp only [Ht,Alg.cl,Alg.cg,Alg.rb,Alg.bd,Alg.l1,Tup.q,Tup.o]
  simp (disch:=omega) only [RR,RB,List.nil_append,List.length_nil]
  omega
theorem amH (ops:List IOp) (k:Int):HV (std 0) (ops,k,()) (fun _=>True):=by
  dsimp only [HV,Alg.cl,Alg.cg,Alg.rb,Alg.bd,Alg.l1,Tup.q,Tup.o]
  simp (disch:=omega) only [RR,RB]
  omega
theorem abC (b:Blk) (k:Int):HY (std 0) (b,k,()) (fun y=>y.2.2.1=b.ops):=by
  dsimp only [HY,Alg.cl,Alg.cg,Alg.rb,Alg.bd,Alg.l1,Tup.q,Tup.o]
  simp (disch:=omega) only [RR,RB]
theorem abD {p1:Blk×Int×Unit→Bool} {f1:Blk×Int×Unit→Int×Int×List IOp×Int×Int×Int×Int×Unit} (hp1:∀b k,p1 (b,k,())=true) (hf1:∀b k,(f1 (b,k,())).2.2.1=b.ops) {p2:List IOp×Int×Unit→Bool} {f2:List IOp×Int×Unit→Int×Bool×Unit} (hp2:∀ops k,p2 (ops,k,())=true) (b:Blk):HZ (std 0) p1 f1 p2 f2 (b,()) (fun y=>y.1.ops=b.ops):=by
  dsimp only [HZ,Alg.cl,Alg.cg,Alg.rb,Alg.bd,Alg.l1,Tup.q,Tup.o]
  simp (disch:=omega) only [RR,RB,hp1,hf1,hp2]
  repeat' (first | (refine⟨?_,?_⟩) | intro _)
  all_goals rfl
theorem abE {p1:Int×Int×Int×Unit→Bool} {f1:Int×Int×Int×Unit→Bool×Unit} (hp1:∀a b c,p1 (a,b,c,())=true) (hf1:∀a b c,f1 (a,b,c,())=(inB a b c,())) (o:IOp) (al:List Int) (hx:hX o→0≤o.x∧o.x< (al.length:Int)) (hy:hY o→0≤o.y∧o.y< (al.length:Int)):Hu (std 0) p1 f1 (o,al,()) (fun y=>y.1.kind=o.kind∧y.1.k=o.k):=by
  unfold hX at hx
  unfold hY at hy
  dsimp only [Hu,Alg.cl,Alg.cg,Alg.rb,Alg.bd,Alg.l1,Tup.q,Tup.o]
  simp (disch:=omega) only [RR,RB,hp1,hf1,dx,nC]
  refine⟨fun c=>⟨(hx (by omega)).1,(hx (by omega)).2,hy⟩,fun c=>hy⟩
theorem amI (ops:List IOp) (k:Int) (h0:0≤k) (h1:k<ops.length) (h2:(ops.length:Int)<1000000):H9 (std 0) (ops,k,()) (fun _=>True):=by
  dsimp only [H9,Alg.cl,Alg.cg,Alg.rb,Alg.bd,Alg.l1,Tup.q,Tup.o]
  simp (disch:=omega) only [RR,RB]
  refine ay (fun(y:List IOp×Int×Int×Unit)=>y.1=ops∧y.2.1=k∧0≤y.2.2.1) (fun y=>((ops.length:Int)-y.2.2.1).toNat) ⟨rfl,rfl,by dsimp only;omega⟩ ?_
  rintro⟨(l:List IOp),(k':Int),(j:Int),⟨⟩⟩ hI
  dsimp only at hI ⊢
  obtain⟨rfl,rfl,h3⟩:=hI
  simp (disch:=omega) only [RR,RB]
  intro h
  simp only [show IntKind.i64.wrap (j+1)=j+1 from w64 (by omega) (by omega)]
  repeat' (first | (refine⟨?_,?_⟩) | intro _)
  all_goals omega
@[reducible] def X8 (z : Int × Int × Int × Int × Int × Int × List IOp × Unit) : Blk := ⟨z.1, z.2.1, z.2.2.2.2.2.2.1, z.2.2.1, z.2.2.2.1, z.2.2.2.2.1, z.2.2.2.2.2.1⟩
theorem abF {p1:Blk×Unit→Bool} {f1:Blk×Unit→Blk×Unit} (hp1:∀b,b.ops.length<1000000→p1 (b,())=true) (hf1:∀b,b.ops.length<1000000→(f1 (b,())).1.ops.length≤b.ops.length) {p2:Blk×Unit→Bool} {f2:Blk×Unit→Int×Int×Int×Int×Int×Int×List IOp×Unit} (hp2:∀b,b.ops.length<1000000→p2 (b,())=true) (hf2:∀b,b.ops.length<1000000→(f2 (b,())).2.2.2.2.2.2.1.length≤b.ops.length) {p3:Blk×Unit→Bool} {f3:Blk×Unit→Int×Int×Int×Int×Int×Int×List IOp×Unit} (hp3:∀b,b.ops.length<1000000→p3 (b,())=true) (hf3:∀b,b.ops.length<1000000→(f3 (b,())).2.2.2.2.2.2.1.length≤b.ops.length) {p4:Blk×Unit→Bool} {f4:Blk×Unit→Int×Int×Int×Int×Int×Int×List IOp×Unit} (hp4:∀b,b.ops.length<1000000→p4 (b,())=true) (hf4:∀b,b.ops.length<1000000→(f4 (b,())).2.2.2.2.2.2.1.length≤b.ops.length) (b:Blk) (hb:b.ops.length<1000000):Mt (std 0) p1 f1 p2 f2 p3 f3 p4 f4 (b,()) (fun y=>y.2.2.2.2.2.2.1.length≤b.ops.length):=by
  have a1:=hf2 b hb
  have m1:(X8 (f2 (b,()))).ops.length<1000000:=Nat.lt_of_le_of_lt a1 hb
  have a2:=hf1 _ m1
  have m2:=Nat.lt_of_le_of_lt a2 m1
  have a3:=hf3 _ m2
  have m3:(X8 (f3 ((f1 (X8 (f2 (b,())),())).1,()))).ops.length<1000000:=Nat.lt_of_le_of_lt a3 m2
  have a4:=hf4 _ m3
  have m4:(X8 (f4 (X8 (f3 ((f1 (X8 (f2 (b,())),())).1,())),()))).ops.length<1000000:=Nat.lt_of_le_of_lt a4 m3
  have a5:=hf3 _ m4
  exact⟨hp2 b hb,hp1 _ m1,hp3 _ m2,hp4 _ m3,hp3 _ m4,Nat.le_trans a5 (Nat.le_trans a4 (Nat.le_trans a3 (Nat.le_trans a2 a1)))⟩
theorem abG {p1:Blk×Unit→Bool} {f1:Blk×Unit→Bool×Unit} (hp1:∀b,b.ops.length<1000000000→p1 (b,())=true) (hf1:∀b,b.ops.length<1000000000→f1 (b,())=(bp (jw b),())) {p2:Int×Int×Int×Unit→Bool} {f2:Int×Int×Int×Unit→Int×Unit} (hp2:∀op a b,p2 (op,a,b,())=true) (hf2:∀op a b,f2 (op,a,b,())=(wdo op a b,())) {p3:Blk×Unit→Bool} {f3:Blk×Unit→Blk×Unit} (hp3:∀b,p3 (b,())=true) (hf3:∀b,(f3 (b,())).1.ops=b.ops) {p4:List IOp×Int×Unit→Bool} {f4:List IOp×Int×Unit→Int×Bool×Unit} (hp4:∀ops k,p4 (ops,k,())=true) {p5:Blk×Unit→Bool} {f5:Blk×Unit→Int×Int×Int×Int×Int×Int×List IOp×Unit} (hp5:∀b,b.ops.length<1000000→p5 (b,())=true) (hf5:∀b,b.ops.length<1000000→f5 (b,())=(b.pc,b.len,b.fin,b.x,b.y,b.k,b.ops,())) (b:Blk) (hb:b.ops.length<1000000):H8 (std 0) p1 f1 p2 f2 p3 f3 p4 f4 p5 f5 (b,()) (fun y=>y.1.ops.length≤b.ops.length):=by
  dsimp only [H8,Alg.cl,Alg.cg,Alg.rb,Alg.bd,Alg.l1,Tup.q,Tup.o]
  simp (disch:=omega) only [RR,RB,hp1 b (by omega),hf1 b (by omega),hp5 b hb,hf5 b hb]
  refine⟨fun _=>Nat.zero_le _,fun _=> ?_⟩
  refine ay (fun(y:Int×Int×Int×Int×Int×Int×Int×Int×Int×Int×Int×Int×Int×List IOp×Unit)=>0≤y.1∧y.2.2.2.2.2.2.2.2.2.2.2.2.2.1.length=b.ops.length) (fun y=>((b.ops.length:Int)-y.1).toNat) ⟨by dsimp only;omega,rfl⟩ ?_
  rintro⟨(k:Int),u1,u2,u3,u4,u5,u6,b1,b2,b3,b4,b5,b6,(ops:List IOp),⟨⟩⟩ hI
  dsimp only at hI ⊢
  obtain⟨h1,h2⟩:=hI
  simp (disch:=omega) only [RR,RB,hp4,hp3,hf3,hp2,hf2,List.length_set]
  refine⟨fun h=> ?_,fun h=>by rw [←h2];exact Nat.le_refl _⟩
  simp only [show IntKind.i64.wrap (k+1)=k+1 from w64 (by omega) (by omega)]
  repeat' (first | (refine⟨?_,?_⟩) | intro _)
  all_goals omega
theorem abH {p1:Blk×Unit→Bool} {f1:Blk×Unit→Bool×Unit} (hp1:∀b,b.ops.length<1000000000→p1 (b,())=true) (hf1:∀b,b.ops.length<1000000000→f1 (b,())=(bp (jw b),())) {p2:Int×Int×Int×Unit→Bool} {f2:Int×Int×Int×Unit→Bool×Unit} (hp2:∀a b c,p2 (a,b,c,())=true) (hf2:∀a b c,f2 (a,b,c,())=(inB a b c,())) (b:Blk) (hb:b.ops.length<1000000):Ic (std 0) p1 f1 p2 f2 (b,()) (fun y=>jw b→y.1.length=b.ops.length):=by
  dsimp only [Ic,Alg.cl,Alg.cg,Alg.rb,Alg.bd,Alg.l1,Tup.q,Tup.o]
  simp (disch:=omega) only [RR,RB,hp1 b (by omega),hf1 b (by omega)]
  refine⟨fun h h2=>absurd h (by rw [eF h2];decide),fun h=> ?_⟩
  have ok:=bg.1 h
  have n48:=ok.sz
  refine ay (fun(y:Int×Blk×List Bool×Unit)=>0≤y.1∧y.1≤b.ops.length∧y.2.1=b∧(y.2.2.1.length:Int)=y.1) (fun y=>((b.ops.length:Int)-y.1).toNat) ⟨by dsimp only;omega,by dsimp only;omega,rfl,rfl⟩ ?_
  rintro⟨(k:Int),(b':Blk),(kp:List Bool),⟨⟩⟩ hI
  dsimp only at hI ⊢
  obtain⟨h1,h2,rfl,h3⟩:=hI
  simp (disch:=omega) only [RR,RB,List.length_append,List.length_cons,List.length_nil]
  refine⟨fun h=>⟨h1,h,by omega,⟨by omega,by omega,by omega⟩,by omega⟩,fun h=> ?_⟩
  have ex:¬b'.fin=1→0≤b'.x∧b'.x<kp.length:=fun c=>by have:=ok.en.x1 c;exact⟨this.1,by have:=this.2.1;omega⟩
  have ey:b'.fin=3∨b'.fin=4→0≤b'.y∧b'.y<kp.length:=fun c=>by have:=ok.en.y1 (by omega);exact⟨this.1,by have:=this.2.1;omega⟩
  refine⟨fun c=>⟨(ex c).1,(ex c).2,(ex c).1,(ex c).2,fun c2=>⟨(ey c2).1,by rw [List.length_set];exact(ey c2).2,(ey c2).1,by rw [List.length_set];exact(ey c2).2,?_⟩,fun c2=> ?_⟩,fun c=>⟨fun c2=>⟨(ey c2).1,(ey c2).2,(ey c2).1,(ey c2).2,?_⟩,fun c2=> ?_⟩⟩
  all_goals
    refine ay (fun(y:Int×Blk×List Bool×Unit)=>y.1<b'.ops.length∧y.2.1=b'∧y.2.2.1.length=b'.ops.length) (fun y=>(y.1+1).toNat) ⟨by dsimp only;omega,rfl,by simp only [List.length_set];omega⟩ ?_
    rintro⟨(j:Int),(b2:Blk),(kp2:List Bool),⟨⟩⟩ hI
    dsimp only at hI ⊢
    obtain⟨j1,rfl,j3⟩:=hI
    simp (disch:=omega) only [RR,RB,hp2,hf2,dx,List.length_set]
    refine⟨fun j0=> ?_,fun _ _=>j3⟩
    have op:=ok.op j j0 j1
    have ox:=op.x1
    have oy:=op.y1
    try simp only [show IntKind.i64.wrap (j-1)=j-1 from w64 (by omega) (by omega)]
    generalize ((b2.ops).getD (j).toNat default)=o at ox oy ⊢
    unfold hX at ox
    unfold hY at oy
    unfold Vl at ox oy
    repeat' (first | (refine⟨?_,?_⟩) | intro _)
    all_goals first | omega | (have:=ox (by omega);omega) | (have:=oy (by omega);omega) | rfl
end Go.TX.F
namespace Go.TX.F
open Go Go.AE Go.TX
theorem abI {p1:IOp×List Int×Unit→Bool} {f1:IOp×List Int×Unit→IOp×Unit} (hp1:∀o al,(hX o→0≤o.x∧o.x< (al.length:Int))→(hY o→0≤o.y∧o.y< (al.length:Int))→p1 (o,al,())=true) (hf1:∀o al,(hX o→0≤o.x∧o.x< (al.length:Int))→(hY o→0≤o.y∧o.y< (al.length:Int))→(f1 (o,al,())).1.kind=o.kind∧(f1 (o,al,())).1.k=o.k) (b:Blk) (kp:List Bool) (ok:jw b) (hk:kp.length=b.ops.length):Ia (std 0) p1 f1 (b,kp,()) (fun y=>y.2.2.2.2.2.2.1.length≤b.ops.length):=by
  have n48:=ok.sz
  dsimp only [Ia,Alg.cl,Alg.cg,Alg.rb,Alg.bd,Alg.l1,Tup.q,Tup.o]
  simp (disch:=omega) only [RR,RB]
  refine ay (fun(y:List Bool×Int×Blk×Int×Int×Int×Int×Int×Int×List IOp×List Int×Unit)=>y.1=kp∧0≤y.2.1∧y.2.1≤b.ops.length∧y.2.2.1=b∧(y.2.2.2.2.2.2.2.2.2.1.length:Int)≤y.2.1∧(y.2.2.2.2.2.2.2.2.2.2.1.length:Int)=y.2.1) (fun y=>((b.ops.length:Int)-y.2.1).toNat) ⟨rfl,by dsimp only;omega,by dsimp only;omega,rfl,by simp,rfl⟩ ?_
  rintro⟨(kp':List Bool),(k:Int),(b':Blk),u1,u2,u3,u4,u5,u6,(out:List IOp),(to:List Int),⟨⟩⟩ hI
  dsimp only at hI ⊢
  obtain⟨rfl,h1,h2,rfl,h3,h4⟩:=hI
  have A:k<b'.ops.length→∀z,p1 (((b'.ops).getD (k).toNat default),to++ [z],())=true:=fun h z=>by
    have op:=ok.op k h1 h
    refine hp1 _ _ (fun c=> ?_) (fun c=> ?_)
    · have:=op.x1 c;unfold Vl at this;rw [List.length_append];simp only [List.length_cons,List.length_nil];omega
    · have:=op.y1 c;unfold Vl at this;rw [List.length_append];simp only [List.length_cons,List.length_nil];omega
  have ex:¬k<b'.ops.length→¬b'.fin=1→0≤b'.x∧b'.x<to.length:=fun h c=>by have:=ok.en.x1 c;exact⟨this.1,by have:=this.2.1;omega⟩
  have ey:¬k<b'.ops.length→b'.fin=3∨b'.fin=4→0≤b'.y∧b'.y<to.length:=fun h c=>by have:=ok.en.y1 (by omega);exact⟨this.1,by have:=this.2.1;omega⟩
  simp (disch:=omega) only [RR,RB,List.length_append,List.length_cons,List.length_nil]
  refine⟨fun h=>⟨by omega,h1,by omega,fun _=>⟨h1,h,A h _,by omega,⟨by omega,by omega,by omega,by omega⟩,by omega⟩,fun _=>⟨⟨by omega,by omega,by omega,by omega⟩,by omega⟩⟩,fun h=> ?_⟩
  have ex:=ex h
  have ey:=ey h
  refine⟨fun c=>⟨(ex c).1,(ex c).2,(ex c).1,(ex c).2,fun c2=>⟨(ey c2).1,(ey c2).2,(ey c2).1,(ey c2).2,by omega⟩,fun _=>by omega⟩,fun c=>⟨fun c2=>⟨(ey c2).1,(ey c2).2,(ey c2).1,(ey c2).2,by omega⟩,fun _=>by omega⟩⟩
theorem abJ {p1:Blk×Unit→Bool} {f1:Blk×Unit→Bool×Unit} (hp1:∀b,b.ops.length<1000000000→p1 (b,())=true) (hf1:∀b,b.ops.length<1000000000→f1 (b,())=(bp (jw b),())) {p2:Blk×Unit→Bool} {f2:Blk×Unit→List Bool×Unit} (hp2:∀b,b.ops.length<1000000→p2 (b,())=true) (hf2:∀b,b.ops.length<1000000→(jw b→(f2 (b,())).1.length=b.ops.length)) {p3:Blk×List Bool×Unit→Bool} {f3:Blk×List Bool×Unit→Int×Int×Int×Int×Int×Int×List IOp×Unit} (hp3:∀b kp,jw b→kp.length=b.ops.length→p3 (b,kp,())=true) (hf3:∀b kp,jw b→kp.length=b.ops.length→(f3 (b,kp,())).2.2.2.2.2.2.1.length≤b.ops.length) (b:Blk) (hb:b.ops.length<1000000):Ie (std 0) p1 f1 p2 f2 p3 f3 (b,()) (fun y=>y.2.2.2.2.2.2.1.length≤b.ops.length):=by
  dsimp only [Ie,Alg.cl,Alg.cg,Alg.rb,Alg.bd,Alg.l1,Tup.q,Tup.o]
  simp (disch:=omega) only [RR,RB,hp1 b (by omega),hf1 b (by omega),hp2 b hb]
  refine⟨fun _=>Nat.zero_le _,fun h=> ?_⟩
  have ok:=bg.1 h
  exact⟨hp3 _ _ ok (hf2 b hb ok),hf3 _ _ ok (hf2 b hb ok)⟩
theorem abK {p1:Blk×Unit→Bool} {f1:Blk×Unit→Bool×Unit} (hp1:∀b,b.ops.length<1000000000→p1 (b,())=true) (hf1:∀b,b.ops.length<1000000000→f1 (b,())=(bp (jw b),())) {p2:Blk×List Bool×Unit→Bool} {f2:Blk×List Bool×Unit→Int×Int×Int×Int×Int×Int×List IOp×Unit} (hp2:∀b kp,jw b→kp.length=b.ops.length→p2 (b,kp,())=true) (hf2:∀b kp,jw b→kp.length=b.ops.length→(f2 (b,kp,())).2.2.2.2.2.2.1.length≤b.ops.length) {p3:List IOp×Int×Unit→Bool} {f3:List IOp×Int×Unit→Bool×Unit} (hp3:∀ops k,0≤k→k<ops.length→(ops.length:Int)<1000000→p3 (ops,k,())=true) (b:Blk) (hb:b.ops.length<1000000):Ib (std 0) p1 f1 p2 f2 p3 f3 (b,()) (fun y=>y.2.2.2.2.2.2.1.length≤b.ops.length):=by
  dsimp only [Ib,Alg.cl,Alg.cg,Alg.rb,Alg.bd,Alg.l1,Tup.q,Tup.o]
  simp (disch:=omega) only [RR,RB,hp1 b (by omega),hf1 b (by omega)]
  refine⟨fun _=>Nat.zero_le _,fun h=> ?_⟩
  have ok:=bg.1 h
  refine ay (fun(y:Int×Blk×Int×Int×Int×Int×Int×Int×List Bool×Unit)=>0≤y.1∧y.1≤b.ops.length∧y.2.1=b∧(y.2.2.2.2.2.2.2.2.1.length:Int)=y.1) (fun y=>((b.ops.length:Int)-y.1).toNat) ⟨by dsimp only;omega,by dsimp only;omega,rfl,rfl⟩ ?_
  rintro⟨(k:Int),(b':Blk),u1,u2,u3,u4,u5,u6,(kp:List Bool),⟨⟩⟩ hI
  dsimp only at hI ⊢
  obtain⟨h1,h2,rfl,h3⟩:=hI
  simp (disch:=omega) only [RR,RB,List.length_append,List.length_cons,List.length_nil]
  refine⟨fun h=>⟨h1,h,Or.inr (hp3 _ _ h1 h (by omega)),by omega,⟨by omega,by omega,by omega⟩,by omega⟩,fun h=> ?_⟩
  have e:kp.length=b'.ops.length:=by omega
  exact⟨hp2 _ _ ok e,hf2 _ _ ok e⟩
theorem abL {p1:Blk×Unit→Bool} {f1:Blk×Unit→Bool×Unit} (hp1:∀b,b.ops.length<1000000000→p1 (b,())=true) (hf1:∀b,b.ops.length<1000000000→f1 (b,())=(bp (jw b),())) {p2:IOp×List Int×Unit→Bool} {f2:IOp×List Int×Unit→IOp×Unit} (hp2:∀o al,(hX o→0≤o.x∧o.x< (al.length:Int))→(hY o→0≤o.y∧o.y< (al.length:Int))→p2 (o,al,())=true) (hf2:∀o al,(hX o→0≤o.x∧o.x< (al.length:Int))→(hY o→0≤o.y∧o.y< (al.length:Int))→(f2 (o,al,())).1.kind=o.kind∧(f2 (o,al,())).1.k=o.k) {p3:Blk×Unit→Bool} {f3:Blk×Unit→Int×Int×Int×Int×Int×Int×List IOp×Unit} (hp3:∀b,b.ops.length<1000000→p3 (b,())=true) (hf3:∀b,b.ops.length<1000000→f3 (b,())=(b.pc,b.len,b.fin,b.x,b.y,b.k,b.ops,())) (b:Blk) (hb:b.ops.length<1000000):Hw (std 0) p1 f1 p2 f2 p3 f3 (b,()) (fun y=>y.2.2.2.2.2.2.1.length≤b.ops.length):=by
  dsimp only [Hw,Alg.cl,Alg.cg,Alg.rb,Alg.bd,Alg.l1,Tup.q,Tup.o]
  simp (disch:=omega) only [RR,RB,hp1 b (by omega),hf1 b (by omega),hp3 b hb,hf3 b hb]
  refine⟨fun _=>Nat.zero_le _,fun h=> ?_⟩
  have ok:=bg.1 h
  have n48:=ok.sz
  refine ay (fun(y:Int×Int×Int×Int×Int×Int×Int×Int×Int×Int×Int×Int×Int×List Int×List Int×List IOp×Unit)=>0≤y.1∧y.1≤b.ops.length∧y.2.2.2.2.2.2.2.2.2.1=b.fin∧y.2.2.2.2.2.2.2.2.2.2.1=b.x∧y.2.2.2.2.2.2.2.2.2.2.2.1=b.y∧(y.2.2.2.2.2.2.2.2.2.2.2.2.2.1.length:Int)=y.1∧y.2.2.2.2.2.2.2.2.2.2.2.2.2.2.1.length=4∧
    y.2.2.2.2.2.2.2.2.2.2.2.2.2.2.2.1.length=b.ops.length∧∀j:Int,y.1≤j→((y.2.2.2.2.2.2.2.2.2.2.2.2.2.2.2.1).getD (j).toNat default)=((b.ops).getD (j).toNat default)) (fun y=>((b.ops.length:Int)-y.1).toNat) ⟨by dsimp only;omega,by dsimp only;omega,rfl,rfl,rfl,rfl,rfl,rfl,fun _ _=>rfl⟩ ?_
  rintro⟨(k:Int),u1,u2,u3,u4,u5,u6,b1,b2,b3,b4,b5,b6,(al:List Int),(la:List Int),(ops:List IOp),⟨⟩⟩ hI
  dsimp only at hI ⊢
  obtain⟨h1,h2,rfl,rfl,rfl,h3,h4,h5,h6⟩:=hI
  have e:=h6 k (Int.le_refl _)
  simp (disch:=omega) only [RR,RB,e,List.length_append,List.length_cons,List.length_nil,List.length_set]
  have fin:¬k<ops.length→(¬b.fin=1→0≤b.x∧b.x<al.length)∧(b.fin=3∨b.fin=4→0≤b.y∧b.y<al.length):=fun h=>⟨fun c=>by have:=ok.en.x1 c;exact⟨this.1,by have:=this.2.1;omega⟩,fun c=>by have:=ok.en.y1 (by omega);exact⟨this.1,by have:=this.2.1;omega⟩⟩
  refine⟨fun h=> ?_,fun h=> ?_⟩
  · have op:=ok.op k h1 (by omega)
    have hx:hX ((b.ops).getD (k).toNat default)→0≤((b.ops).getD (k).toNat default).x∧((b.ops).getD (k).toNat default).x< (al.length:Int):=fun c=>⟨(op.x1 c).1,by have:=(op.x1 c).2.1;omega⟩
    have hy:hY ((b.ops).getD (k).toNat default)→0≤((b.ops).getD (k).toNat default).y∧((b.ops).getD (k).toNat default).y< (al.length:Int):=fun c=>⟨(op.y1 c).1,by have:=(op.y1 c).2.1;omega⟩
    obtain⟨g1,g2⟩:=hf2 _ al hx hy
    have A:=hp2 _ al hx hy
    have k2:=op.k2
    have S:∀v j,k+1≤j→(ops.set k.toNat v).getD j.toNat default=((b.ops).getD (j).toNat default):=fun v j hj=>by
      rw [←h6 j (by omega)]
      simp only [List.getD,List.getElem?_set_ne (show k.toNat≠j.toNat by omega)]
    simp only [A]
    rw [←g1,←g2]at k2
    generalize (f2 (((b.ops).getD (k).toNat default),al,())).1=F at k2 ⊢
    repeat' (first | (refine⟨?_,?_⟩) | intro _)
    all_goals first | omega | exact True.intro | rfl | exact S _ _ (by assumption)
  · obtain⟨ex,ey⟩:=fin h
    refine⟨fun c=>⟨(ex c).1,(ex c).2,(ex c).1,(ex c).2,fun c2=>⟨(ey c2).1,(ey c2).2,(ey c2).1,(ey c2).2,by omega⟩,fun _=>by omega⟩,fun c=>⟨fun c2=>⟨(ey c2).1,(ey c2).2,(ey c2).1,(ey c2).2,by omega⟩,fun _=>by omega⟩⟩
end Go.TX.F
namespace Go.TX.F
open Go Go.AE Go.TX
structure BkD (m:Int) (n:Nat) (b:List Int) (p:Int) (y:Int×Int×Int×Int×Int×Int×List Int×Int×List IOp×Unit):Prop where
  b:y.2.2.2.2.2.2.1=b
  lo:p≤y.2.2.2.2.2.2.2.1
  hi:y.2.2.2.2.2.2.2.1≤p+m
  len:y.2.2.2.2.2.2.2.2.1.length≤n
theorem abM {p1:Int×List Ins×Unit→Bool} {f1:Int×List Ins×Unit→Int×Int×Int×Int×Int×Int×List IOp×Unit} (hp1:∀pc l,(l.length:Int)<1000→KB l→p1 (pc,l,())=true) (hf1:∀pc l,(l.length:Int)<1000→KB l→((f1 (pc,l,())).2.2.2.2.2.2.1.length:Int)≤5000) {p2:Blk×Unit→Bool} {f2:Blk×Unit→Int×Int×Int×Int×Int×Int×List IOp×Unit} (hp2:∀b,b.ops.length<1000000→p2 (b,())=true) (hf2:∀b,b.ops.length<1000000→(f2 (b,())).2.2.2.2.2.2.1.length≤b.ops.length) {p3:Blk×Unit→Bool} {f3:Blk×Unit→Int×Int×Int×Int×Int×Int×List IOp×Unit} (hp3:∀b,b.ops.length<1000000→p3 (b,())=true) (hf3:∀b,b.ops.length<1000000→(f3 (b,())).2.2.2.2.2.2.1.length≤b.ops.length) {p4:Int×List Int×Int×Unit→Bool} {f4:Int×List Int×Int×Unit→Int×List Int×Int×Unit} (hp4:∀n b p,Bt b→0≤p→p<1000000000→p4 (n,b,p,())=true) (hf4:∀n b p,Bt b→0≤p→p<1000000000→Pk n b p (f4 (n,b,p,()))) {p5:List Int×Int×Unit→Bool} {f5:List Int×Int×Unit→List Int×Int×List Ins×Unit} (hp5:∀b p,Bt b→0≤p→p<700000000→p5 (b,p,())=true) (hf5:∀b p,Bt b→0≤p→p<700000000→LiD b p (f5 (b,p,()))) (b:List Int) (p:Int) (hb:Bt b) (h1:0≤p) (h2:p<600000000):IE (std 0) p1 f1 p2 f2 p3 f3 p4 f4 p5 f5 (b,p,()) (fun y=>BkD 2000 5000 b p y):=by
  obtain⟨a1,a2,a3,a4,a5⟩:=hf5 b p hb h1 (by omega)
  have R:=pkR hb hf4
  have P:=fun n p h1 h2=>hp4 n b p hb h1 h2
  have L:=fun pc=>hf1 pc _ (show((f5 (b,p,())).2.2.1.length:Int)<1000 by omega) a5
  have O1:=fun c (h:c.ops.length≤5000)=>hp2 c (by omega)
  have O2:=fun c (h:c.ops.length≤5000)=>hf2 c (by omega)
  have O3:=fun c (h:c.ops.length≤5000)=>hp3 c (by omega)
  have O4:=fun c (h:c.ops.length≤5000)=>hf3 c (by omega)
  dsimp only [IE,Alg.cl,Alg.cg,Alg.rb,Alg.bd,Alg.l1,Tup.q,Tup.o]
  simp (disch:=omega) only [RR,hp5 b p hb h1 (by omega),a1,R,P,hp1 _ _ (show((f5 (b,p,())).2.2.1.length:Int)<1000 by omega) a5,List.length_cons,List.length_nil]
  have L':∀pc,(f1 (pc,(f5 (b,p,())).2.2.1,())).2.2.2.2.2.2.1.length≤5000:=fun pc=>by have:=L pc;omega
  refine⟨fun _=>⟨O1 _ (L' _),rfl,by dsimp only;omega,by dsimp only;omega,Nat.le_trans (O2 _ (L' _)) (L' _)⟩,fun _=>⟨fun _=>⟨O3 _ (L' _),rfl,by dsimp only;omega,by dsimp only;omega,Nat.le_trans (O4 _ (L' _)) (L' _)⟩,fun _=>⟨rfl,by dsimp only;omega,by dsimp only;omega,L' _⟩⟩⟩
end Go.TX.F
namespace Go.TX.F
open Go Go.AE Go.TX
theorem abN {p1:Int×List Int×Int×Unit→Bool} {f1:Int×List Int×Int×Unit→Int×List Int×Int×Unit} (hp1:∀n b p,Bt b→0≤p→p<1000000000→p1 (n,b,p,())=true) (hf1:∀n b p,Bt b→0≤p→p<1000000000→Pk n b p (f1 (n,b,p,()))) {p2:Blk×Unit→Bool} {f2:Blk×Unit→Int×Int×Int×Int×Int×Int×List IOp×Unit} (hp2:∀b,b.ops.length<1000000→p2 (b,())=true) (hf2:∀b,b.ops.length<1000000→f2 (b,())=(b.pc,b.len,b.fin,b.x,b.y,b.k,b.ops,())) (c:Blk) (b:List Int) (p:Int) (hc:c.ops.length<1000000) (hb:Bt b) (h1:0≤p) (h2:p<900000000):Dj (std 0) p1 f1 p2 f2 (c,b,p,()) (fun y=>BkD 20 c.ops.length b p y):=by
  have R:=pkR hb hf1
  have P:=fun n p h1 h2=>hp1 n b p hb h1 h2
  by_cases z:(c.ops.length:Int)=0
  · dsimp only [Dj,Alg.cl,Alg.cg,Alg.rb,Alg.bd,Alg.l1,Tup.q,Tup.o]
    simp (disch:=omega) only [RR,RB,hp2 c hc,hf2 c hc,z]
    exact⟨rfl,by dsimp only;omega,by dsimp only;omega,Nat.le_refl _⟩
  have B:=(hf1 c.ops.length b p hb h1 (by omega)).2.2
  have W:IntKind.i64.wrap ((f1 (c.ops.length,b,p,())).1-1)=(f1 (c.ops.length,b,p,())).1-1:=w64 (by omega) (by omega)
  dsimp only [Dj,Alg.cl,Alg.cg,Alg.rb,Alg.bd,Alg.l1,Tup.q,Tup.o]
  simp (disch:=omega) only [RR,RB,hp2 c hc,hf2 c hc,R,P,z,List.length_set,W]
  repeat' (first | (refine And.intro ?_ ?_) | intro _)
  all_goals first | omega | exact⟨rfl,by dsimp only;omega,by dsimp only;omega,by dsimp only [ZU];simp only [List.length_set,List.length_take,List.length_drop];omega⟩ | exact⟨rfl,by dsimp only;omega,by dsimp only;omega,by simp only [List.length_drop,List.length_take];omega⟩ | exact⟨rfl,by dsimp only;omega,by dsimp only;omega,Nat.le_refl _⟩
structure BoD (b:List Int) (p:Int) (y:Blk×List Int×Int×Unit):Prop where
  len:y.1.ops.length<100000
  b:y.2.1=b
  lo:p≤y.2.2.1
  hi:y.2.2.1≤p+5000
theorem abO {p1:Int×List Int×Int×Unit→Bool} {f1:Int×List Int×Int×Unit→Bool×List Int×Int×Unit} (hp1:∀n b p,Bt b→0≤p→p<1000000000→p1 (n,b,p,())=true) (hf1:∀n b p,Bt b→0≤p→p<1000000000→(f1 (n,b,p,())).2.1=b∧(f1 (n,b,p,())).2.2.1=p+1) {p2:Int×List Int×Int×Unit→Bool} {f2:Int×List Int×Int×Unit→Int×List Int×Int×Unit} (hp2:∀n b p,Bt b→0≤p→p<1000000000→p2 (n,b,p,())=true) (hf2:∀n b p,Bt b→0≤p→p<1000000000→Pk n b p (f2 (n,b,p,()))) {p3:Blk×List Int×Int×Unit→Bool} {f3:Blk×List Int×Int×Unit→Int×Int×Int×Int×Int×Int×List Int×Int×List IOp×Unit} (hp3:∀c b p,c.ops.length<1000000→Bt b→0≤p→p<900000000→p3 (c,b,p,())=true) (hf3:∀c b p,c.ops.length<1000000→Bt b→0≤p→p<900000000→BkD 20 c.ops.length b p (f3 (c,b,p,()))) {p4:List Int×Int×Unit→Bool} {f4:List Int×Int×Unit→Int×Int×Int×Int×Int×Int×List Int×Int×List IOp×Unit} (hp4:∀b p,Bt b→0≤p→p<600000000→p4 (b,p,())=true) (hf4:∀b p,Bt b→0≤p→p<600000000→BkD 2000 5000 b p (f4 (b,p,()))) (n:Int) (b:List Int) (p:Int) (hb:Bt b) (h1:0≤p) (h2:p<500000000):IV (std 0) p1 f1 p2 f2 p3 f3 p4 f4 (n,b,p,()) (fun y=>BoD b p y):=by
  obtain⟨a1,a2,a3,a4⟩:=hf4 b p hb h1 (by omega)
  have H4:=hp4 b p hb h1 (by omega)
  have R:=pkR hb hf2
  have P:=fun n p h1 h2=>hp2 n b p hb h1 h2
  have R1:=fun n p h1 h2=>(hf1 n b p hb h1 h2).1
  have R2:=fun n p h1 h2=>(hf1 n b p hb h1 h2).2
  have P1:=fun n p h1 h2=>hp1 n b p hb h1 h2
  dsimp only [IV,Alg.cl,Alg.cg,Alg.rb,Alg.bd,Alg.l1,Tup.q,Tup.o]
  simp (disch:=omega) only [RR,RB,H4,a1,R,P,R1,R2,P1,List.length_cons,List.length_nil,List.length_append]
  repeat' (first | (refine And.intro ?_ ?_) | intro _)
  all_goals try omega
  all_goals try exact BoD.mk (show(f4 (b,p,())).2.2.2.2.2.2.2.2.1.length<100000 by omega) rfl (by dsimp only;omega) (by dsimp only;omega)
  all_goals try exact hp3 _ _ _ (show(f4 (b,p,())).2.2.2.2.2.2.2.2.1.length<1000000 by omega) hb (by omega) (by omega)
  all_goals try exact BoD.mk (show(_++ [_]).length<100000 by rw [List.length_append,List.length_singleton];omega) rfl (by dsimp only;omega) (by dsimp only;omega)
  all_goals try exact(fun h=>BoD.mk (Nat.lt_of_le_of_lt h.len (show(f4 (b,p,())).2.2.2.2.2.2.2.2.1.length<100000 by omega)) h.b (by have:=h.lo;dsimp only;omega) (by have:=h.hi;dsimp only;omega)) (hf3 _ _ _ (show(f4 (b,p,())).2.2.2.2.2.2.2.2.1.length<1000000 by omega) hb (by omega) (by omega))
  all_goals
    refine ay (fun(y:List Int×Int×Int×Int×Int×Int×Int×Int×Int×Int×Int×Int×Int×Int×List IOp×Unit)=>y.1=b∧p≤y.2.1∧y.2.1≤p+5000∧y.2.2.2.2.2.2.2.2.2.2.2.2.2.2.1.length<50000) (fun y=>50-y.2.2.2.2.2.2.2.2.2.2.2.2.2.2.1.length) ⟨rfl,by dsimp only;omega,by dsimp only;omega,by dsimp only;omega⟩ ?_
    rintro⟨(b':List Int),(q:Int),u1,u2,u3,u4,u5,u6,b1,b2,b3,b4,b5,b6,(ops:List IOp),⟨⟩⟩ hI
    dsimp only at hI ⊢
    obtain⟨rfl,h3,h4,h5⟩:=hI
    simp (disch:=omega) only [RR,List.length_append,List.length_cons,List.length_nil]
    refine⟨fun h=>⟨by omega,⟨by omega,by omega,by omega⟩,by omega⟩,fun h=>⟨show ops.length<100000 by omega,rfl,by dsimp only;omega,by dsimp only;omega⟩⟩
end Go.TX.F
namespace Go.TX.F
open Go Go.AE Go.TX
theorem abP {p1:List Int×Unit→Bool} {f1:List Int×Unit→List Int×Int×Unit} (hp1:∀b,By b→b.length<1000000000→p1 (b,())=true) (hf1:∀b,By b→b.length<1000000000→Bt (f1 (b,())).1∧(f1 (b,())).2.1=0) {p2:Int×List Int×Int×Unit→Bool} {f2:Int×List Int×Int×Unit→Blk×List Int×Int×Unit} (hp2:∀n b p,Bt b→0≤p→p<500000000→p2 (n,b,p,())=true) (hf2:∀n b p,Bt b→0≤p→p<500000000→BoD b p (f2 (n,b,p,()))) {p3:Int×List Int×Int×Unit→Bool} {f3:Int×List Int×Int×Unit→List Int×Int×List Atom×Unit} (hp3:∀n b p,Bt b→0≤p→p<300000000→p3 (n,b,p,())=true) (hf3:∀n b p,Bt b→0≤p→p<300000000→(f3 (n,b,p,())).1=b∧p≤(f3 (n,b,p,())).2.1∧(f3 (n,b,p,())).2.1≤p+20000∧ShT (f3 (n,b,p,())).2.2.1∧0< (f3 (n,b,p,())).2.2.1.length) (c:List Int) (hc:By c) (hl:c.length<1000000000):Jl (std 0) p1 f1 p2 f2 p3 f3 (c,()) (fun y=>ShT y.1∧0<y.1.length∧y.2.1.ops.length<100000):=by
  obtain⟨hb,e0⟩:=hf1 c hc hl
  generalize hbe:(f1 (c,())).1=b at hb
  obtain⟨a1,a2,a3,a4,a5⟩:=hf3 20 b 0 hb (by omega) (by omega)
  obtain⟨b1,b2,b3,b4⟩:=hf2 14 b (f3 (20,b,0,())).2.1 hb (by omega) (by omega)
  dsimp only [Jl,Alg.cl,Alg.cg,Alg.rb,Alg.bd,Alg.l1,Tup.q,Tup.o]
  simp (disch:=omega) only [RR,hp1 c hc hl,hbe,e0,hp3 20 b 0 hb (by omega) (by omega),a1,hp2 14 b (f3 (20,b,0,())).2.1 hb (by omega) (by omega)]
  exact⟨a4,a5,b1⟩
end Go.TX.F
namespace Go.TX.F
open Go Go.AE Go.TX
theorem ag3 {p1:List aj×List aj×Unit→Bool} {f1:List aj×List aj×Unit→Bool×Unit} (hp1:∀a b,Sh a→p1 (a,b,())=true) (hf1:∀a b,Sh a→f1 (a,b,())=(bp (a=b),())) (a b:List (List aj)) (ha:ShP a):Qj (std 0) p1 f1 (a,b,()) (fun y=>y=(bp (a=b),())):=by
  have hlen:=ha.1
  dsimp only [Qj,Alg.cl,Alg.cg,Alg.rb,Alg.bd,Alg.l1,Tup.q,Tup.o]
  simp (disch:=omega) only [RR]
  refine⟨fun h=> ?_,fun h=> ?_⟩
  · rw [fK (fun e=>h (by rw [e]))]
  have hl:a.length=b.length:=by omega
  refine ay (fun(y:List (List aj)×List (List aj)×Int×Unit)=>y.1=a∧y.2.1=b∧0≤y.2.2.1∧y.2.2.1≤a.length∧All y.2.2.1 (fun i=>a.getD i.toNat default=b.getD i.toNat default)) (fun y=>(a.length-y.2.2.1).toNat) ⟨rfl,rfl,by simp,by simp,All.zero⟩ ?_
  rintro⟨(l1:List (List aj)),(l2:List (List aj)),(i:Int),⟨⟩⟩ hI
  dsimp only at hI ⊢
  obtain⟨rfl,rfl,h1,h2,h3⟩:=hI
  simp (disch:=omega) only [RR,hp1 _ _ (ha.at _),hf1 _ _ (ha.at _),bg,lT]
  refine⟨fun h4=>⟨by omega,by omega,by omega,by omega,fun h5=> ?_,fun h5=>⟨⟨by omega,by omega,h3.snoc h5⟩,by omega⟩⟩,fun h4=> ?_⟩
  · rw [fK]
    intro e;rw [e]at h5;exact h5 rfl
  · rw [eF (Ey hl (h3.le (by omega)))]
theorem ag4 {p1:List aj×List aj×Unit→Bool} {f1:List aj×List aj×Unit→Bool×Unit} (hp1:∀a b,Sh a→p1 (a,b,())=true) (hf1:∀a b,Sh a→f1 (a,b,())=(bp (a=b),())) {p2:List (List aj)×List (List aj)×Unit→Bool} {f2:List (List aj)×List (List aj)×Unit→Bool×Unit} (hp2:∀a b,ShP a→p2 (a,b,())=true) (hf2:∀a b,ShP a→f2 (a,b,())=(bp (a=b),())) (a b:Sym) (he:a=b) (ha:ShY a):Qk (std 0) p1 f1 p2 f2 (a,b,()) (fun y=>y=(true,())):=by
  subst he
  have hl:=ha.e.1
  dsimp only [Qk,Alg.cl,Alg.cg,Alg.rb,Alg.bd,Alg.l1,Tup.q,Tup.o]
  simp (disch:=omega) only [RR,RB,hp2 _ _ ha.r,hf2 _ _ ha.r,hp1 _ _ ha.x,hf1 _ _ ha.x,hp1 _ _ ha.y,hf1 _ _ ha.y,eF True.intro]
  refine ay (fun(y:Int×Sym×Sym×Unit)=>y.2.1=a∧y.2.2.1=a∧0≤y.1) (fun y=>(a.events.length-y.1).toNat) ⟨rfl,rfl,by dsimp only;omega⟩ ?_
  rintro⟨(i:Int),(l1:Sym),(l2:Sym),⟨⟩⟩ hI
  dsimp only at hI ⊢
  obtain⟨rfl,rfl,h1⟩:=hI
  have he:=ha.e.at i.toNat
  simp (disch:=omega) only [RR,RB,hp2 _ _ he.2.2,hf2 _ _ he.2.2,hp1 _ _ he.1,hf1 _ _ he.1,hp1 _ _ he.2.1,hf1 _ _ he.2.1,eF True.intro]
  exact fun h=>by
    rw [w64 (by omega) (by omega)]
    exact⟨by omega,by omega,by omega,by omega⟩
end Go.TX.F
namespace Go.TX.F
open Go Go.AE Go.TX
theorem ag5 {p1:List Atom×Blk×Unit→Bool} {f1:List Atom×Blk×Unit→List Atom×Sym×Unit} (hp1:∀t b,ShT t→b.ops.length<1000000000→p1 (t,b,())=true) (hf1:∀t b,ShT t→b.ops.length<1000000000→f1 (t,b,())=((cB t b).1,(cB t b).2,())) {p2:Unit→Bool} {f2:Unit→Bool×Unit} (hp2:p2 ()=true) (hf2:f2 ()=(true,())) {p3:Sym×Sym×Unit→Bool} {f3:Sym×Sym×Unit→Bool×Unit} (hp3:∀a b,a=b→ShY a→p3 (a,b,())=true) (hf3:∀a b,a=b→ShY a→f3 (a,b,())=(true,())) {p4:List Atom×List Atom×Unit→Bool} {f4:List Atom×List Atom×Unit→Bool×Unit} (hp4:∀a b,ShT a→p4 (a,b,())=true) (hf4:∀a b,ShT a→f4 (a,b,())=(bp (a=b),())) {p5:List Int×Unit→Bool} {f5:List Int×Unit→List Atom×Blk×Unit} (hp5:∀c,By c→c.length<1000000000→p5 (c,())=true) (hf5:∀c,By c→c.length<1000000000→ShT (f5 (c,())).1∧0< (f5 (c,())).1.length∧(f5 (c,())).2.1.ops.length<100000) (c:List Int) (hc:By c):Q9 (std 0) p1 f1 p2 f2 p3 f3 p4 f4 p5 f5 (c,()) (fun y=>y=(true,())):=by
  dsimp only [Q9,Alg.cl,Alg.cg,Alg.rb,Alg.bd,Alg.l1,Tup.q,Tup.o]
  simp (disch:=omega) only [RR]
  by_cases hl:1048576< (c.length:Int)
  · simp (disch:=omega) only [RR,hl]
  · obtain⟨s1,s2,s3⟩:=hf5 c hc (by omega)
    have P5:=hp5 c hc (by omega)
    generalize (f5 (c,())).1=t at s1 s2 ⊢
    generalize (f5 (c,())).2.1=b at s3 ⊢
    have tl:=s1.1
    simp (disch:=omega) only [RR,hl,P5,RB,hp1 t b s1 (by omega),hf1 t b s1 (by omega),hp2,hf2]
    refine fun h0=> ?_
    have ok:aJ t∧t.length≤100∧jw b:=by
      by_cases h:aJ t∧t.length≤100∧jw b
      · exact h
      · exact absurd (show((cB t b).1.length:Int)=0 by unfold cB;rw [if_neg (by rw [fK h];decide)];rfl) h0
    have S:=Ri ok.1 ok.2.1 ok.2.2
    have K:=K6 ok.1 ok.2.1 ok.2.2
    have sz:=ok.2.2.sz
    have pl:=AU K.2.1
    have on:=fun h=>K4 ok.1 ok.2.1 ok.2.2 K.1 h (List.prefix_refl _)
    have sh:=S.sh
    have le:=K.2.2
    have tk:(cB t b).1.take t.length=t:=(List.prefix_iff_eq_take.1 K.2.1).symm
    generalize (cB t b).2=s at on sh ⊢
    generalize (cB t b).1=u at K on pl le h0 tk ⊢
    have e1:List.drop (Int.toNat 0) (List.take ((t.length:Int)).toNat u)=t:=by
      rw [show((t.length:Int)).toNat=t.length by omega,tk];rfl
    rw [e1,hf4 t t s1,eF rfl]
    refine⟨by omega,by omega,by omega,Or.inr (hp4 t t s1),fun h=> ?_,fun _ h=> ?_⟩
    · rcases h with h | h
      · exact absurd h (by omega)
      · cases h
    · have us:=K.1.sh
      have on:=on (by omega)
      rw [hf1 u b us (by omega),on,hp4 u u us,hf4 u u us,eF rfl,hf3 s s rfl sh,hp3 s s rfl sh]
      exact⟨hp1 u b us (by omega),rfl,Or.inr rfl,rfl⟩
end Go.TX.F
namespace Go.TX.F
open Go Go.AE Go.TX
end Go.TX.F
namespace Go.TX
open Go Go.AE
theorem enters_of {P:Program} {f:FuncId} {fn:Func} {c:Code} (hf:P.funcs[f]? =some fn) (hname:(fn.name== "runtime.NumGoroutine")=false) (hb:fn.body=some c):Enters P f:=by
  intro args w
  have h1:fn.name≠ "runtime.NumGoroutine" :=by simpa using hname
  simp [callFunc,hf,h1,hb,mark]
def Wo (P:Program):Nat→List Field→Bool
  | _,[]=>true
  | k,f::fs=> !(f.name== "_")&&f.offset==k&& (match P.underlying f.type with | some (.int _)=>true | _=>false)&&Wo P (k+1) fs
theorem Wp {P:Program} (w:World) (d:Nat) (xs ys:List Int) (hl:xs.length=ys.length):∀(fs:List Field) (k:Nat),Wo P k fs=true→k+fs.length=xs.length→
    (Op.eqFields (d+1) (xs.map (Value.int .i64)).toArray (ys.map (Value.int .i64)).toArray fs).run P w= .ok (xs.drop k==ys.drop k) w
  | [],k,_,h2=>by
    rw [List.drop_eq_nil_of_le (show xs.length≤k by simp only [List.length_nil]at h2;omega),List.drop_eq_nil_of_le (show ys.length≤k by simp only [List.length_nil]at h2;omega)]
    simp [Op.eqFields]
  | f::fs,k,h1,h2=>by
    simp only [List.length_cons]at h2
    simp only [Wo,Bool.and_eq_true,Bool.not_eq_true',beq_eq_false_iff_ne,beq_iff_eq]at h1
    obtain⟨⟨⟨n1,n2⟩,n3⟩,n4⟩:=h1
    have hk:k<xs.length:=by omega
    have hk':k<ys.length:=by omega
    obtain⟨kd,hu⟩:∃kd,P.underlying f.type=some (.int kd):=by
      cases hu:P.underlying f.type with
      | none=>rw [hu]at n3;cases n3
      | some z=>cases z<;>(first | exact⟨_,rfl⟩ | (rw [hu]at n3;cases n3))
    have pk:P.plainKey f.type=true:=by unfold Program.plainKey;rw [hu]
    have p1:=run_part_plain w pk (xs:=(xs.map (Value.int .i64)).toArray) (off:=f.offset) (v:= .int .i64 xs[k]) (by rw [n2];simp [hk])
    have p2:=run_part_plain w pk (xs:=(ys.map (Value.int .i64)).toArray) (off:=f.offset) (v:= .int .i64 ys[k]) (by rw [n2];simp [hk'])
    have ih:=Wp w d xs ys hl fs (k+1) n4 (by omega)
    simp only [Op.eqFields,if_pos n1,Sem.run_bind,p1,p2,Result.andThen_ok,run_equalIn_int w d f.type .i64 kd _ _ hu]
    have e:(xs.drop k==ys.drop k)=((xs[k]==ys[k])&& (xs.drop (k+1)==ys.drop (k+1))):=by rw [List.drop_eq_getElem_cons hk,List.drop_eq_getElem_cons hk'];rfl
    rw [e]
    by_cases c:(xs[k]==ys[k])=true
    · rw [c]
      simp only [Bool.not_true,Bool.false_eq_true,if_false,ih,Bool.true_and]
    · have c2:(xs[k]==ys[k])=false:=by simpa using c
      rw [c2]
      simp only [Bool.not_false,if_true,Sem.run_pure,Bool.false_and]
theorem amJ {P:Program} {t:TypeId} {n:Nat} (hu:P.underlying t=some (.struct (P.fieldsOf t))) (hs:P.stoodInHeld t=false) (hg:P.eqGuardType P.depth t=false) (hf:Wo P 0 (P.fieldsOf t).toList=true) (hn:(P.fieldsOf t).size=n) (xs ys:List Int) (hx:xs.length=n) (hy:ys.length=n) (w:World):
    (Op.equal t (.agg (xs.map (Value.int .i64)).toArray) (.agg (ys.map (Value.int .i64)).toArray)).run P w= .ok (xs==ys) w∧
    (eqGuard .eql t (.tmp 0) (.tmp 0) (.agg (xs.map (Value.int .i64)).toArray) (.agg (ys.map (Value.int .i64)).toArray)).run P w= .ok () w:=by
  refine⟨?_,run_eqGuard_agg w _ _ _ _ _ _ hg⟩
  show(Op.equalIn (9999+1) t _ _).run P w=_
  rw [run_equalIn_struct w 9999 t _ _ hu hs,Wp w 9998 xs ys (by omega) _ 0 hf (by rw [Array.length_toList];omega)]
  rfl
noncomputable def never (s:Sig):Ct ak s:={pre:=fun _=>false,fn:=fun _=>Classical.choice (wN _)}
theorem lJ {E:Tab} {f:FuncId} {s:Sig} (h:Enters E.P f):dG E f (dD (never s)) where
  enters:=h
  calls:=by
    rintro args hh n K ⟨m,vs,h2,h3,h4,h5,cr,h6,h7,h8⟩
    exfalso
    unfold tT at h6
    split at h6
    · split at h6
      · split at h6
        · split at h6
          · cases h6
            have:=h7 false (List.mem_append_right _ (List.mem_singleton.2 rfl))
            cases this
          · cases h6
        · cases h6
      · cases h6
    · cases h6
abbrev arM:Sig:={args:=[.c (.rows true .u8)],objs:=[],res:=[.c .bool],d9:=[]}
def entry (W:World):Ctx:={K:=fun _ b=>b<W.heap.size,μ:=fun _=>none,n:=0}
theorem TW (W:World):bN (entry W) W []:=
  ⟨fun l o h=>(by cases h),fun l o l' o' b h=>(by cases h),fun f b ⟨l,o,h,_⟩=>(by cases h),fun f b h=>h,fun b h=>h⟩
theorem Rl {W W':World} {c':Ctx} {h':Heap} (g:Grow (entry W) W [] c' W' h'):RowKit.Below W.heap.size W W':=
  ⟨g.os,g.tape,g.output,g.size,fun k hk=>g.kept k hk fun⟨l,o,h,_⟩=>by cases h⟩
theorem afr {c:Ctx} {w:World} {v:Value} {r:PV} {N:NM} {b:Bool} (h1:bM c w v r) (h2:PVR N r (.c (.d true (.bool b)))):v= .bool b:=by
  cases h2 with
  | one h=>
    cases h with
    | c h=>
      cases h with
      | d h3 _=>
        subst h3
        cases h1 with
        | c _ _ h4=>cases h4 with
          | d _ _ _ h5=>cases h5;rfl
    | agg h=>cases h
theorem arN {E:Tab} {f:FuncId} {c:Ct ak arM} (hc:dG E f (dD c)) {xs:List Int} {W:World} {v:Value} (hv:dW (fun b=>b<W.heap.size) W v (.rows 1 (aQ .u8 xs)))
    (hg:tq E (entry W) W) (hp:c.pre (xs,())=true):Go.Calls E.P f #[v] W fun e W'=>e= .returned (.bool (c.fn (xs,())).1)∧RowKit.Below W.heap.size W W':=by
  refine(hc.calls [.c (.d true (.rows 1 (aQ .u8 xs)))] [] 0 (fun r _ _=>PVR (nmh []) r (.c (.d true (.bool (c.fn (xs,())).1)))) ?_ (entry W) W [v] rfl (.cons (.c _ _ (.d true _ _ hv)) .nil) (TW W) hg).mono ?_
  · refine⟨0,[.c (.d true (.rows .u8 xs))],[],.cons (.one (.c (.d rfl fun _=> .inl rfl))) .nil,⟨fun l o h=>(by cases h),fun _ _=>rfl⟩,rfl,_,rfl,?_,_,_,rfl,?_⟩
    · intro b hb
      rcases List.mem_append.1 hb with h | h
      · cases h
      · rw [List.mem_singleton]at h;rw [h];exact hp
    · intro r _ _ h _ _ _;exact h
  · rintro e W' he
    cases e with
    | returned u=>
      obtain⟨c',r,h',j,g,_,_,h1,h2⟩:=he
      exact⟨by rw [afr h1 h2],Rl g⟩
    | outgrown=>exact he.elim
    | panicked _=>exact he.elim
open Go.RowKit Go.ChangeShapes Go.WideShapes Go.ChangeAt in
theorem abQ {H:Type} {enc:TypeId×Value→H} {P:Program} {t e:TypeId} (ht:P.underlying t=some (.slice e)) (he:P.underlying e=some (.int .u8)) (hc:P.cellsOf e=1) {W:World} {base:Nat} {v:Value} {d:DataW H} {p:List MemPlace}
    (hval:Value.okWide P W .any base t v) (h:DataW.Trod enc P W 0 (fun _=>true) true t v d p) (hlt:∀x∈p,x.block<W.heap.size):
    ∃xs:List Int,dW (fun b=>b<W.heap.size) W v (.rows 1 (aQ .u8 xs))∧∀z∈xs,0≤z∧z≤255:=by
  obtain⟨a0,len,cap,rfl⟩:=okWide_slice ht hval
  obtain⟨fuel,hf⟩:=h
  rcases open_ints ht he hc hf with⟨hcs,hx⟩ | ⟨a,len',cap',zs,hcs,_,hl,hm,hz,hx,hcell,hwz⟩
  · simp [Value.cells]at hcs
    obtain⟨rfl,rfl,rfl⟩:=hcs
    exact⟨[],.none _ _ _,fun _ h=>by cases h⟩
  · simp [Value.cells]at hcs
    obtain⟨rfl,rfl,rfl⟩:=hcs
    simp only [Prod.mk.injEq]at hx
    obtain⟨rfl,rfl⟩:=hx
    simp only [if_true]at hz
    have rng:∀z∈zs,0≤z∧z≤255:=fun z hz=>by
      obtain⟨i,hi,rfl⟩:=List.getElem_of_mem hz
      have:=range_u8 hwz i
      rwa [List.getElem?_eq_getElem hi]at this
    refine⟨zs.take len,?_,fun z h=>rng z (List.mem_of_mem_take h)⟩
    by_cases h0:len=0
    · subst h0;exact .none _ _ _
    · obtain⟨b,off,spot⟩:=a
      have hspot:spot=none:=by simpa [Addr.add]using World.cell?_spot (hcell 0 (by omega))
      subst hspot
      have hbW:b<W.heap.size:=hlt (.cell b off) (MemPlace.mem_row.2 ⟨0,by omega,by simp⟩)
      have hlen:(aQ .u8 (zs.take len)).length=len:=by simp only [aQ,List.length_map,List.length_take];omega
      have hget:∀i,i<len→(aQ .u8 (zs.take len)).getD i []=[.int .u8 (zs.getD i 0)]:=fun i hi=>by
        simp only [aQ,List.getD,List.getElem?_map,List.getElem?_take_of_lt hi,List.getElem?_eq_getElem (show i<zs.length by omega)]
        rfl
      refine .rows b off cap 1 len _ (fun i j=> .int .u8 (zs.getD i 0)) hbW hlen.symm hl (fun i j hi hj=> ?_) (fun i hi=> ?_) (fun i j hi hj=> ?_)
      · rw [hlen]at hi
        have:=hcell i (by omega)
        rw [add_plain]at this
        rw [show off+i*1+j=off+i by omega]
        exact this
      · rw [hlen]at hi;rw [hget i hi];rfl
      · rw [hlen]at hi
        have hj0:j=0:=by omega
        subst hj0
        unfold gd;rw [hget i hi];exact .int _ _
end Go.TX
namespace Go.TX.Seat
open Go Go.AE Go.TX Go.TX.F Go.Proofs
set_option maxRecDepth 100000
theorem arO:∀t n,E.ieq t=some n→∀(xs ys:List Int),xs.length=n→ys.length=n→∀w,
    (Op.equal t (.agg (xs.map (Value.int .i64)).toArray) (.agg (ys.map (Value.int .i64)).toArray)).run E.P w= .ok (xs==ys) w∧
    (eqGuard .eql t (.tmp 0) (.tmp 0) (.agg (xs.map (Value.int .i64)).toArray) (.agg (ys.map (Value.int .i64)).toArray)).run E.P w= .ok () w:=by
  intro t n h
  obtain⟨c,hc,rfl⟩:∃c,ieq t=some c∧c.size=n:=by
    have h':(ieq t).map (fun c=>c.size)=some n:=h
    cases hi:ieq t with
    | none=>rw [hi]at h';cases h'
    | some c=>rw [hi]at h';cases h';exact⟨c,rfl,rfl⟩
  unfold ieq at hc
  split at hc
  all_goals first | (cases hc;exact amJ (by kernel_rfl) (by kernel_rfl) (by kernel_rfl) (by kernel_rfl) (by kernel_rfl)) | cases hc
theorem hE:aJ E:=⟨arC,arO⟩
theorem arP:∀t c,X.ieq t=some c→(c= .ins∧E.ieq t=some 4)∨(c= .iop∧E.ieq t=some 5):=by
  intro t c h
  have h:ieq t=some c:=h
  have e:E.ieq t=(ieq t).map fun c=>c.size:=rfl
  rw [e,h]
  unfold ieq at h
  split at h
  all_goals first | (cases h;first | exact Or.inl ⟨rfl,rfl⟩ | exact Or.inr ⟨rfl,rfl⟩) | cases h
theorem xok:XOK X E:=⟨rfl,fun g c h=>(by cases h),arP⟩
theorem hm:E.P.follows .mixedOrders=true:=by kernel_rfl
theorem hlN:∀p∈([]:List (FuncId×Sigma (Ct ak))),dG E p.1 (dD p.2.2):=fun _ h=>by cases h
theorem hlC {f:FuncId} {s:Sig} {c:Ct ak s} {l:List (FuncId×Sigma (Ct ak))} (h:dG E f (dD c)) (r:∀p∈l,dG E p.1 (dD p.2.2)):∀p∈(f,⟨s,c⟩)::l,dG E p.1 (dD p.2.2):=fun p hp=>by
  rcases List.mem_cons.1 hp with rfl | hp
  · exact h
  · exact r p hp
theorem mk {lk:aI} {f:FuncId} {fn:Func} (hf:E.P.funcs[f]? =some fn) (hb:fn.body.isSome=true) (hn:(fn.name== "runtime.NumGoroutine")=false) {l:List (FuncId×Sigma (Ct ak))} (hl:∀p∈l,dG E p.1 (dD p.2.2)) {ord:List (Nat×List fJ)} {s:Sig} {an:Ann}
    {F:jd s.inp→(jd s.out→Prop)→Prop} (h:Ru X E (std 0) ord an s fn l F):Fn E f F (cn F):=aqU hE xok hm hf hb (fun _=>enters_of hf hn) hl h
theorem abR {E:Tab} {f:FuncId} {c:Ct ak {args:=[.c (.int .u64)],objs:=[],res:=[.c (.int .i64)],d9:=[]}} {g:Int→Int} (hent:Enters E.P f) (hg:(fun x:Int=>(c.fn (x,())).1)=g)
    (h:∀(x:Int) (w:World),c.pre (x,())=true→Go.Calls E.P f #[.int .u64 x] w fun e w'=>e= .returned (.int .i64 (g x))∧w'=w):dG E f (dD c) where
  enters:=hent
  calls:=by
    rintro args hh n K ⟨m,qs,hs,hargs,HR,hlen,cr,hcall,ae0,v,kT,hvk,hK⟩ c1 w vs hcn sP Hh Gl
    have key:∀f0 (x:Int),qs=[.c (.d f0 (.int .u64 x))]→tT (std m) hs {args:=[.c (.int .u64)],objs:=[],res:=[.c (.int .i64)],d9:=[]} c qs=some {ck:=[c.pre (x,())],ts:=[.i],y:=c.fn (x,()),touched:=[],pure:=true,k:=fun y=>some (.c (.d true (.int .i64 y.1)),hs)}:=by
      intro f0 x e;subst e;rfl
    have hq:∃f0 x,qs=[.c (.d f0 (.int .u64 x))]:=by
      unfold tT at hcall
      cases qs with
      | nil=>simp [oG]at hcall
      | cons q r=>
        cases r with
        | cons q2 r2=>
          exfalso
          simp only [oG]at hcall
          cases hx:JE (std m) hs (.c (.int .u64)) q (es0 (std m) 0 [])with
          | none=>rw [hx]at hcall;simp at hcall
          | some s=>rw [hx]at hcall;simp [oG]at hcall
        | nil=>
          simp only [oG]at hcall
          cases q with
          | c y=>
            simp only [JE,extC]at hcall
            cases y with
            | d f0 y=>
              cases y with
              | int k x=>
                by_cases hk:IntKind.u64=k
                · subst hk;exact⟨f0,x,rfl⟩
                · simp [hk]at hcall
              | _=>simp at hcall
            | _=>simp at hcall
          | _=>simp [JE]at hcall
    obtain⟨f0,x,rfl⟩:=hq
    rw [key f0 x rfl]at hcall
    simp only [Option.some.injEq]at hcall
    subst hcall
    simp only [Option.some.injEq,Prod.mk.injEq]at hvk
    obtain⟨rfl,rfl⟩:=hvk
    have hpre:=ae0 _ (List.mem_singleton.2 rfl)
    have hv:vs=[.int .u64 x]:=by
      cases hargs with
      | cons h1 h2=>
        cases h2
        cases sP with
        | cons h3 h4=>
          cases h4
          cases h1 with
          | one h1=>
            cases h1 with
            | c h1=>
              cases h1 with
              | d h5 _=>
                subst h5
                cases h3 with
                | c _ _ h6=>cases h6 with
                  | d _ _ _ h7=>cases h7;rfl
            | agg h1=>cases h1
    subst hv
    refine(h x w hpre).mono ?_
    rintro e w' ⟨rfl,rfl⟩
    refine⟨c1,.c (.d true (.int .i64 (g x))),hh,0,.refl _ _ _,Hh,hcn,.c _ _ (.d _ _ _ (.int _ _)),hK _ _ _ ?_ HR (.refl _ _ _) hlen⟩
    rw [←hg]
    exact .one (.c (.d rfl fun _=> .inl rfl))
end Go.TX.Seat
namespace Go.TX.F
open Go Go.AE Go.TX Go.TX.Seat Go.Proofs
set_option maxRecDepth 100000
noncomputable def rH:Ct ak BA:=cn (Ga (std 0))
theorem T9:Fn E 59 (Ga (std 0)) rH:=mk Tryz.func59 rfl (by kernel_rfl) hlN (akC (std 0))
def abS:=fun b hb hl=>(T9.cs (aa2 b hb hl)).1
def abT:=fun b hb hl=>(T9.cs (aa2 b hb hl)).2
noncomputable def aD:Ct ak bY:=cn (Gb (std 0))
theorem mh:Fn E 61 (Gb (std 0)) aD:=mk Tryz.func61 rfl (by kernel_rfl) hlN (akD (std 0))
def fP:=fun n b p hb h1 h2=>(mh.cs (aa3 n b p hb h1 h2)).1
def fQ:=fun n b p hb h1 h2=>(mh.cs (aa3 n b p hb h1 h2)).2
noncomputable def aC:Ct ak bR:=cn (Gc (std 0))
theorem lK:Fn E 89 (Gc (std 0)) aC:=mk Tryz.func89 rfl (by kernel_rfl) hlN (akE (std 0))
def fT:=fun a b c=>(lK.cs (aam a b c)).1
def fU:=fun a b c=>(lK.cs (aam a b c)).2
noncomputable def iD:Ct ak ug:=cn (Gd (std 0) aC.pre aC.fn)
theorem MU:Fn E 62 (Gd (std 0) aC.pre aC.fn) iD:=mk Tryz.func62 rfl (by kernel_rfl) (hlC lK.ok hlN) (akF (std 0) aC)
def MV:=fun a=>(MU.cs (aao fT fU a)).1
def MW:=fun a=>(MU.cs (aao fT fU a)).2
noncomputable def pI:Ct ak BD:=cn (Gf (std 0) aD.pre aD.fn)
theorem Ua:Fn E 63 (Gf (std 0) aD.pre aD.fn) pI:=mk Tryz.func63 rfl (by kernel_rfl) (hlC mh.ok hlN) (akG (std 0) aD)
def abU:=fun b p hb h1 h2=>(Ua.cs (aa5 fP fQ b p hb h1 h2)).1
def abV:=fun b p hb h1 h2=>(Ua.cs (aa5 fP fQ b p hb h1 h2)).2
noncomputable def iV:Ct ak uh:=cn (Gg (std 0) aD.pre aD.fn)
theorem MX:Fn E 158 (Gg (std 0) aD.pre aD.fn) iV:=mk Tryz.func158 rfl (by kernel_rfl) (hlC mh.ok hlN) (akH (std 0) aD)
def MZ:=fun n b p hb h1 h2=>(MX.cs (aa4 fP fQ n b p hb h1 h2)).1
def M0:=fun n b p hb h1 h2=>(MX.cs (aa4 fP fQ n b p hb h1 h2)).2
noncomputable def pF:Ct ak BF:=cn (Gh (std 0) aC.pre aC.fn)
theorem Ub:Fn E 76 (Gh (std 0) aC.pre aC.fn) pF:=mk Tryz.func76 rfl (by kernel_rfl) (hlC lK.ok hlN) (akI (std 0) aC)
def abW:=fun m hm=>(Ub.cs (aat fT fU m hm)).1
def abX:=fun m hm=>(Ub.cs (aat fT fU m hm)).2
noncomputable def dS:Ct ak mU:=cn (Gi (std 0))
theorem Jy:Fn E 77 (Gi (std 0)) dS:=mk Tryz.func77 rfl (by kernel_rfl) hlN (akJ (std 0))
def Du:=fun a b ha=>(Jy.cs (aas a b ha)).1
def Dv:=fun a b ha=>(Jy.cs (aas a b ha)).2
noncomputable def aX:Ct ak gB:=cn (Gj (std 0) pF.pre pF.fn dS.pre dS.fn)
theorem wR:Fn E 19 (Gj (std 0) pF.pre pF.fn dS.pre dS.fn) aX:=mk Tryz.func19 rfl (by kernel_rfl) (hlC Ub.ok (hlC Jy.ok hlN)) (akK (std 0) pF dS)
def mZ:=fun a ha=>(wR.cs (aau abW abX Du Dv a ha)).1
def ni:=fun a ha=>(wR.cs (aau abW abX Du Dv a ha)).2
noncomputable def bS:Ct ak jP:=cn (Gp (std 0))
theorem Dw:Fn E 170 (Gp (std 0)) bS:=mk Tryz.func170 rfl (by kernel_rfl) hlN (akL (std 0))
def wS:=fun a=>(Dw.cs (aar a)).1
def wT:=fun a=>(Dw.cs (aar a)).2
noncomputable def iy:Ct ak uj:=cn (Gq (std 0) dS.pre dS.fn bS.pre bS.fn)
theorem M4:Fn E 174 (Gq (std 0) dS.pre dS.fn bS.pre bS.fn) iy:=mk Tryz.func174 rfl (by kernel_rfl) (hlC Jy.ok (hlC Dw.ok hlN)) (akM (std 0) dS bS)
def M5:=fun l m hl hn hm hma=>(M4.cs (aaS Du Dv wS wT l m hl hn hm hma)).1
def M6:=fun l m hl hn hm hma=>(M4.cs (aaS Du Dv wS wT l m hl hn hm hma)).2
noncomputable def bE:Ct ak je:=cn (Gr (std 0))
theorem zD:Fn E 71 (Gr (std 0)) bE:=mk Tryz.func71 rfl (by kernel_rfl) hlN (akN (std 0))
def rQ:=fun a ha=>(zD.cs (aaF a ha)).1
def rR:=fun a ha=>(zD.cs (aaF a ha)).2
noncomputable def iA:Ct ak um:=cn (Gs (std 0) bE.pre bE.fn)
theorem M7:Fn E 175 (Gs (std 0) bE.pre bE.fn) iA:=mk Tryz.func175 rfl (by kernel_rfl) (hlC zD.ok hlN) (akO (std 0) bE)
def M8:=fun a ha=>(M7.cs (aaG rQ rR a ha)).1
def M9:=fun a ha=>(M7.cs (aaG rQ rR a ha)).2
noncomputable def iC:Ct ak uo:=cn (Gt (std 0) aX.pre aX.fn iy.pre iy.fn iA.pre iA.fn)
theorem Na:Fn E 128 (Gt (std 0) aX.pre aX.fn iy.pre iy.fn iA.pre iA.fn) iC:=mk Tryz.func128 rfl (by kernel_rfl) (hlC wR.ok (hlC M4.ok (hlC M7.ok hlN))) (akP (std 0) aX iy iA)
def Nb:=fun a b ha hb=>(Na.cs (aaW mZ ni M5 M6 M8 M9 a b ha hb)).1
def Nc:=fun a b ha hb=>(Na.cs (aaW mZ ni M5 M6 M8 M9 a b ha hb)).2
noncomputable def bT:Ct ak jQ:=cn (Gu (std 0) aC.pre aC.fn)
theorem Dx:Fn E 129 (Gu (std 0) aC.pre aC.fn) bT:=mk Tryz.func129 rfl (by kernel_rfl) (hlC lK.ok hlN) (akQ (std 0) aC)
def wU:=fun a=>(Dx.cs (aap fT fU a)).1
def wV:=fun a=>(Dx.cs (aap fT fU a)).2
noncomputable def pG:Ct ak BG:=cn (Gw (std 0))
theorem Uc:Fn E 221 (Gw (std 0)) pG:=mk Tryz.func221 rfl (by kernel_rfl) hlN (akR (std 0))
def abY:=fun a b ha hb sa sb=>(Uc.cs (aaU a b ha hb sa sb)).1
def abZ:=fun a b ha hb sa sb=>(Uc.cs (aaU a b ha hb sa sb)).2
noncomputable def iB:Ct ak uw:=cn (Gx (std 0) aX.pre aX.fn bS.pre bS.fn iy.pre iy.fn pG.pre pG.fn iA.pre iA.fn)
theorem Ng:Fn E 200 (Gx (std 0) aX.pre aX.fn bS.pre bS.fn iy.pre iy.fn pG.pre pG.fn iA.pre iA.fn) iB:=mk Tryz.func200 rfl (by kernel_rfl) (hlC wR.ok (hlC Dw.ok (hlC M4.ok (hlC Uc.ok (hlC M7.ok hlN))))) (akS (std 0) aX bS iy pG iA)
def Nh:=fun a b ha hb=>(Ng.cs (aaX mZ ni wS wT M5 M6 abY abZ M8 M9 a b ha hb)).1
def Ni:=fun a b ha hb=>(Ng.cs (aaX mZ ni wS wT M5 M6 abY abZ M8 M9 a b ha hb)).2
noncomputable def rD:Ct ak BH:=cn (Gy (std 0) aD.pre aD.fn bT.pre bT.fn iB.pre iB.fn iC.pre iC.fn iD.pre iD.fn pI.pre pI.fn)
theorem Ud:Fn E 173 (Gy (std 0) aD.pre aD.fn bT.pre bT.fn iB.pre iB.fn iC.pre iC.fn iD.pre iD.fn pI.pre pI.fn) rD:=mk Tryz.func173 rfl (by kernel_rfl) (hlC mh.ok (hlC Dx.ok (hlC Ng.ok (hlC Na.ok (hlC MU.ok (hlC Ua.ok hlN)))))) (akT (std 0) aD bT iB iC iD pI)
def ab0:=fun n b p hb hn h1 h2=>(Ud.cs (aa6 fP fQ wU wV Nh Ni Nb Nc MV MW abU abV n b p hb hn h1 h2)).1
def ab1:=fun n b p hb hn h1 h2=>(Ud.cs (aa6 fP fQ wU wV Nh Ni Nb Nc MV MW abU abV n b p hb hn h1 h2)).2
noncomputable def bU:Ct ak jR:=cn (Gz (std 0))
theorem Dy:Fn E 156 (Gz (std 0)) bU:=mk Tryz.func156 rfl (by kernel_rfl) hlN (akU (std 0))
def wW:=fun a=>(Dy.cs (aan a)).1
def wX:=fun a=>(Dy.cs (aan a)).2
noncomputable def pR:Ct ak BI:=cn (GA (std 0) aX.pre aX.fn bS.pre bS.fn bE.pre bE.fn bU.pre bU.fn)
theorem Ue:Fn E 127 (GA (std 0) aX.pre aX.fn bS.pre bS.fn bE.pre bE.fn bU.pre bU.fn) pR:=mk Tryz.func127 rfl (by kernel_rfl) (hlC wR.ok (hlC Dw.ok (hlC zD.ok (hlC Dy.ok hlN)))) (akV (std 0) aX bS bE bU)
def ab2:=fun a n ha=>(Ue.cs (aaY mZ ni wS wT rQ rR wW wX a n ha)).1
def ab3:=fun a n ha=>(Ue.cs (aaY mZ ni wS wT rQ rR wW wX a n ha)).2
noncomputable def rE:Ct ak BJ:=cn (GD (std 0) bT.pre bT.fn)
theorem Uf:Fn E 64 (GD (std 0) bT.pre bT.fn) rE:=mk Tryz.func64 rfl (by kernel_rfl) (hlC Dx.ok hlN) (akW (std 0) bT)
def ab4:=(Uf.cs (aa7 wU wV)).1
def ab5:=(Uf.cs (aa7 wU wV)).2
noncomputable def pU:Ct ak BK:=cn (GH (std 0) aX.pre aX.fn)
theorem Ug:Fn E 73 (GH (std 0) aX.pre aX.fn) pU:=mk Tryz.func73 rfl (by kernel_rfl) (hlC wR.ok hlN) (akX (std 0) aX)
def ab6:=fun a ha=>(Ug.cs (aaE mZ ni a ha)).1
def ab7:=fun a ha=>(Ug.cs (aaE mZ ni a ha)).2
noncomputable def dU:Ct ak mV:=cn (GI (std 0) dS.pre dS.fn)
theorem Jz:Fn E 147 (GI (std 0) dS.pre dS.fn) dU:=mk Tryz.func147 rfl (by kernel_rfl) (hlC Jy.ok hlN) (akY (std 0) dS)
def Dz:=fun a b ha=>(Jz.cs (aaw Du Dv a b ha)).1
def DC:=fun a b ha=>(Jz.cs (aaw Du Dv a b ha)).2
noncomputable def pJ:Ct ak BL:=cn (GJ (std 0) aC.pre aC.fn)
theorem Uh:Fn E 192 (GJ (std 0) aC.pre aC.fn) pJ:=mk Tryz.func192 rfl (by kernel_rfl) (hlC lK.ok hlN) (akZ (std 0) aC)
def ab8:=fun k=>(Uh.cs (abj fT fU k)).1
def ab9:=fun k=>(Uh.cs (abj fT fU k)).2
noncomputable def iE:Ct ak uz:=cn (GK (std 0) pJ.pre pJ.fn)
theorem Nj:Fn E 157 (GK (std 0) pJ.pre pJ.fn) iE:=mk Tryz.func157 rfl (by kernel_rfl) (hlC Uh.ok hlN) (ak0 (std 0) pJ)
def Nk:=fun ops x n h1=>(Nj.cs (abk ab8 ab9 ops x n h1)).1
def Nl:=fun ops x n h1=>(Nj.cs (abk ab8 ab9 ops x n h1)).2
noncomputable def pO:Ct ak BM:=cn (GL (std 0) bU.pre bU.fn aC.pre aC.fn iE.pre iE.fn)
theorem Ui:Fn E 90 (GL (std 0) bU.pre bU.fn aC.pre aC.fn iE.pre iE.fn) pO:=mk Tryz.func90 rfl (by kernel_rfl) (hlC Dy.ok (hlC lK.ok (hlC Nj.ok hlN))) (ak1 (std 0) bU aC iE)
def acd:=fun ops i len h0 h1 h3=>(Ui.cs (abl wW wX fT fU Nk Nl ops i len h0 h1 h3)).1
def ace:=fun ops i len h0 h1 h3=>(Ui.cs (abl wW wX fT fU Nk Nl ops i len h0 h1 h3)).2
noncomputable def pK:Ct ak BN:=cn (GN (std 0) bU.pre bU.fn iE.pre iE.fn)
theorem Uj:Fn E 91 (GN (std 0) bU.pre bU.fn iE.pre iE.fn) pK:=mk Tryz.func91 rfl (by kernel_rfl) (hlC Dy.ok (hlC Nj.ok hlN)) (ak2 (std 0) bU iE)
def acf:=fun b=>(Uj.cs (abm wW wX Nk Nl b)).1
def acg:=fun b=>(Uj.cs (abm wW wX Nk Nl b)).2
noncomputable def bF:Ct ak jf:=cn (GQ (std 0) aC.pre aC.fn pK.pre pK.fn pO.pre pO.fn)
theorem zF:Fn E 30 (GQ (std 0) aC.pre aC.fn pK.pre pK.fn pO.pre pO.fn) bF:=mk Tryz.func30 rfl (by kernel_rfl) (hlC lK.ok (hlC Uj.ok (hlC Ui.ok hlN))) (ak3 (std 0) aC pK pO)
def rT:=fun b h2=>(zF.cs (abn fT fU acf acg acd ace b h2)).1
def rU:=fun b h2=>(zF.cs (abn fT fU acf acg acd ace b h2)).2
noncomputable def pQ:Ct ak BO:=cn (GU (std 0))
theorem Uk:Fn E 201 (GU (std 0)) pQ:=mk Tryz.func201 rfl (by kernel_rfl) hlN (ak4 (std 0))
def ach:=fun a=>(Uk.cs (aax a)).1
def aci:=fun a=>(Uk.cs (aax a)).2
noncomputable def iF:Ct ak uD:=cn (GV (std 0))
theorem Nn:Fn E 202 (GV (std 0)) iF:=mk Tryz.func202 rfl (by kernel_rfl) hlN (ak5 (std 0))
def Np:=fun a n ha=>(Nn.cs (aav a n ha)).1
def Nq:=fun a n ha=>(Nn.cs (aav a n ha)).2
noncomputable def iG:Ct ak uE:=cn (GX (std 0) aC.pre aC.fn aX.pre aX.fn iF.pre iF.fn pQ.pre pQ.fn)
theorem Nr:Fn E 176 (GX (std 0) aC.pre aC.fn aX.pre aX.fn iF.pre iF.fn pQ.pre pQ.fn) iG:=mk Tryz.func176 rfl (by kernel_rfl) (hlC lK.ok (hlC wR.ok (hlC Nn.ok (hlC Uk.ok hlN)))) (ak6 (std 0) aC aX iF pQ)
def Ns:=fun a n ha=>(Nr.cs (aay fT fU mZ ni Np Nq ach aci a n ha)).1
def Nt:=fun a n ha=>(Nr.cs (aay fT fU mZ ni Np Nq ach aci a n ha)).2
noncomputable def iH:Ct ak uF:=cn (G5 (std 0) dU.pre dU.fn)
theorem Nu:Fn E 177 (G5 (std 0) dU.pre dU.fn) iH:=mk Tryz.func177 rfl (by kernel_rfl) (hlC Jz.ok hlN) (ak7 (std 0) dU)
def Nv:=fun a b ha=>(Nu.cs (aaz Dz DC a b ha)).1
def Nw:=fun a b ha=>(Nu.cs (aaz Dz DC a b ha)).2
noncomputable def iW:Ct ak uG:=cn (G6 (std 0) iG.pre iG.fn iH.pre iH.fn)
theorem Ny:Fn E 130 (G6 (std 0) iG.pre iG.fn iH.pre iH.fn) iW:=mk Tryz.func130 rfl (by kernel_rfl) (hlC Nr.ok (hlC Nu.ok hlN)) (ak8 (std 0) iG iH)
def Nz:=fun a ha=>(Ny.cs (aaB Ns Nt Nv Nw a ha)).1
def NA:=fun a ha=>(Ny.cs (aaB Ns Nt Nv Nw a ha)).2
noncomputable def iI:Ct ak uH:=cn (G7 (std 0) bE.pre bE.fn)
theorem NC:Fn E 178 (G7 (std 0) bE.pre bE.fn) iI:=mk Tryz.func178 rfl (by kernel_rfl) (hlC zD.ok hlN) (ak9 (std 0) bE)
def ND:=fun a ha=>(NC.cs (aaH rQ rR a ha)).1
def NG:=fun a ha=>(NC.cs (aaH rQ rR a ha)).2
noncomputable def iX:Ct ak uI:=cn (G8 (std 0) iI.pre iI.fn)
theorem NH:Fn E 131 (G8 (std 0) iI.pre iI.fn) iX:=mk Tryz.func131 rfl (by kernel_rfl) (hlC NC.ok hlN) (ala (std 0) iI)
def NI:=fun a ha=>(NH.cs (aaI ND NG a ha)).1
def NJ:=fun a ha=>(NH.cs (aaI ND NG a ha)).2
noncomputable def iK:Ct ak uJ:=cn (G9 (std 0) iG.pre iG.fn iH.pre iH.fn iI.pre iI.fn)
theorem NK:Fn E 132 (G9 (std 0) iG.pre iG.fn iH.pre iH.fn iI.pre iI.fn) iK:=mk Tryz.func132 rfl (by kernel_rfl) (hlC Nr.ok (hlC Nu.ok (hlC NC.ok hlN))) (alb (std 0) iG iH iI)
def NP:=fun a t ha ht hok=>(NK.cs (aaK Ns Nt Nv Nw ND NG a t ha ht hok)).1
def NQ:=fun a t ha ht hok=>(NK.cs (aaK Ns Nt Nv Nw ND NG a t ha ht hok)).2
noncomputable def pW:Ct ak BP:=cn (Hg (std 0) iB.pre iB.fn iC.pre iC.fn pR.pre pR.fn)
theorem Ul:Fn E 179 (Hg (std 0) iB.pre iB.fn iC.pre iC.fn pR.pre pR.fn) pW:=mk Tryz.func179 rfl (by kernel_rfl) (hlC Ng.ok (hlC Na.ok (hlC Ue.ok hlN))) (alc (std 0) iB iC pR)
def acj:=fun op x y hx hy=>(Ul.cs (aaN Nh Ni Nb Nc ab2 ab3 op x y hx hy)).1
def acn:=fun op x y hx hy=>(Ul.cs (aaN Nh Ni Nb Nc ab2 ab3 op x y hx hy)).2
noncomputable def iJ:Ct ak uK:=cn (Hl (std 0) bS.pre bS.fn bU.pre bU.fn)
theorem NR:Fn E 115 (Hl (std 0) bS.pre bS.fn bU.pre bU.fn) iJ:=mk Tryz.func115 rfl (by kernel_rfl) (hlC Dw.ok (hlC Dy.ok hlN)) (ald (std 0) bS bU)
def NS:=fun op a b=>(NR.cs (aaD wW wX wS wT op a b)).1
def NT:=fun op a b=>(NR.cs (aaD wW wX wS wT op a b)).2
noncomputable def pV:Ct ak BQ:=cn (Ho (std 0) bE.pre bE.fn)
theorem Um:Fn E 203 (Ho (std 0) bE.pre bE.fn) pV:=mk Tryz.func203 rfl (by kernel_rfl) (hlC zD.ok hlN) (ale (std 0) bE)
def aco:=fun op n y hy=>(Um.cs (aaL rQ rR op n y hy)).1
def acp:=fun op n y hy=>(Um.cs (aaL rQ rR op n y hy)).2
end Go.TX.F
namespace Go.TX.F
open Go Go.AE Go.TX Go.TX.Seat Go.Proofs
set_option maxRecDepth 100000
noncomputable def pX:Ct ak BR:=cn (Hq (std 0) dU.pre dU.fn bE.pre bE.fn iJ.pre iJ.fn iD.pre iD.fn pU.pre pU.fn pV.pre pV.fn)
theorem Un:Fn E 180 (Hq (std 0) dU.pre dU.fn bE.pre bE.fn iJ.pre iJ.fn iD.pre iD.fn pU.pre pU.fn pV.pre pV.fn) pX:=mk Tryz.func180 rfl (by kernel_rfl) (hlC Jz.ok (hlC zD.ok (hlC NR.ok (hlC MU.ok (hlC Ug.ok (hlC Um.ok hlN)))))) (alf (std 0) dU bE iJ iD pU pV)
def acr:=fun op x y hx hy=>(Un.cs (aaM Dz DC rQ rR NS NT MV MW ab6 ab7 aco acp op x y hx hy)).1
def acs:=fun op x y hx hy=>(Un.cs (aaM Dz DC rQ rR NS NT MV MW ab6 ab7 aco acp op x y hx hy)).2
noncomputable def rA:Ct ak BS:=cn (Hr (std 0) bT.pre bT.fn dU.pre dU.fn pW.pre pW.fn pX.pre pX.fn iK.pre iK.fn)
theorem Uo:Fn E 134 (Hr (std 0) bT.pre bT.fn dU.pre dU.fn pW.pre pW.fn pX.pre pX.fn iK.pre iK.fn) rA:=mk Tryz.func134 rfl (by kernel_rfl) (hlC Dx.ok (hlC Jz.ok (hlC Ul.ok (hlC Un.ok (hlC NK.ok hlN))))) (alg (std 0) bT dU pW pX iK)
def acu:=fun op x y t hop hx hy ht hok=>(Uo.cs (aaO wU wV Dz DC acj acn acr acs NP NQ op x y t hop hx hy ht hok)).1
def acv:=fun op x y t hop hx hy ht hok=>(Uo.cs (aaO wU wV Dz DC acj acn acr acs NP NQ op x y t hop hx hy ht hok)).2
noncomputable def dV:Ct ak mW:=cn (Ht (std 0))
theorem JA:Fn E 113 (Ht (std 0)) dV:=mk Tryz.func113 rfl (by kernel_rfl) hlN (alh (std 0))
def DF:=fun b hb=>(JA.cs (abB b hb)).1
def DJ:=fun b hb=>(JA.cs (abB b hb)).2
noncomputable def iL:Ct ak uL:=cn (Hu (std 0) aC.pre aC.fn)
theorem NU:Fn E 125 (Hu (std 0) aC.pre aC.fn) iL:=mk Tryz.func125 rfl (by kernel_rfl) (hlC lK.ok hlN) (ali (std 0) aC)
def NV:=fun o al hx hy=>(NU.cs (abE fT fU o al hx hy)).1
def NW:=fun o al hx hy=>(NU.cs (abE fT fU o al hx hy)).2
noncomputable def iO:Ct ak uM:=cn (Hw (std 0) bF.pre bF.fn iL.pre iL.fn dV.pre dV.fn)
theorem NY:Fn E 54 (Hw (std 0) bF.pre bF.fn iL.pre iL.fn dV.pre dV.fn) iO:=mk Tryz.func54 rfl (by kernel_rfl) (hlC zF.ok (hlC NU.ok (hlC JA.ok hlN))) (alj (std 0) bF iL dV)
def NZ:=fun b hb=>(NY.cs (abL rT rU NV NW DF DJ b hb)).1
def N7:=fun b hb=>(NY.cs (abL rT rU NV NW DF DJ b hb)).2
noncomputable def iM:Ct ak uN:=cn (HV (std 0))
theorem Uq:Fn E 114 (HV (std 0)) iM:=mk Tryz.func114 rfl (by kernel_rfl) hlN (alk (std 0))
def N8:=fun ops k=>(Uq.cs (amH ops k)).1
noncomputable def pY:Ct ak BU:=cn (HY (std 0))
theorem Ur:Fn E 171 (HY (std 0)) pY:=mk Tryz.func171 rfl (by kernel_rfl) hlN (alm (std 0))
def acw:=fun b k=>(Ur.cs (abC b k)).1
def acy:=fun b k=>(Ur.cs (abC b k)).2
noncomputable def qb:Ct ak BX:=cn (HZ (std 0) pY.pre pY.fn iM.pre iM.fn)
theorem Us:Fn E 116 (HZ (std 0) pY.pre pY.fn iM.pre iM.fn) qb:=mk Tryz.func116 rfl (by kernel_rfl) (hlC Ur.ok (hlC Uq.ok hlN)) (aln (std 0) pY iM)
def acz:=fun b=>(Us.cs (abD acw acy N8 b)).1
def acA:=fun b=>(Us.cs (abD acw acy N8 b)).2
noncomputable def qg:Ct ak BZ:=cn (H8 (std 0) bF.pre bF.fn iJ.pre iJ.fn qb.pre qb.fn iM.pre iM.fn dV.pre dV.fn)
theorem Ut:Fn E 42 (H8 (std 0) bF.pre bF.fn iJ.pre iJ.fn qb.pre qb.fn iM.pre iM.fn dV.pre dV.fn) qg:=mk Tryz.func42 rfl (by kernel_rfl) (hlC zF.ok (hlC NR.ok (hlC Us.ok (hlC Uq.ok (hlC JA.ok hlN))))) (alo (std 0) bF iJ qb iM dV)
def acB:=fun b hb=>(Ut.cs (abG rT rU NS NT acz acA N8 DF DJ b hb)).1
def acC:=fun b hb=>(Ut.cs (abG rT rU NS NT acz acA N8 DF DJ b hb)).2
noncomputable def qc:Ct ak Ca:=cn (H9 (std 0))
theorem acD:Fn E 118 (H9 (std 0)) qc:=mk Tryz.func118 rfl (by kernel_rfl) hlN (alp (std 0))
def acE:=fun ops k h0 h1 h2=>(acD.cs (amI ops k h0 h1 h2)).1
noncomputable def iN:Ct ak uO:=cn (Ia (std 0) iL.pre iL.fn)
theorem N9:Fn E 119 (Ia (std 0) iL.pre iL.fn) iN:=mk Tryz.func119 rfl (by kernel_rfl) (hlC NU.ok hlN) (alq (std 0) iL)
def Oa:=fun b kp ok hk=>(N9.cs (abI NV NW b kp ok hk)).1
def Ob:=fun b kp ok hk=>(N9.cs (abI NV NW b kp ok hk)).2
noncomputable def qj:Ct ak Cc:=cn (Ib (std 0) bF.pre bF.fn iN.pre iN.fn qc.pre qc.fn)
theorem Uu:Fn E 45 (Ib (std 0) bF.pre bF.fn iN.pre iN.fn qc.pre qc.fn) qj:=mk Tryz.func45 rfl (by kernel_rfl) (hlC zF.ok (hlC N9.ok (hlC acD.ok hlN))) (alr (std 0) bF iN qc)
def acF:=fun b hb=>(Uu.cs (abK rT rU Oa Ob acE b hb)).1
def acG:=fun b hb=>(Uu.cs (abK rT rU Oa Ob acE b hb)).2
noncomputable def qd:Ct ak Ce:=cn (Ic (std 0) bF.pre bF.fn aC.pre aC.fn)
theorem Uv:Fn E 50 (Ic (std 0) bF.pre bF.fn aC.pre aC.fn) qd:=mk Tryz.func50 rfl (by kernel_rfl) (hlC zF.ok (hlC lK.ok hlN)) (als (std 0) bF aC)
def acH:=fun b hb=>(Uv.cs (abH rT rU fT fU b hb)).1
def acI:=fun b hb=>(Uv.cs (abH rT rU fT fU b hb)).2
noncomputable def qh:Ct ak Cg:=cn (Ie (std 0) bF.pre bF.fn qd.pre qd.fn iN.pre iN.fn)
theorem Uw:Fn E 49 (Ie (std 0) bF.pre bF.fn qd.pre qd.fn iN.pre iN.fn) qh:=mk Tryz.func49 rfl (by kernel_rfl) (hlC zF.ok (hlC Uv.ok (hlC N9.ok hlN))) (alu (std 0) bF qd iN)
def acJ:=fun b hb=>(Uw.cs (abJ rT rU acH acI Oa Ob b hb)).1
def acK:=fun b hb=>(Uw.cs (abJ rT rU acH acI Oa Ob b hb)).2
noncomputable def qB:Ct ak Ch:=cn (Mt (std 0) qg.pre qg.fn iO.pre iO.fn qh.pre qh.fn qj.pre qj.fn)
theorem Ux:Fn E 57 (Mt (std 0) qg.pre qg.fn iO.pre iO.fn qh.pre qh.fn qj.pre qj.fn) qB:=mk Tryz.func57 rfl (by kernel_rfl) (hlC Ut.ok (hlC NY.ok (hlC Uw.ok (hlC Uu.ok hlN)))) (alv (std 0) qg iO qh qj)
def acL:=fun b hb=>(Ux.cs (abF acB acC NZ N7 acJ acK acF acG b hb)).1
def acM:=fun b hb=>(Ux.cs (abF acB acC NZ N7 acJ acK acF acG b hb)).2
noncomputable def qm:Ct ak Ci:=cn (Ig (std 0) aD.pre aD.fn)
theorem Uy:Fn E 204 (Ig (std 0) aD.pre aD.fn) qm:=mk Tryz.func204 rfl (by kernel_rfl) (hlC mh.ok hlN) (alx (std 0) aD)
def acN:=fun b p hb h1 h2=>(Uy.cs (aby fP fQ b p hb h1 h2)).1
def acO:=fun b p hb h1 h2=>(Uy.cs (aby fP fQ b p hb h1 h2)).2
noncomputable def ql:Ct ak Cj:=cn (Ih (std 0))
theorem acP:Fn E 222 (Ih (std 0)) ql:=mk Tryz.func222 rfl (by kernel_rfl) hlN (aly (std 0))
def amK:=fun i=>(acP.cs (amA i)).1
noncomputable def iQ:Ct ak uP:=cn (Ii (std 0) aC.pre aC.fn ql.pre ql.fn)
theorem Uz:Fn E 206 (Ii (std 0) aC.pre aC.fn ql.pre ql.fn) iQ:=mk Tryz.func206 rfl (by kernel_rfl) (hlC lK.ok (hlC acP.ok hlN)) (alz (std 0) aC ql)
def acQ:=fun i=>(Uz.cs (amB fT fU amK i)).1
noncomputable def iP:Ct ak uQ:=cn (Ij (std 0))
theorem UA:Fn E 207 (Ij (std 0)) iP:=mk Tryz.func207 rfl (by kernel_rfl) hlN (alA (std 0))
def acR:=fun i=>(UA.cs (amC i)).1
noncomputable def iR:Ct ak uR:=cn (Ik (std 0) iP.pre iP.fn iQ.pre iQ.fn)
theorem UC:Fn E 205 (Ik (std 0) iP.pre iP.fn iQ.pre iQ.fn) iR:=mk Tryz.func205 rfl (by kernel_rfl) (hlC UA.ok (hlC Uz.ok hlN)) (alB (std 0) iP iQ)
def UD:=fun i=>(UC.cs (amD acR acQ i)).1
noncomputable def qo:Ct ak Ck:=cn (Il (std 0) qm.pre qm.fn aD.pre aD.fn iR.pre iR.fn)
theorem UE:Fn E 182 (Il (std 0) qm.pre qm.fn aD.pre aD.fn iR.pre iR.fn) qo:=mk Tryz.func182 rfl (by kernel_rfl) (hlC Uy.ok (hlC mh.ok (hlC UC.ok hlN))) (alC (std 0) qm aD iR)
def acS:=fun b p hb h1 h2=>(UE.cs (abz acN acO fP fQ UD b p hb h1 h2)).1
def acT:=fun b p hb h1 h2=>(UE.cs (abz acN acO fP fQ UD b p hb h1 h2)).2
noncomputable def qC:Ct ak Cm:=cn (Im (std 0) qo.pre qo.fn aD.pre aD.fn)
theorem UF:Fn E 139 (Im (std 0) qo.pre qo.fn aD.pre aD.fn) qC:=mk Tryz.func139 rfl (by kernel_rfl) (hlC UE.ok (hlC mh.ok hlN)) (alD (std 0) qo aD)
def acU:=fun b p hb h1 h2=>(UF.cs (abA acS acT fP fQ b p hb h1 h2)).1
def acV:=fun b p hb h1 h2=>(UF.cs (abA acS acT fP fQ b p hb h1 h2)).2
noncomputable def qy:Ct ak Cn:=cn (Io (std 0) iP.pre iP.fn iQ.pre iQ.fn aC.pre aC.fn iR.pre iR.fn)
theorem acW:Fn E 183 (Io (std 0) iP.pre iP.fn iQ.pre iQ.fn aC.pre aC.fn iR.pre iR.fn) qy:=mk Tryz.func183 rfl (by kernel_rfl) (hlC UA.ok (hlC Uz.ok (hlC lK.ok (hlC UC.ok hlN)))) (alE (std 0) iP iQ aC iR)
def acX:=fun pc l hl=>(acW.cs (amE acR acQ fT fU UD pc l hl)).1
noncomputable def bG:Ct ak jg:=cn (Ip (std 0))
theorem zG:Fn E 208 (Ip (std 0)) bG:=mk Tryz.func208 rfl (by kernel_rfl) hlN (alF (std 0))
def rV:=fun a1 a2 a3 a4 a5 a6 o ops hl=>(zG.cs (abp a1 a2 a3 a4 a5 a6 o ops hl)).1
def rW:=fun a1 a2 a3 a4 a5 a6 o ops hl=>(zG.cs (abp a1 a2 a3 a4 a5 a6 o ops hl)).2
noncomputable def iU:Ct ak uS:=cn (Iq (std 0) bG.pre bG.fn)
theorem Oc:Fn E 209 (Iq (std 0) bG.pre bG.fn) iU:=mk Tryz.func209 rfl (by kernel_rfl) (hlC zG.ok hlN) (alG (std 0) bG)
def Od:=fun a1 a2 a3 a4 a5 a6 k x ops hl=>(Oc.cs (abr rV rW a1 a2 a3 a4 a5 a6 k x ops hl)).1
def Oe:=fun a1 a2 a3 a4 a5 a6 k x ops hl=>(Oc.cs (abr rV rW a1 a2 a3 a4 a5 a6 k x ops hl)).2
noncomputable def bV:Ct ak jS:=cn (Ir (std 0) bG.pre bG.fn)
theorem DK:Fn E 210 (Ir (std 0) bG.pre bG.fn) bV:=mk Tryz.func210 rfl (by kernel_rfl) (hlC zG.ok hlN) (alH (std 0) bG)
def wY:=fun a1 a2 a3 a4 a5 a6 k ops hl=>(DK.cs (abq rV rW a1 a2 a3 a4 a5 a6 k ops hl)).1
def wZ:=fun a1 a2 a3 a4 a5 a6 k ops hl=>(DK.cs (abq rV rW a1 a2 a3 a4 a5 a6 k ops hl)).2
noncomputable def iT:Ct ak uT:=cn (Iu (std 0) bV.pre bV.fn bG.pre bG.fn)
theorem Og:Fn E 211 (Iu (std 0) bV.pre bV.fn bG.pre bG.fn) iT:=mk Tryz.func211 rfl (by kernel_rfl) (hlC DK.ok (hlC zG.ok hlN)) (alI (std 0) bV bG)
def Oh:=fun a1 a2 a3 a4 a5 a6 k a o ops hl=>(Og.cs (abt wY wZ rV rW a1 a2 a3 a4 a5 a6 k a o ops hl)).1
def Oi:=fun a1 a2 a3 a4 a5 a6 k a o ops hl=>(Og.cs (abt wY wZ rV rW a1 a2 a3 a4 a5 a6 k a o ops hl)).2
noncomputable def qx:Ct ak Cq:=cn (Iw (std 0))
theorem acY:Fn E 212 (Iw (std 0)) qx:=mk Tryz.func212 rfl (by kernel_rfl) hlN (alJ (std 0))
def acZ:=fun k hk=>(acY.cs (amF k hk)).1
noncomputable def qw:Ct ak Cr:=cn (Iy (std 0) bV.pre bV.fn bG.pre bG.fn iT.pre iT.fn iU.pre iU.fn)
theorem UG:Fn E 213 (Iy (std 0) bV.pre bV.fn bG.pre bG.fn iT.pre iT.fn iU.pre iU.fn) qw:=mk Tryz.func213 rfl (by kernel_rfl) (hlC DK.ok (hlC zG.ok (hlC Og.ok (hlC Oc.ok hlN)))) (alK (std 0) bV bG iT iU)
def ac0:=fun a1 a2 a3 a4 a5 a6 i k ops hl=>(UG.cs (abu wY wZ rV rW Oh Oi Od Oe a1 a2 a3 a4 a5 a6 i k ops hl)).1
def ac1:=fun a1 a2 a3 a4 a5 a6 i k ops hl=>(UG.cs (abu wY wZ rV rW Oh Oi Od Oe a1 a2 a3 a4 a5 a6 i k ops hl)).2
noncomputable def qp:Ct ak Cu:=cn (Iz (std 0) bV.pre bV.fn)
theorem UH:Fn E 214 (Iz (std 0) bV.pre bV.fn) qp:=mk Tryz.func214 rfl (by kernel_rfl) (hlC DK.ok hlN) (alL (std 0) bV)
def ac2:=fun a1 a2 a3 a4 a5 a6 i ops hl=>(UH.cs (abv wY wZ a1 a2 a3 a4 a5 a6 i ops hl)).1
def ac3:=fun a1 a2 a3 a4 a5 a6 i ops hl=>(UH.cs (abv wY wZ a1 a2 a3 a4 a5 a6 i ops hl)).2
noncomputable def qz:Ct ak Cv:=cn (IB (std 0) bV.pre bV.fn qp.pre qp.fn bG.pre bG.fn qw.pre qw.fn iT.pre iT.fn iU.pre iU.fn qx.pre qx.fn)
theorem UJ:Fn E 184 (IB (std 0) bV.pre bV.fn qp.pre qp.fn bG.pre bG.fn qw.pre qw.fn iT.pre iT.fn iU.pre iU.fn qx.pre qx.fn) qz:=mk Tryz.func184 rfl (by kernel_rfl) (hlC DK.ok (hlC UH.ok (hlC zG.ok (hlC UG.ok (hlC Og.ok (hlC Oc.ok (hlC acY.ok hlN))))))) (alM (std 0) bV qp bG qw iT iU qx)
def ac4:=fun a1 a2 a3 a4 a5 a6 i k ops hk hl=>(UJ.cs (abw wY wZ ac2 ac3 rV rW ac0 ac1 Oh Oi Od Oe acZ a1 a2 a3 a4 a5 a6 i k ops hk hl)).1
def ac5:=fun a1 a2 a3 a4 a5 a6 i k ops hk hl=>(UJ.cs (abw wY wZ ac2 ac3 rV rW ac0 ac1 Oh Oi Od Oe acZ a1 a2 a3 a4 a5 a6 i k ops hk hl)).2
noncomputable def qA:Ct ak Cw:=cn (IC (std 0) qy.pre qy.fn qz.pre qz.fn)
theorem UK:Fn E 140 (IC (std 0) qy.pre qy.fn qz.pre qz.fn) qA:=mk Tryz.func140 rfl (by kernel_rfl) (hlC acW.ok (hlC UJ.ok hlN)) (alN (std 0) qy qz)
def ac6:=fun pc l hl hk=>(UK.cs (abx acX ac4 ac5 pc l hl hk)).1
def ac7:=fun pc l hl hk=>(UK.cs (abx acX ac4 ac5 pc l hl hk)).2
noncomputable def qJ:Ct ak Cx:=cn (IE (std 0) qA.pre qA.fn qB.pre qB.fn iO.pre iO.fn aD.pre aD.fn qC.pre qC.fn)
theorem UL:Fn E 66 (IE (std 0) qA.pre qA.fn qB.pre qB.fn iO.pre iO.fn aD.pre aD.fn qC.pre qC.fn) qJ:=mk Tryz.func66 rfl (by kernel_rfl) (hlC UK.ok (hlC Ux.ok (hlC NY.ok (hlC mh.ok (hlC UF.ok hlN))))) (alO (std 0) qA qB iO aD qC)
def ac8:=fun b p hb h1 h2=>(UL.cs (abM ac6 ac7 acL acM NZ N7 fP fQ acU acV b p hb h1 h2)).1
def ac9:=fun b p hb h1 h2=>(UL.cs (abM ac6 ac7 acL acM NZ N7 fP fQ acU acV b p hb h1 h2)).2
end Go.TX.F
namespace Go.TX.F
open Go Go.AE Go.TX Go.TX.Seat Go.Proofs
set_option maxRecDepth 100000
noncomputable def u7:Ct ak Ml:=cn (Zk (std 0))
theorem afs:Fn E 148 (Zk (std 0)) u7:=mk Tryz.func148 rfl (by kernel_rfl) hlN (arD (std 0))
def aft:=fun a=>(afs.cs (ap5 a)).1
def afu:=fun a=>(afs.cs (ap5 a)).2
noncomputable def lM:Ct ak Em:=cn (Zl (std 0) u7.pre u7.fn)
theorem ada:Fn E 80 (Zl (std 0) u7.pre u7.fn) lM:=mk Tryz.func80 rfl (by kernel_rfl) (hlC afs.ok hlN) (arE (std 0) u7)
def X9:=fun a b=>(ada.cs (ap6 aft afu a b)).1
def Ya:=fun a b=>(ada.cs (ap6 aft afu a b)).2
noncomputable def vg:Ct ak Mq:=cn (Zo (std 0))
theorem afv:Fn E 81 (Zo (std 0)) vg:=mk Tryz.func81 rfl (by kernel_rfl) hlN (arF (std 0))
def afw:=fun a b=>(afv.cs (ap8 a b)).1
def afx:=fun a b=>(afv.cs (ap8 a b)).2
noncomputable def xX:Ct ak Kc:=cn (PK (std 0) lM.pre lM.fn)
theorem adb:Fn E 149 (PK (std 0) lM.pre lM.fn) xX:=mk Tryz.func149 rfl (by kernel_rfl) (hlC ada.ok hlN) (ao4 (std 0) lM)
def ag6:=fun a b ha=>(adb.cs (af8 X9 Ya a b ha)).1
def ag7:=fun a b ha=>(adb.cs (af8 X9 Ya a b ha)).2
noncomputable def eB:Ct ak nY:=cn (PL (std 0) vg.pre vg.fn lM.pre lM.fn xX.pre xX.fn)
theorem K8:Fn E 82 (PL (std 0) vg.pre vg.fn lM.pre lM.fn xX.pre xX.fn) eB:=mk Tryz.func82 rfl (by kernel_rfl) (hlC afv.ok (hlC ada.ok (hlC adb.ok hlN))) (ao5 (std 0) vg lM xX)
def Eb:=fun a b ha=>(K8.cs (af9 X9 Ya ag6 ag7 afw afx a b ha)).1
def Ec:=fun a b ha=>(K8.cs (af9 X9 Ya ag6 ag7 afw afx a b ha)).2
noncomputable def aF:Ct ak dA:=cn (PN (std 0))
theorem nD:Fn E 121 (PN (std 0)) aF:=mk Tryz.func121 rfl (by kernel_rfl) hlN (ao6 (std 0))
def gM:=fun a b c=>(nD.cs (af4 a b c)).1
def gN:=fun a b c=>(nD.cs (af4 a b c)).2
noncomputable def lN:Ct ak En:=cn (Zp (std 0) u7.pre u7.fn)
theorem ade:Fn E 185 (Zp (std 0) u7.pre u7.fn) lN:=mk Tryz.func185 rfl (by kernel_rfl) (hlC afs.ok hlN) (arG (std 0) u7)
def afy:=fun a b=>(ade.cs (ap7 aft afu a b)).1
def afz:=fun a b=>(ade.cs (ap7 aft afu a b)).2
noncomputable def qG:Ct ak Cy:=cn (IG (std 0) lN.pre lN.fn)
theorem UM:Fn E 141 (IG (std 0) lN.pre lN.fn) qG:=mk Tryz.func141 rfl (by kernel_rfl) (hlC ade.ok hlN) (alP (std 0) lN)
def adf:=fun a ha=>(UM.cs (Z0 afy afz a ha)).1
def adg:=fun a ha=>(UM.cs (Z0 afy afz a ha)).2
noncomputable def xY:Ct ak Ke:=cn (PO (std 0))
theorem adh:Fn E 187 (PO (std 0)) xY:=mk Tryz.func187 rfl (by kernel_rfl) hlN (ao7 (std 0))
def ag8:=fun a n=>(adh.cs (aga a n)).1
def ag9:=fun a n=>(adh.cs (aga a n)).2
noncomputable def qD:Ct ak Cz:=cn (II (std 0) xY.pre xY.fn)
theorem UN:Fn E 215 (II (std 0) xY.pre xY.fn) qD:=mk Tryz.func215 rfl (by kernel_rfl) (hlC adh.ok hlN) (alQ (std 0) xY)
def adi:=fun a n ha=>(UN.cs (Z4 ag8 ag9 a n ha)).1
def adk:=fun a n ha=>(UN.cs (Z4 ag8 ag9 a n ha)).2
noncomputable def qE:Ct ak CB:=cn (IJ (std 0) qD.pre qD.fn)
theorem UO:Fn E 186 (IJ (std 0) qD.pre qD.fn) qE:=mk Tryz.func186 rfl (by kernel_rfl) (hlC UN.ok hlN) (alR (std 0) qD)
def adl:=fun a n ha=>(UO.cs (Z5 adi adk a n ha)).1
def adn:=fun a n ha=>(UO.cs (Z5 adi adk a n ha)).2
noncomputable def kM:Ct ak Ah:=cn (PS (std 0) qE.pre qE.fn)
theorem Wq:Fn E 142 (PS (std 0) qE.pre qE.fn) kM:=mk Tryz.func142 rfl (by kernel_rfl) (hlC UO.ok hlN) (ao8 (std 0) qE)
def Ws:=fun a n ha=>(Wq.cs (agb adl adn a n ha)).1
def Wt:=fun a n ha=>(Wq.cs (agb adl adn a n ha)).2
noncomputable def xZ:Ct ak Kg:=cn (PU (std 0))
theorem ado:Fn E 144 (PU (std 0)) xZ:=mk Tryz.func144 rfl (by kernel_rfl) hlN (ao9 (std 0))
def aha:=fun m=>(ado.cs (agc m)).1
def ahb:=fun m=>(ado.cs (agc m)).2
noncomputable def qF:Ct ak CF:=cn (IK (std 0) xZ.pre xZ.fn)
theorem UQ:Fn E 188 (IK (std 0) xZ.pre xZ.fn) qF:=mk Tryz.func188 rfl (by kernel_rfl) (hlC ado.ok hlN) (alS (std 0) xZ)
def adp:=fun a ha=>(UQ.cs (Z6 (G:=(fun m:aj=>0<m.atoms.length∧m.atoms.getD 0 default<0)) aha ahb a ha)).1
def adq:=fun a ha=>(UQ.cs (Z6 (G:=(fun m:aj=>0<m.atoms.length∧m.atoms.getD 0 default<0)) aha ahb a ha)).2
noncomputable def qH:Ct ak CG:=cn (IL (std 0) qF.pre qF.fn)
theorem UR:Fn E 143 (IL (std 0) qF.pre qF.fn) qH:=mk Tryz.func143 rfl (by kernel_rfl) (hlC UQ.ok hlN) (alT (std 0) qF)
def adr:=fun a ha=>(UR.cs (Z7 (G:=(fun m:aj=>0<m.atoms.length∧m.atoms.getD 0 default<0)) adp adq a ha)).1
def ads:=fun a ha=>(UR.cs (Z7 (G:=(fun m:aj=>0<m.atoms.length∧m.atoms.getD 0 default<0)) adp adq a ha)).2
noncomputable def bB:Ct ak jk:=cn (PW (std 0) aF.pre aF.fn kM.pre kM.fn qG.pre qG.fn eB.pre eB.fn qH.pre qH.fn)
theorem AX:Fn E 67 (PW (std 0) aF.pre aF.fn kM.pre kM.fn qG.pre qG.fn eB.pre eB.fn qH.pre qH.fn) bB:=mk Tryz.func67 rfl (by kernel_rfl) (hlC nD.ok (hlC Wq.ok (hlC UM.ok (hlC K8.ok (hlC UR.ok hlN))))) (apa (std 0) aF kM qG eB qH)
def oM:=fun a ha=>(AX.cs (agd gM gN Ws Wt adf adg Eb Ec adr ads a ha)).1
def oN:=fun a ha=>(AX.cs (agd gM gN Ws Wt adf adg Eb Ec adr ads a ha)).2
noncomputable def kP:Ct ak Ai:=cn (PX (std 0) bB.pre bB.fn)
theorem Wu:Fn E 22 (PX (std 0) bB.pre bB.fn) kP:=mk Tryz.func22 rfl (by kernel_rfl) (hlC AX.ok hlN) (apb (std 0) bB)
def Wv:=fun a ha=>(Wu.cs (agm oM oN a ha)).1
def Ww:=fun a ha=>(Wu.cs (agm oM oN a ha)).2
noncomputable def gH:Ct ak vI:=cn (PY (std 0) vg.pre vg.fn lM.pre lM.fn eB.pre eB.fn)
theorem Rm:Fn E 24 (PY (std 0) vg.pre vg.fn lM.pre lM.fn eB.pre eB.fn) gH:=mk Tryz.func24 rfl (by kernel_rfl) (hlC afv.ok (hlC ada.ok (hlC K8.ok hlN))) (apc (std 0) vg lM eB)
def K9:=fun a b ha=>(Rm.cs (agf afw afx X9 Ya Eb Ec a b ha)).1
def La:=fun a b ha=>(Rm.cs (agf afw afx X9 Ya Eb Ec a b ha)).2
noncomputable def kN:Ct ak Aj:=cn (PZ (std 0))
theorem Wx:Fn E 189 (PZ (std 0)) kN:=mk Tryz.func189 rfl (by kernel_rfl) hlN (apd (std 0))
def Wy:=fun a ha=>(Wx.cs (agn a ha)).1
def Wz:=fun a ha=>(Wx.cs (agn a ha)).2
noncomputable def gG:Ct ak vJ:=cn (P6 (std 0) kN.pre kN.fn)
theorem Rn:Fn E 146 (P6 (std 0) kN.pre kN.fn) gG:=mk Tryz.func146 rfl (by kernel_rfl) (hlC Wx.ok hlN) (ape (std 0) kN)
def Lb:=fun a ha=>(Rn.cs (agp Wy Wz a ha)).1
def Lc:=fun a ha=>(Rn.cs (agp Wy Wz a ha)).2
noncomputable def yc:Ct ak Kh:=cn (P7 (std 0) gG.pre gG.fn)
theorem adt:Fn E 145 (P7 (std 0) gG.pre gG.fn) yc:=mk Tryz.func145 rfl (by kernel_rfl) (hlC Rn.ok hlN) (apf (std 0) gG)
def ahc:=fun a ha=>(adt.cs (agW Lb Lc a ha)).1
def ahd:=fun a ha=>(adt.cs (agW Lb Lc a ha)).2
noncomputable def yg:Ct ak Ki:=cn (P8 (std 0) gG.pre gG.fn yc.pre yc.fn)
theorem adu:Fn E 68 (P8 (std 0) gG.pre gG.fn yc.pre yc.fn) yg:=mk Tryz.func68 rfl (by kernel_rfl) (hlC Rn.ok (hlC adt.ok hlN)) (apg (std 0) gG yc)
def ahe:=fun s hs=>(adu.cs (agX Lb Lc ahc ahd s hs)).1
def ahf:=fun s hs=>(adu.cs (agX Lb Lc ahc ahd s hs)).2
noncomputable def gI:Ct ak vK:=cn (P9 (std 0) gH.pre gH.fn)
theorem Ro:Fn E 69 (P9 (std 0) gH.pre gH.fn) gI:=mk Tryz.func69 rfl (by kernel_rfl) (hlC Rm.ok hlN) (aph (std 0) gH)
def Ld:=fun a b ha=>(Ro.cs (agh K9 La a b ha)).1
def Le:=fun a b ha=>(Ro.cs (agh K9 La a b ha)).2
noncomputable def bP:Ct ak jI:=cn (Qc (std 0) aF.pre aF.fn)
theorem Ed:Fn E 78 (Qc (std 0) aF.pre aF.fn) bP:=mk Tryz.func78 rfl (by kernel_rfl) (hlC nD.ok hlN) (apj (std 0) aF)
def vP:=fun a=>(Ed.cs (af5 gM gN a)).1
def vQ:=fun a=>(Ed.cs (af5 gM gN a)).2
noncomputable def yh:Ct ak Kj:=cn (Qd (std 0) bP.pre bP.fn)
theorem adw:Fn E 70 (Qd (std 0) bP.pre bP.fn) yh:=mk Tryz.func70 rfl (by kernel_rfl) (hlC Ed.ok hlN) (apk (std 0) bP)
def ahg:=fun r a b=>(adw.cs (agV vP vQ r a b)).1
def ahh:=fun r a b=>(adw.cs (agV vP vQ r a b)).2
noncomputable def yM:Ct ak Kk:=cn (Qe (std 0) kP.pre kP.fn bB.pre bB.fn gH.pre gH.fn yg.pre yg.fn gI.pre gI.fn yh.pre yh.fn)
theorem adx:Fn E 16 (Qe (std 0) kP.pre kP.fn bB.pre bB.fn gH.pre gH.fn yg.pre yg.fn gI.pre gI.fn yh.pre yh.fn) yM:=mk Tryz.func16 rfl (by kernel_rfl) (hlC Wu.ok (hlC AX.ok (hlC Rm.ok (hlC adu.ok (hlC Ro.ok (hlC adw.ok hlN)))))) (apl (std 0) kP bB gH yg gI yh)
def ahi:=fun s n hs h0 h1=>(adx.cs (ag1 Wv Ww oM oN K9 La ahe ahf Ld Le ahg ahh s n hs h0 h1)).1
def ahj:=fun s n hs h0 h1=>(adx.cs (ag1 Wv Ww oM oN K9 La ahe ahf Ld Le ahg ahh s n hs h0 h1)).2
noncomputable def yj:Ct ak Kl:=cn (Qh (std 0))
theorem ady:Fn E 79 (Qh (std 0)) yj:=mk Tryz.func79 rfl (by kernel_rfl) hlN (apm (std 0))
def ahk:=fun a b ha=>(ady.cs (agI a b ha)).1
def ahl:=fun a b ha=>(ady.cs (agI a b ha)).2
noncomputable def gJ:Ct ak vL:=cn (Qi (std 0) yj.pre yj.fn)
theorem Rp:Fn E 23 (Qi (std 0) yj.pre yj.fn) gJ:=mk Tryz.func23 rfl (by kernel_rfl) (hlC ady.ok hlN) (apn (std 0) yj)
def Lf:=fun a b ha=>(Rp.cs (agJ ahk ahl a b ha)).1
def Lg:=fun a b ha=>(Rp.cs (agJ ahk ahl a b ha)).2
noncomputable def yu:Ct ak Km:=cn (Qj (std 0) gJ.pre gJ.fn)
theorem adz:Fn E 21 (Qj (std 0) gJ.pre gJ.fn) yu:=mk Tryz.func21 rfl (by kernel_rfl) (hlC Rp.ok hlN) (apo (std 0) gJ)
def ahm:=fun a b ha=>(adz.cs (ag3 Lf Lg a b ha)).1
def ahn:=fun a b ha=>(adz.cs (ag3 Lf Lg a b ha)).2
noncomputable def yU:Ct ak Kn:=cn (Qk (std 0) gJ.pre gJ.fn yu.pre yu.fn)
theorem adA:Fn E 17 (Qk (std 0) gJ.pre gJ.fn yu.pre yu.fn) yU:=mk Tryz.func17 rfl (by kernel_rfl) (hlC Rp.ok (hlC adz.ok hlN)) (apq (std 0) gJ yu)
def aho:=fun a b he ha=>(adA.cs (ag4 Lf Lg ahm ahn a b he ha)).1
def ahp:=fun a b he ha=>(adA.cs (ag4 Lf Lg ahm ahn a b he ha)).2
noncomputable def yT:Ct ak Ko:=cn (Ql (std 0) bP.pre bP.fn)
theorem adB:Fn E 20 (Ql (std 0) bP.pre bP.fn) yT:=mk Tryz.func20 rfl (by kernel_rfl) (hlC Ed.ok hlN) (apr (std 0) bP)
def ahq:=(adB.cs (agH vP vQ)).1
def ahr:=(adB.cs (agH vP vQ)).2
noncomputable def qI:Ct ak CJ:=cn (Dj (std 0) aD.pre aD.fn dV.pre dV.fn)
theorem UU:Fn E 151 (Dj (std 0) aD.pre aD.fn dV.pre dV.fn) qI:=mk Tryz.func151 rfl (by kernel_rfl) (hlC mh.ok (hlC JA.ok hlN)) (alU (std 0) aD dV)
def adC:=fun c b p hc hb h1 h2=>(UU.cs (abN fP fQ DF DJ c b p hc hb h1 h2)).1
def adD:=fun c b p hc hb h1 h2=>(UU.cs (abN fP fQ DF DJ c b p hc hb h1 h2)).2
noncomputable def rJ:Ct ak CK:=cn (IV (std 0) iV.pre iV.fn aD.pre aD.fn qI.pre qI.fn qJ.pre qJ.fn)
theorem UW:Fn E 98 (IV (std 0) iV.pre iV.fn aD.pre aD.fn qI.pre qI.fn qJ.pre qJ.fn) rJ:=mk Tryz.func98 rfl (by kernel_rfl) (hlC MX.ok (hlC mh.ok (hlC UU.ok (hlC UL.ok hlN)))) (alV (std 0) iV aD qI qJ)
def adE:=fun n b p hb h1 h2=>(UW.cs (abO MZ M0 fP fQ adC adD ac8 ac9 n b p hb h1 h2)).1
def adF:=fun n b p hb h1 h2=>(UW.cs (abO MZ M0 fP fQ adC adD ac8 ac9 n b p hb h1 h2)).2
end Go.TX.F
namespace Go.TX.F
open Go Go.AE Go.TX Go.TX.Seat Go.Proofs
set_option maxRecDepth 100000
noncomputable def kQ:Ct ak Ak:=cn (Qm (std 0) aF.pre aF.fn)
theorem WA:Fn E 164 (Qm (std 0) aF.pre aF.fn) kQ:=mk Tryz.func164 rfl (by kernel_rfl) (hlC nD.ok hlN) (aps (std 0) aF)
def WB:=fun a=>(WA.cs (af6 gM gN a)).1
def WE:=fun a=>(WA.cs (af6 gM gN a)).2
noncomputable def kR:Ct ak Al:=cn (Qn (std 0) aF.pre aF.fn)
theorem WG:Fn E 165 (Qn (std 0) aF.pre aF.fn) kR:=mk Tryz.func165 rfl (by kernel_rfl) (hlC nD.ok hlN) (apt (std 0) aF)
def WH:=fun a=>(WG.cs (af7 gM gN a)).1
def WI:=fun a=>(WG.cs (af7 gM gN a)).2
noncomputable def kS:Ct ak Am:=cn (Qo (std 0) aF.pre aF.fn kQ.pre kQ.fn kM.pre kM.fn bB.pre bB.fn kR.pre kR.fn)
theorem WJ:Fn E 108 (Qo (std 0) aF.pre aF.fn kQ.pre kQ.fn kM.pre kM.fn bB.pre bB.fn kR.pre kR.fn) kS:=mk Tryz.func108 rfl (by kernel_rfl) (hlC nD.ok (hlC WA.ok (hlC Wq.ok (hlC AX.ok (hlC WG.ok hlN))))) (apu (std 0) aF kQ kM bB kR)
def WK:=fun a n ha=>(WJ.cs (agw gM gN WB WE Ws Wt oM oN WH WI a n ha)).1
def WL:=fun a n ha=>(WJ.cs (agw gM gN WB WE Ws Wt oM oN WH WI a n ha)).2
noncomputable def yw:Ct ak Kq:=cn (Qp (std 0) gI.pre gI.fn)
theorem adG:Fn E 168 (Qp (std 0) gI.pre gI.fn) yw:=mk Tryz.func168 rfl (by kernel_rfl) (hlC Ro.ok hlN) (apv (std 0) gI)
def ahs:=fun a b ha=>(adG.cs (agt Ld Le a b ha)).1
def aht:=fun a b ha=>(adG.cs (agt Ld Le a b ha)).2
noncomputable def yx:Ct ak Kr:=cn (Qq (std 0) yw.pre yw.fn)
theorem adH:Fn E 167 (Qq (std 0) yw.pre yw.fn) yx:=mk Tryz.func167 rfl (by kernel_rfl) (hlC adG.ok hlN) (apw (std 0) yw)
def ahu:=fun a b hb=>(adH.cs (agu ahs aht a b hb)).1
def ahv:=fun a b hb=>(adH.cs (agu ahs aht a b hb)).2
noncomputable def qK:Ct ak CO:=cn (IW (std 0) yx.pre yx.fn)
theorem UY:Fn E 166 (IW (std 0) yx.pre yx.fn) qK:=mk Tryz.func166 rfl (by kernel_rfl) (hlC adH.ok hlN) (alW (std 0) yx)
def adI:=fun a b ha hb=>(UY.cs (Z9 ahu ahv a b ha hb)).1
def adJ:=fun a b ha hb=>(UY.cs (Z9 ahu ahv a b ha hb)).2
noncomputable def kU:Ct ak Ao:=cn (Qr (std 0) qK.pre qK.fn)
theorem WM:Fn E 109 (Qr (std 0) qK.pre qK.fn) kU:=mk Tryz.func109 rfl (by kernel_rfl) (hlC UY.ok hlN) (apx (std 0) qK)
def WO:=fun a b ha hb=>(WM.cs (agv adI adJ a b ha hb)).1
def WQ:=fun a b ha hb=>(WM.cs (agv adI adJ a b ha hb)).2
noncomputable def yN:Ct ak Kt:=cn (Qs (std 0) kS.pre kS.fn kU.pre kU.fn)
theorem adK:Fn E 38 (Qs (std 0) kS.pre kS.fn kU.pre kU.fn) yN:=mk Tryz.func38 rfl (by kernel_rfl) (hlC WJ.ok (hlC WM.ok hlN)) (apy (std 0) kS kU)
def ahw:=fun a ha=>(adK.cs (agx WK WL WO WQ a ha)).1
def ahx:=fun a ha=>(adK.cs (agx WK WL WO WQ a ha)).2
noncomputable def kW:Ct ak Ap:=cn (Qt (std 0) aF.pre aF.fn)
theorem WR:Fn E 100 (Qt (std 0) aF.pre aF.fn) kW:=mk Tryz.func100 rfl (by kernel_rfl) (hlC nD.ok hlN) (apz (std 0) aF)
def WS:=fun o=>(WR.cs (agN gM gN o)).1
def WT:=fun o=>(WR.cs (agN gM gN o)).2
noncomputable def yA:Ct ak Ku:=cn (Qu (std 0) aF.pre aF.fn)
theorem adL:Fn E 199 (Qu (std 0) aF.pre aF.fn) yA:=mk Tryz.func199 rfl (by kernel_rfl) (hlC nD.ok hlN) (apA (std 0) aF)
def ahy:=fun o=>(adL.cs (agO gM gN o)).1
def ahz:=fun o=>(adL.cs (agO gM gN o)).2
noncomputable def kV:Ct ak Aq:=cn (Qv (std 0) yA.pre yA.fn aF.pre aF.fn)
theorem WU:Fn E 172 (Qv (std 0) yA.pre yA.fn aF.pre aF.fn) kV:=mk Tryz.func172 rfl (by kernel_rfl) (hlC adL.ok (hlC nD.ok hlN)) (apB (std 0) yA aF)
def WW:=fun b x n h0 h1 h2=>(WU.cs (agQ ahy ahz gM gN b x n h0 h1 h2)).1
def WX:=fun b x n h0 h1 h2=>(WU.cs (agQ ahy ahz gM gN b x n h0 h1 h2)).2
noncomputable def yC:Ct ak Kv:=cn (Qw (std 0) kV.pre kV.fn kW.pre kW.fn bP.pre bP.fn aF.pre aF.fn kQ.pre kQ.fn kR.pre kR.fn)
theorem adM:Fn E 122 (Qw (std 0) kV.pre kV.fn kW.pre kW.fn bP.pre bP.fn aF.pre aF.fn kQ.pre kQ.fn kR.pre kR.fn) yC:=mk Tryz.func122 rfl (by kernel_rfl) (hlC WU.ok (hlC WR.ok (hlC Ed.ok (hlC nD.ok (hlC WA.ok (hlC WG.ok hlN)))))) (apC (std 0) kV kW bP aF kQ kR)
def ahA:=fun b i h0 h1 h2 h3=>(adM.cs (agR WW WX WS WT vP vQ gM gN WB WE WH WI b i h0 h1 h2 h3)).1
def ahB:=fun b i h0 h1 h2 h3=>(adM.cs (agR WW WX WS WT vP vQ gM gN WB WE WH WI b i h0 h1 h2 h3)).2
noncomputable def kX:Ct ak Ar:=cn (Qz (std 0))
theorem WY:Fn E 106 (Qz (std 0)) kX:=mk Tryz.func106 rfl (by kernel_rfl) hlN (apD (std 0))
def WZ:=fun b=>(WY.cs (agS b)).1
def W9:=fun b=>(WY.cs (agS b)).2
noncomputable def yB:Ct ak Kw:=cn (QA (std 0) kX.pre kX.fn kV.pre kV.fn bP.pre bP.fn aF.pre aF.fn)
theorem adN:Fn E 123 (QA (std 0) kX.pre kX.fn kV.pre kV.fn bP.pre bP.fn aF.pre aF.fn) yB:=mk Tryz.func123 rfl (by kernel_rfl) (hlC WY.ok (hlC WU.ok (hlC Ed.ok (hlC nD.ok hlN)))) (apE (std 0) kX kV bP aF)
def ahC:=fun b h2=>(adN.cs (agT WZ W9 WW WX vP vQ gM gN b h2)).1
def ahD:=fun b h2=>(adN.cs (agT WZ W9 WW WX vP vQ gM gN b h2)).2
noncomputable def yK:Ct ak Ky:=cn (QB (std 0) yB.pre yB.fn yC.pre yC.fn aF.pre aF.fn)
theorem adO:Fn E 51 (QB (std 0) yB.pre yB.fn yC.pre yC.fn aF.pre aF.fn) yK:=mk Tryz.func51 rfl (by kernel_rfl) (hlC adN.ok (hlC adM.ok (hlC nD.ok hlN))) (apF (std 0) yB yC aF)
def ahE:=fun b h2=>(adO.cs (agU ahC ahD ahA ahB gM gN b h2)).1
def ahF:=fun b h2=>(adO.cs (agU ahC ahD ahA ahB gM gN b h2)).2
noncomputable def yD:Ct ak Kz:=cn (QC (std 0))
theorem adP:Fn E 198 (QC (std 0)) yD:=mk Tryz.func198 rfl (by kernel_rfl) hlN (apG (std 0))
def ahG:=fun a=>(adP.cs (ags a)).1
def ahH:=fun a=>(adP.cs (ags a)).2
noncomputable def kZ:Ct ak Au:=cn (QD (std 0) kS.pre kS.fn kU.pre kU.fn yD.pre yD.fn)
theorem Xa:Fn E 162 (QD (std 0) kS.pre kS.fn kU.pre kU.fn yD.pre yD.fn) kZ:=mk Tryz.func162 rfl (by kernel_rfl) (hlC WJ.ok (hlC WM.ok (hlC adP.ok hlN))) (apH (std 0) kS kU yD)
def Xb:=fun t a ht ha=>(Xa.cs (agy WK WL WO WQ ahG ahH t a ht ha)).1
def Xc:=fun t a ht ha=>(Xa.cs (agy WK WL WO WQ ahG ahH t a ht ha)).2
noncomputable def kY:Ct ak Av:=cn (QE (std 0) aF.pre aF.fn)
theorem Xd:Fn E 163 (QE (std 0) aF.pre aF.fn) kY:=mk Tryz.func163 rfl (by kernel_rfl) (hlC nD.ok hlN) (apI (std 0) aF)
def Xe:=fun a=>(Xd.cs (agl gM gN a)).1
def Xf:=fun a=>(Xd.cs (agl gM gN a)).2
noncomputable def lg:Ct ak Aw:=cn (QF (std 0) kY.pre kY.fn kZ.pre kZ.fn)
theorem Xg:Fn E 105 (QF (std 0) kY.pre kY.fn kZ.pre kZ.fn) lg:=mk Tryz.func105 rfl (by kernel_rfl) (hlC Xd.ok (hlC Xa.ok hlN)) (apJ (std 0) kY kZ)
def Xh:=fun kd k t fl ht=>(Xg.cs (agY Xe Xf Xb Xc kd k t fl ht)).1
def Xi:=fun kd k t fl ht=>(Xg.cs (agY Xe Xf Xb Xc kd k t fl ht)).2
noncomputable def yQ:Ct ak KA:=cn (QG (std 0) lg.pre lg.fn)
theorem adQ:Fn E 99 (QG (std 0) lg.pre lg.fn) yQ:=mk Tryz.func99 rfl (by kernel_rfl) (hlC Xg.ok hlN) (apK (std 0) lg)
def ahI:=fun t fl ht hl=>(adQ.cs (agZ Xh Xi t fl ht hl)).1
def ahJ:=fun t fl ht hl=>(adQ.cs (agZ Xh Xi t fl ht hl)).2
noncomputable def yL:Ct ak KC:=cn (QH (std 0) aF.pre aF.fn)
theorem adR:Fn E 101 (QH (std 0) aF.pre aF.fn) yL:=mk Tryz.func101 rfl (by kernel_rfl) (hlC nD.ok hlN) (apL (std 0) aF)
def ahK:=fun o=>(adR.cs (agP gM gN o)).1
def ahL:=fun o=>(adR.cs (agP gM gN o)).2
noncomputable def yR:Ct ak KD:=cn (QI (std 0))
theorem adS:Fn E 102 (QI (std 0)) yR:=mk Tryz.func102 rfl (by kernel_rfl) hlN (apM (std 0))
def ahM:=fun a h0 h1=>(adS.cs (ag0 a h0 h1)).1
def ahN:=fun a h0 h1=>(adS.cs (ag0 a h0 h1)).2
noncomputable def gL:Ct ak vM:=cn (QJ (std 0) aF.pre aF.fn)
theorem Rq:Fn E 103 (QJ (std 0) aF.pre aF.fn) gL:=mk Tryz.func103 rfl (by kernel_rfl) (hlC nD.ok hlN) (apN (std 0) aF)
def Lh:=fun a=>(Rq.cs (agk gM gN a)).1
def Li:=fun a=>(Rq.cs (agk gM gN a)).2
noncomputable def gK:Ct ak vN:=cn (QK (std 0))
theorem Rs:Fn E 169 (QK (std 0)) gK:=mk Tryz.func169 rfl (by kernel_rfl) hlN (apO (std 0))
def Lj:=fun a=>(Rs.cs (agi a)).1
def Ll:=fun a=>(Rs.cs (agi a)).2
noncomputable def yG:Ct ak KE:=cn (QL (std 0) bP.pre bP.fn gK.pre gK.fn)
theorem adT:Fn E 112 (QL (std 0) bP.pre bP.fn gK.pre gK.fn) yG:=mk Tryz.func112 rfl (by kernel_rfl) (hlC Ed.ok (hlC Rs.ok hlN)) (apP (std 0) bP gK)
def ahO:=fun op a b=>(adT.cs (agj vP vQ Lj Ll op a b)).1
def ahP:=fun op a b=>(adT.cs (agj vP vQ Lj Ll op a b)).2
noncomputable def lu:Ct ak Ay:=cn (QM (std 0) eB.pre eB.fn)
theorem Xj:Fn E 224 (QM (std 0) eB.pre eB.fn) lu:=mk Tryz.func224 rfl (by kernel_rfl) (hlC K8.ok hlN) (apQ (std 0) eB)
def adU:=fun a b ha=>(Xj.cs (agr Eb Ec a b ha)).1
def adV:=fun a b ha=>(Xj.cs (agr Eb Ec a b ha)).2
noncomputable def qN:Ct ak CP:=cn (IZ (std 0) lu.pre lu.fn)
theorem UZ:Fn E 240 (IZ (std 0) lu.pre lu.fn) qN:=mk Tryz.func240 rfl (by kernel_rfl) (hlC Xj.ok hlN) (alX (std 0) lu)
def adW:=fun a b d hd h1 h2 h3=>(UZ.cs (aae adU adV a b d hd h1 h2 h3)).1
def adX:=fun a b d hd h1 h2 h3=>(UZ.cs (aae adU adV a b d hd h1 h2 h3)).2
noncomputable def qL:Ct ak CQ:=cn (I4 (std 0))
theorem U0:Fn E 249 (I4 (std 0)) qL:=mk Tryz.func249 rfl (by kernel_rfl) hlN (alY (std 0))
def adY:=fun a b n d hl h1 h2 h3 h4=>(U0.cs (aac a b n d hl h1 h2 h3 h4)).1
def adZ:=fun a b n d hl h1 h2 h3 h4=>(U0.cs (aac a b n d hl h1 h2 h3 h4)).2
noncomputable def qM:Ct ak CS:=cn (I5 (std 0) qL.pre qL.fn)
theorem U1:Fn E 247 (I5 (std 0) qL.pre qL.fn) qM:=mk Tryz.func247 rfl (by kernel_rfl) (hlC U0.ok hlN) (alZ (std 0) qL)
def amL:=fun a m b d hl h1 h2 h3 h4=>(U1.cs (aad adY adZ a m b d hl h1 h2 h3 h4)).1
def amM:=fun a m b d hl h1 h2 h3 h4=>(U1.cs (aad adY adZ a m b d hl h1 h2 h3 h4)).2
end Go.TX.F
namespace Go.TX.F
open Go Go.AE Go.TX Go.TX.Seat Go.Proofs
set_option maxRecDepth 100000
noncomputable def cK:Nat→Ct ak nZ
  | 0=>never nZ
  | k+1=>cn (I6 (std 0) lu.pre lu.fn qM.pre qM.fn (cK k).pre (cK k).fn)
theorem kK:∀k:Nat,dG E 241 (dD (cK k))∧∀(a m b:Int) (d:List aj),Dn a m b d→b-a<k→(cK k).pre (a,m,b,d,())=true∧Mrg d ((cK k).fn (a,m,b,d,())).1 a b
  | 0=>⟨lJ (enters_of Tryz.func241 (by kernel_rfl) rfl),fun a m b d h1 h2=>(by have g1:=h1.h2;have g2:=h1.h3;omega)⟩
  | k+1=>by
    have ih:=kK k
    have t:Fn E 241 (I6 (std 0) lu.pre lu.fn qM.pre qM.fn (cK k).pre (cK k).fn) (cK (k+1)):=mk Tryz.func241 rfl (by kernel_rfl) (hlC Xj.ok (hlC U1.ok (hlC ih.1 hlN))) (al0 (std 0) lu qM (cK k))
    exact⟨t.ok,fun a m b d h1 h2=>t.cs (ams adU adV amL amM (k:Int) (fun a m b d h1 h2=>(ih.2 a m b d h1 h2).1) (fun a m b d h1 h2=>(ih.2 a m b d h1 h2).2) a m b d h1 (by omega))⟩
noncomputable def lC:Ct ak nZ:=cK 1000000000
theorem amN:dG E 241 (dD lC):=(kK 1000000000).1
theorem ahQ {a m b:Int} {d:List aj} (h:Dn a m b d):b-a< ((1000000000:Nat):Int):=by have g0:=h.sh.1;have g1:=h.h1;have g2:=h.h4;omega
def ad1:=fun a m b d h=>((kK 1000000000).2 a m b d h (ahQ h)).1
def ad2:=fun a m b d h=>((kK 1000000000).2 a m b d h (ahQ h)).2
noncomputable def qO:Ct ak CU:=cn (I9 (std 0) qN.pre qN.fn lC.pre lC.fn)
theorem U2:Fn E 229 (I9 (std 0) qN.pre qN.fn lC.pre lC.fn) qO:=mk Tryz.func229 rfl (by kernel_rfl) (hlC UZ.ok (hlC amN hlN)) (al1 (std 0) qN lC)
def ad3:=fun n d hd hn=>(U2.cs (aaf adW adX ad1 ad2 n d hd hn)).1
def ad4:=fun n d hd hn=>(U2.cs (aaf adW adX ad1 ad2 n d hd hn)).2
noncomputable def qP:Ct ak CV:=cn (Ja (std 0) qO.pre qO.fn)
theorem U3:Fn E 223 (Ja (std 0) qO.pre qO.fn) qP:=mk Tryz.func223 rfl (by kernel_rfl) (hlC U2.ok hlN) (al2 (std 0) qO)
def ad5:=fun d hd=>(U3.cs (aag ad3 ad4 d hd)).1
def ad6:=fun d hd=>(U3.cs (aag ad3 ad4 d hd)).2
noncomputable def lD:Ct ak Az:=cn (QS (std 0) eB.pre eB.fn bB.pre bB.fn gK.pre gK.fn kN.pre kN.fn qP.pre qP.fn)
theorem Xk:Fn E 217 (QS (std 0) eB.pre eB.fn bB.pre bB.fn gK.pre gK.fn kN.pre kN.fn qP.pre qP.fn) lD:=mk Tryz.func217 rfl (by kernel_rfl) (hlC K8.ok (hlC AX.ok (hlC Rs.ok (hlC Wx.ok (hlC U3.ok hlN))))) (apR (std 0) eB bB gK kN qP)
def Xl:=fun l hl hc=>(Xk.cs (agz Eb Ec oM oN Lj Ll Wy Wz ad5 ad6 l hl hc)).1
def Xm:=fun l hl hc=>(Xk.cs (agz Eb Ec oM oN Lj Ll Wy Wz ad5 ad6 l hl hc)).2
noncomputable def qQ:Ct ak CW:=cn (Jb (std 0))
theorem U4:Fn E 225 (Jb (std 0)) qQ:=mk Tryz.func225 rfl (by kernel_rfl) hlN (al3 (std 0))
def ad7:=fun n h1 h2=>(U4.cs (aah n h1 h2)).1
def ad8:=fun n h1 h2=>(U4.cs (aah n h1 h2)).2
noncomputable def yE:Ct ak KF:=cn (QT (std 0) qQ.pre qQ.fn)
theorem ad9:Fn E 218 (QT (std 0) qQ.pre qQ.fn) yE:=mk Tryz.func218 rfl (by kernel_rfl) (hlC U4.ok hlN) (apS (std 0) qQ)
def ahR:=fun a b ha hb=>(ad9.cs (agA ad7 ad8 a b ha hb)).1
def ahS:=fun a b ha hb=>(ad9.cs (agA ad7 ad8 a b ha hb)).2
noncomputable def yH:Ct ak KG:=cn (QU (std 0) bB.pre bB.fn lD.pre lD.fn yE.pre yE.fn)
theorem aea:Fn E 195 (QU (std 0) bB.pre bB.fn lD.pre lD.fn yE.pre yE.fn) yH:=mk Tryz.func195 rfl (by kernel_rfl) (hlC AX.ok (hlC Xk.ok (hlC ad9.ok hlN))) (apT (std 0) bB lD yE)
def ahT:=fun a b ha hb=>(aea.cs (agC oM oN Xl Xm ahR ahS a b ha hb)).1
def ahU:=fun a b ha hb=>(aea.cs (agC oM oN Xl Xm ahR ahS a b ha hb)).2
noncomputable def qR:Ct ak CX:=cn (Jc (std 0))
theorem U5:Fn E 226 (Jc (std 0)) qR:=mk Tryz.func226 rfl (by kernel_rfl) hlN (al4 (std 0))
def aeb:=fun n h1 h2=>(U5.cs (aai n h1 h2)).1
def aec:=fun n h1 h2=>(U5.cs (aai n h1 h2)).2
noncomputable def yF:Ct ak KH:=cn (QV (std 0) qR.pre qR.fn)
theorem aed:Fn E 219 (QV (std 0) qR.pre qR.fn) yF:=mk Tryz.func219 rfl (by kernel_rfl) (hlC U5.ok hlN) (apU (std 0) qR)
def ahV:=fun a b ha hb=>(aed.cs (agB aeb aec a b ha hb)).1
def ahW:=fun a b ha hb=>(aed.cs (agB aeb aec a b ha hb)).2
noncomputable def qU:Ct ak CY:=cn (Jd (std 0) lN.pre lN.fn)
theorem U6:Fn E 230 (Jd (std 0) lN.pre lN.fn) qU:=mk Tryz.func230 rfl (by kernel_rfl) (hlC ade.ok hlN) (al5 (std 0) lN)
def aee:=fun a b d hd h1 h2=>(U6.cs (abb afy afz a b d hd h1 h2)).1
def aef:=fun a b d hd h1 h2=>(U6.cs (abb afy afz a b d hd h1 h2)).2
noncomputable def qV:Ct ak F3:=never F3
theorem amO:dG E 231 (dD qV):=lJ (enters_of Tryz.func231 (by kernel_rfl) rfl)
noncomputable def qW:Ct ak F4:=never F4
theorem amP:dG E 232 (dD qW):=lJ (enters_of Tryz.func232 (by kernel_rfl) rfl)
noncomputable def qX:Ct ak F5:=never F5
theorem amQ:dG E 233 (dD qX):=lJ (enters_of Tryz.func233 (by kernel_rfl) rfl)
noncomputable def qY:Ct ak F6:=never F6
theorem amR:dG E 234 (dD qY):=lJ (enters_of Tryz.func234 (by kernel_rfl) rfl)
noncomputable def qZ:Ct ak F7:=never F7
theorem amS:dG E 235 (dD qZ):=lJ (enters_of Tryz.func235 (by kernel_rfl) rfl)
noncomputable def q8:Ct ak F8:=never F8
theorem amT:dG E 236 (dD q8):=lJ (enters_of Tryz.func236 (by kernel_rfl) rfl)
noncomputable def q9:Ct ak F9:=never F9
theorem amU:dG E 237 (dD q9):=lJ (enters_of Tryz.func237 (by kernel_rfl) rfl)
noncomputable def bH:Ct ak og:=never og
theorem nu:dG E 227 (dD bH):=lJ (enters_of Tryz.func227 (by kernel_rfl) rfl)
noncomputable def lF:Ct ak og:=cn (Je (std 0) lN.pre lN.fn qU.pre qU.fn qV.pre qV.fn qW.pre qW.fn qX.pre qX.fn qY.pre qY.fn qZ.pre qZ.fn q8.pre q8.fn q9.pre q9.fn bH.pre bH.fn)
theorem U7:Fn E 227 (Je (std 0) lN.pre lN.fn qU.pre qU.fn qV.pre qV.fn qW.pre qW.fn qX.pre qX.fn qY.pre qY.fn qZ.pre qZ.fn q8.pre q8.fn q9.pre q9.fn bH.pre bH.fn) lF:=mk Tryz.func227 rfl (by kernel_rfl) (hlC ade.ok (hlC U6.ok (hlC amO (hlC amP (hlC amQ (hlC amR (hlC amS (hlC amT (hlC amU (hlC nu hlN)))))))))) (al6 (std 0) lN qU qV qW qX qY qZ q8 q9 bH)
def aeg:=fun a b k d hd h1 h2=>(U7.cs (abd aee aef _ _ _ _ _ _ _ _ _ _ _ _ _ _ _ _ a b k d hd h1 h2)).1
def aeh:=fun a b k d hd h1 h2=>(U7.cs (abd aee aef _ _ _ _ _ _ _ _ _ _ _ _ _ _ _ _ a b k d hd h1 h2)).2
noncomputable def wO:Ct ak VP:={pre:=fun x=>decide ((0:Int)≤x.1)&&decide ((x.1:Int)≤18446744073709551615),fn:=fun x=>((Lib.bitLen (x.1:Int).toNat:Int),())}
theorem ahX (n:Int) (h1:0≤n) (h2:n≤18446744073709551615):wO.pre (n,())=true:=by
  show(decide _&&decide _)=true;simp only [Bool.and_eq_true,decide_eq_true_eq];exact⟨h1,h2⟩
theorem aqi:dG E 228 (dD wO):=
  abR (enters_of Tryz.func228 (by kernel_rfl) rfl) rfl fun x w h=>by
      have h':(decide ((0:Int)≤x)&&decide (x≤18446744073709551615))=true:=h
      simp only [Bool.and_eq_true,decide_eq_true_eq]at h'
      exact bits_Len x w h'.1 h'.2
noncomputable def ru:Ct ak CZ:=cn (Jf (std 0) lF.pre lF.fn wO.pre wO.fn)
theorem U8:Fn E 220 (Jf (std 0) lF.pre lF.fn wO.pre wO.fn) ru:=mk Tryz.func220 rfl (by kernel_rfl) (hlC U7.ok (hlC aqi hlN)) (al7 (std 0) lF wO)
def aei:=fun a ha=>(U8.cs (abe aeg aeh ahX a ha)).1
def aej:=fun a ha=>(U8.cs (abe aeg aeh ahX a ha)).2
noncomputable def lG:Ct ak AA:=cn (QW (std 0) bB.pre bB.fn gK.pre gK.fn lD.pre lD.fn yF.pre yF.fn ru.pre ru.fn)
theorem Xn:Fn E 197 (QW (std 0) bB.pre bB.fn gK.pre gK.fn lD.pre lD.fn yF.pre yF.fn ru.pre ru.fn) lG:=mk Tryz.func197 rfl (by kernel_rfl) (hlC AX.ok (hlC Rs.ok (hlC Xk.ok (hlC aed.ok (hlC U8.ok hlN))))) (apV (std 0) bB gK lD yF ru)
def Xo:=fun a b ha hb=>(Xn.cs (agD oM oN Lj Ll Xl Xm ahV ahW aei aej a b ha hb)).1
def Xp:=fun a b ha hb=>(Xn.cs (agD oM oN Lj Ll Xl Xm ahV ahW aei aej a b ha hb)).2
noncomputable def yI:Ct ak KI:=cn (QX (std 0) bB.pre bB.fn gL.pre gL.fn bP.pre bP.fn lG.pre lG.fn)
theorem aek:Fn E 196 (QX (std 0) bB.pre bB.fn gL.pre gL.fn bP.pre bP.fn lG.pre lG.fn) yI:=mk Tryz.func196 rfl (by kernel_rfl) (hlC AX.ok (hlC Rq.ok (hlC Ed.ok (hlC Xn.ok hlN)))) (apW (std 0) bB gL bP lG)
def ahY:=fun a n ha=>(aek.cs (agE oM oN Lh Li vP vQ Xo Xp a n ha)).1
def ahZ:=fun a n ha=>(aek.cs (agE oM oN Lh Li vP vQ Xo Xp a n ha)).2
noncomputable def yJ:Ct ak KJ:=cn (Q0 (std 0) gI.pre gI.fn gL.pre gL.fn yG.pre yG.fn yH.pre yH.fn lG.pre lG.fn yI.pre yI.fn kP.pre kP.fn)
theorem ael:Fn E 161 (Q0 (std 0) gI.pre gI.fn gL.pre gL.fn yG.pre yG.fn yH.pre yH.fn lG.pre lG.fn yI.pre yI.fn kP.pre kP.fn) yJ:=mk Tryz.func161 rfl (by kernel_rfl) (hlC Ro.ok (hlC Rq.ok (hlC adT.ok (hlC aea.ok (hlC Xn.ok (hlC aek.ok (hlC Wu.ok hlN))))))) (apX (std 0) gI gL yG yH lG yI kP)
def ah0:=fun op x y hx hy=>(ael.cs (agF Ld Le Lh Li ahO ahP ahT ahU Xo Xp ahY ahZ Wv Ww op x y hx hy)).1
def ah1:=fun op x y hx hy=>(ael.cs (agF Ld Le Lh Li ahO ahP ahT ahU Xo Xp ahY ahZ Wv Ww op x y hx hy)).2
noncomputable def yP:Ct ak KL:=cn (Q5 (std 0) gH.pre gH.fn yJ.pre yJ.fn kZ.pre kZ.fn kY.pre kY.fn)
theorem aem:Fn E 104 (Q5 (std 0) gH.pre gH.fn yJ.pre yJ.fn kZ.pre kZ.fn kY.pre kY.fn) yP:=mk Tryz.func104 rfl (by kernel_rfl) (hlC Rm.ok (hlC ael.ok (hlC Xa.ok (hlC Xd.ok hlN)))) (apY (std 0) gH yJ kZ kY)
def ah2:=fun t op x y ht hx hy=>(aem.cs (agG K9 La ah0 ah1 Xb Xc Xe Xf t op x y ht hx hy)).1
def ah3:=fun t op x y ht hx hy=>(aem.cs (agG K9 La ah0 ah1 Xb Xc Xe Xf t op x y ht hx hy)).2
noncomputable def yO:Ct ak KM:=cn (Q6 (std 0) gG.pre gG.fn)
theorem aen:Fn E 107 (Q6 (std 0) gG.pre gG.fn) yO:=mk Tryz.func107 rfl (by kernel_rfl) (hlC Rn.ok hlN) (apZ (std 0) gG)
def ah4:=fun a ha=>(aen.cs (agq Lb Lc a ha)).1
def ah5:=fun a ha=>(aen.cs (agq Lb Lc a ha)).2
noncomputable def yS:Ct ak KN:=cn (Q7 (std 0) kX.pre kX.fn yK.pre yK.fn yL.pre yL.fn kW.pre kW.fn gL.pre gL.fn yM.pre yM.fn yN.pre yN.fn yO.pre yO.fn yP.pre yP.fn lg.pre lg.fn yQ.pre yQ.fn yR.pre yR.fn)
theorem aeo:Fn E 37 (Q7 (std 0) kX.pre kX.fn yK.pre yK.fn yL.pre yL.fn kW.pre kW.fn gL.pre gL.fn yM.pre yM.fn yN.pre yN.fn yO.pre yO.fn yP.pre yP.fn lg.pre lg.fn yQ.pre yQ.fn yR.pre yR.fn) yS:=mk Tryz.func37 rfl (by kernel_rfl) (hlC WY.ok (hlC adO.ok (hlC adR.ok (hlC WR.ok (hlC Rq.ok (hlC adx.ok (hlC adK.ok (hlC aen.ok (hlC aem.ok (hlC Xg.ok (hlC adQ.ok (hlC adS.ok hlN)))))))))))) (ap0 (std 0) kX yK yL kW gL yM yN yO yP lg yQ yR)
def ah6:=fun t b ht hb=>(aeo.cs (ag2 WZ W9 ahE ahF ahK ahL WS WT Lh Li ahi ahj ahw ahx ah4 ah5 ah2 ah3 Xh Xi ahI ahJ ahM ahN t b ht hb)).1
def ah7:=fun t b ht hb=>(aeo.cs (ag2 WZ W9 ahE ahF ahK ahL WS WT Lh Li ahi ahj ahw ahx ah4 ah5 ah2 ah3 Xh Xi ahI ahJ ahM ahN t b ht hb)).2
end Go.TX.F
namespace Go.TX.F
open Go Go.AE Go.TX Go.TX.Seat Go.Proofs
set_option maxRecDepth 100000
noncomputable def rz:Ct ak C8:=cn (Jg (std 0) aX.pre aX.fn iF.pre iF.fn)
theorem U9:Fn E 216 (Jg (std 0) aX.pre aX.fn iF.pre iF.fn) rz:=mk Tryz.func216 rfl (by kernel_rfl) (hlC wR.ok (hlC Nn.ok hlN)) (al8 (std 0) aX iF)
def aep:=fun x y n hx hy=>(U9.cs (aaC mZ ni Np Nq x y n hx hy)).1
def aer:=fun x y n hx hy=>(U9.cs (aaC mZ ni Np Nq x y n hx hy)).2
noncomputable def rC:Ct ak C9:=cn (Jh (std 0) aC.pre aC.fn iW.pre iW.fn rz.pre rz.fn rA.pre rA.fn iX.pre iX.fn)
theorem Va:Fn E 193 (Jh (std 0) aC.pre aC.fn iW.pre iW.fn rz.pre rz.fn rA.pre rA.fn iX.pre iX.fn) rC:=mk Tryz.func193 rfl (by kernel_rfl) (hlC lK.ok (hlC Ny.ok (hlC U9.ok (hlC Uo.ok (hlC NH.ok hlN))))) (al9 (std 0) aC iW rz rA iX)
def aes:=fun t op x y ht hx hy=>(Va.cs (aaQ fT fU Nz NA aep aer acu acv NI NJ t op x y ht hx hy)).1
def aeu:=fun t op x y ht hx hy=>(Va.cs (aaQ fT fU Nz NA aep aer acu acv NI NJ t op x y ht hx hy)).2
noncomputable def rF:Ct ak Da:=cn (Ji (std 0) iW.pre iW.fn iK.pre iK.fn iX.pre iX.fn)
theorem Vb:Fn E 194 (Ji (std 0) iW.pre iW.fn iK.pre iK.fn iX.pre iX.fn) rF:=mk Tryz.func194 rfl (by kernel_rfl) (hlC Ny.ok (hlC NK.ok (hlC NH.ok hlN))) (ama (std 0) iW iK iX)
def aev:=fun t a ht ha=>(Vb.cs (aaR Nz NA NP NQ NI NJ t a ht ha)).1
def aew:=fun t a ht ha=>(Vb.cs (aaR Nz NA NP NQ NI NJ t a ht ha)).2
noncomputable def rG:Ct ak Db:=cn (Jj (std 0) aD.pre aD.fn rC.pre rC.fn rD.pre rD.fn rE.pre rE.fn rF.pre rF.fn)
theorem Vd:Fn E 160 (Jj (std 0) aD.pre aD.fn rC.pre rC.fn rD.pre rD.fn rE.pre rE.fn rF.pre rF.fn) rG:=mk Tryz.func160 rfl (by kernel_rfl) (hlC mh.ok (hlC Va.ok (hlC Ud.ok (hlC Uf.ok (hlC Vb.ok hlN))))) (amb (std 0) aD rC rD rE rF)
def aex:=fun b p hb h1 h2=>(Vd.cs (aa8 fP fQ aes aeu ab0 ab1 ab4 ab5 aev aew b p hb h1 h2)).1
def aey:=fun b p hb h1 h2=>(Vd.cs (aa8 fP fQ aes aeu ab0 ab1 ab4 ab5 aev aew b p hb h1 h2)).2
noncomputable def rM:Ct ak Dc:=cn (Jk (std 0) aD.pre aD.fn iV.pre iV.fn bT.pre bT.fn rG.pre rG.fn)
theorem Ve:Fn E 97 (Jk (std 0) aD.pre aD.fn iV.pre iV.fn bT.pre bT.fn rG.pre rG.fn) rM:=mk Tryz.func97 rfl (by kernel_rfl) (hlC mh.ok (hlC MX.ok (hlC Dx.ok (hlC Vd.ok hlN)))) (amc (std 0) aD iV bT rG)
def aez:=fun n b p hb h1 h2=>(Ve.cs (aa9 fP fQ MZ M0 wU wV aex aey n b p hb h1 h2)).1
def aeA:=fun n b p hb h1 h2=>(Ve.cs (aa9 fP fQ MZ M0 wU wV aex aey n b p hb h1 h2)).2
noncomputable def rO:Ct ak Df:=cn (Jl (std 0) rH.pre rH.fn rJ.pre rJ.fn rM.pre rM.fn)
theorem Vf:Fn E 36 (Jl (std 0) rH.pre rH.fn rJ.pre rJ.fn rM.pre rM.fn) rO:=mk Tryz.func36 rfl (by kernel_rfl) (hlC T9.ok (hlC UW.ok (hlC Ve.ok hlN))) (amd (std 0) rH rJ rM)
def aeB:=fun c hc hl=>(Vf.cs (abP abS abT adE adF aez aeA c hc hl)).1
def aeC:=fun c hc hl=>(Vf.cs (abP abS abT adE adF aez aeA c hc hl)).2
noncomputable def yV:Ct ak KO:=cn (Q8 (std 0) gJ.pre gJ.fn)
theorem aeD:Fn E 39 (Q8 (std 0) gJ.pre gJ.fn) yV:=mk Tryz.func39 rfl (by kernel_rfl) (hlC Rp.ok hlN) (ap1 (std 0) gJ)
def ah8:=fun a b ha=>(aeD.cs (agK Lf Lg a b ha)).1
def ah9:=fun a b ha=>(aeD.cs (agK Lf Lg a b ha)).2
noncomputable def aia:Ct ak Y7:=cn (Q9 (std 0) yS.pre yS.fn yT.pre yT.fn yU.pre yU.fn yV.pre yV.fn rO.pre rO.fn)
theorem aeE:Fn E 8 (Q9 (std 0) yS.pre yS.fn yT.pre yT.fn yU.pre yU.fn yV.pre yV.fn rO.pre rO.fn) aia:=mk Tryz.func8 rfl (by kernel_rfl) (hlC aeo.ok (hlC adB.ok (hlC adA.ok (hlC aeD.ok (hlC Vf.ok hlN))))) (ap2 (std 0) yS yT yU yV rO)
def aqj:=fun c hc=>(aeE.cs (ag5 ah6 ah7 ahq ahr aho ahp ah8 ah9 aeB aeC c hc)).1
def aqk:=fun c hc=>(aeE.cs (ag5 ah6 ah7 ahq ahr aho ahp ah8 ah9 aeB aeC c hc)).2
end Go.TX.F
namespace Go.Proofs.YtnhlcljjjbjfeaaGreat
open Go.ChangeShapes Go.WideShapes Go.ChangeAt Go.RowKit
theorem arQ:ownKnob Tryz.prog.godebug=Option.none:=by kernel_rfl
theorem aql:laidOutB Tryz.prog=true:=by kernel_rfl
theorem amV:Tryz.prog.cellsOf 5=1:=by kernel_rfl
set_option maxRecDepth 100000 in
theorem lifted (os:Os) (started:os.Started) (H:Type) (enc:TypeId×Value→H):
    ReturnsInHanded {} Tryz.checked os 8 .any (Rows.fnSymKeepsSpec.pre6 enc Tryz.prog Tryz.f8 Rows.fnSymKeepsRow.domain false) (Rows.fnSymKeepsSpec.post enc Tryz.prog Tryz.f8 false true false false):=by
  refine returnsInHanded_of_change (C:=Tryz.checked) arQ started (by kernel_rfl) Tryz.func8
    (ChangeSpec.witness6 (enc:=enc) (C:=Tryz.checked) false ⟨#[], #[.slice none 0 0],[]⟩ 8 (by kernel_rfl) (by kernel_rfl) (by kernel_rfl) (by kernel_rfl)) ?_
  intro W base args ds gs before hval0 hW _ _
  have hval:∀(j:Nat) t v,Tryz.f8.params[j]? =some t→args[j]? =some v→Value.okWide Tryz.prog W .any base t v:=hval0
  have hW':=hW
  obtain⟨p,q,hA0,hV,rfl,_,_⟩:=hW
  have hA:DataW.TrodAll enc Tryz.prog W 0 (fun _=>true) true Tryz.f8.params.toList args.toList ds p:=hA0
  rw [Tryz.params8]at hA hval
  obtain⟨v0,d0,rfl,rfl,h0⟩:=trodAll_one hA
  obtain⟨rfl,rfl⟩:=trodVars_none hV
  clear hA0 hval0
  simp only [List.append_nil]at hW'
  have hlt:∀x∈p,x.block<W.heap.size:=fun x hx=>by simpa using hW'.lt x hx
  obtain⟨xs,hr,hb⟩:=Go.TX.abQ Tryz.underlying22 Tryz.underlying5 amV (hval 0 22 v0 rfl rfl) h0 hlt
  have hp:=Go.TX.F.aqj xs hb
  have hq:=Go.TX.F.aqk xs hb
  refine(Go.TX.arN Go.TX.F.aeE.ok hr (fun g d h=>by cases h) hp).mono fun e W' ⟨he,hw⟩=> ?_
  have he:e= .returned (.bool true):=by rw [he,show Go.TX.F.aia.fn (xs,())=(true,())from hq]
  refine⟨_,he,[d0],[],p,[],p,[],hW',trodAll_mk1 (shut_bool Tryz.underlying4 true),?_,rfl,hw.frame _,fun h=>by cases h⟩
  exact trodAll_mk1 (Below.trod aql (by kernel_rfl) (of_decide_eq_true (by kernel_rfl)) h0 hw hlt)
theorem y1:Tryz.pinned.checked.prog.funcNamed Rows.fnSymKeepsRow.func=some 8:=by kernel_rfl
theorem aS {a b:Bool} (h:a=true) (k:b=true):(a&&b)=true:=by rw [h,k];rfl
set_option maxHeartbeats 4000000 in
theorem y2:joinedFacts Tryz.pinned.checked.prog 8 Tryz.f8 Rows.fnSymKeepsSpec Rows.fnSymKeepsRow=true:=by
  unfold joinedFacts
  repeat' with_reducible apply aS
  all_goals (as_aux_lemma=>kernel_rfl)
theorem y3:Func.isWrapper Tryz.prog Tryz.f8 Rows.fnSymKeepsRow.wrapper Rows.fnSymKeepsRow.mainSum:=(by unfold Func.isWrapper;first | (rw [if_pos (by decide+kernel)];kernel_rfl) | (rw [if_neg (by decide+kernel)];exact⟨rfl,rfl⟩))
theorem x_holds:Rows.FnSymKeepsSaid:=
  OpenClaim.holds_of_wide 8 Tryz.f8 rfl rfl rfl rfl rfl rfl rfl ⟨rfl,rfl,rfl,rfl,rfl⟩ rfl rfl rfl rfl rfl y1 Tryz.func8 y2
    (of_decide_eq_true (by kernel_rfl)) y3
    (fun os started H enc _=>lifted os started H enc)
end Go.Proofs.YtnhlcljjjbjfeaaGreat
