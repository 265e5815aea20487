/- For every input the law returns true, and the input reads as it did. No condition. -/
import Derived.Test.YtlfjmffimnjcgaaGreatZe
import Derived.ChangeSlices
import Derived.ChangeSame
import Derived.JoinedOf
import Derived.JoinedAt
import Derived.Handed
import Derived.Below
import Derived.Carry
import Derived.OpenShut
import Derived.Test.YtlfjmffimnjcgaaGreatY
import Derived.Test.YtlfjmffimnjcgaaGreatRows
set_option linter.all false
set_option linter.unusedSectionVars false
set_option linter.unusedVariables false
set_option linter.unusedSimpArgs false
namespace Go.TX.F
open Go Go.AE Go.TX
theorem iat_set {d:List Int} {i j x:Int} (h1:0≤i) (h2:i<d.length) (h3:0≤j):((d.set i.toNat x).getD (j).toNat default)=if j=i then x else((d).getD (j).toNat default):=by
  simp only [List.getD]
  by_cases h:j=i
  · subst h;rw [if_pos rfl,List.getElem?_set_self (by omega)];rfl
  · rw [if_neg h,List.getElem?_set_ne (by omega)]
theorem iswp_perm {d:List Int} {i j:Int} (h1:0≤i) (h2:i<d.length) (h3:0≤j) (h4:j<d.length) (h5:i≠j):((d.set i.toNat ((d).getD (j).toNat default)).set j.toNat ((d).getD (i).toNat default)).Perm d:=by
  rw [List.perm_iff_count]
  intro x
  rw [getD_lt (show i.toNat<d.length by omega),getD_lt (show j.toNat<d.length by omega),List.count_set (by simp;omega),List.count_set (by omega),List.getElem_set_ne (by omega)]
  have h6:(if d[i.toNat]==x then 1 else 0)≤List.count x d:=by
    split
    · rename_i h;exact List.count_pos_iff.2 (by rw [←eq_of_beq h];exact List.getElem_mem _)
    · omega
  split<;>split<;>simp_all<;>omega
theorem w_k69 {p:Int×Int×Unit→Bool} {f:Int×Int×Unit→Bool×Unit} (hp:∀a b,p (a,b,())=true) (hf:∀a b,f (a,b,())=(decide (a<b),()))
    (a b:Int) (d:List Int) (hd:d.length<1000000000) (h1:a=0) (h2:b=d.length):
    F_k69 (std 0) p f (a,b,d,()) (fun y=>y.1=sortI d):=by
  subst h1
  dsimp only [F_k69]
  simp (disch:=omega) only [RR]
  have fin:∀e:List Int,e.Perm d→(∀q:Int,1≤q→q<e.length→((e).getD (q-1).toNat default)≤((e).getD (q).toNat default))→e=sortI d:=fun e g1 g2=>
    sortI_uniq ((pairwise_adj (d:=default) (R:=fun a b:Int=>a≤b) (fun h1 h2=>Int.le_trans h1 h2)).2 g2) g1
  refine loop_intro (fun(y:Int×Int×Int×List Int×Unit)=>y.1=0∧y.2.1=b∧1≤y.2.2.1∧(y.2.2.1≤b∨y.2.2.1=1)∧y.2.2.2.1.Perm d∧∀q,1≤q→q<y.2.2.1→((y.2.2.2.1).getD (q-1).toNat default)≤((y.2.2.2.1).getD (q).toNat default)) (fun y=>(b-y.2.2.1).toNat)
    ⟨rfl,rfl,by simp,Or.inr rfl,List.Perm.refl d,fun q g1 g2=>by dsimp only at g2;omega⟩ ?_
  rintro⟨(a':Int),(b':Int),(i:Int),(e:List Int),⟨⟩⟩ hI
  dsimp only at hI ⊢
  obtain⟨rfl,rfl,h4,h5,h6,h7⟩:=hI
  have hle:=h6.length_eq
  simp (disch:=omega) only [RR]
  refine⟨fun h9=> ?_,fun h9=>fin e h6 fun q g1 g2=>h7 q g1 (by omega)⟩
  refine loop_intro (fun(y:Int×Int×Int×Int×List Int×Unit)=>y.1=0∧y.2.1=b'∧y.2.2.1=i∧0≤y.2.2.2.1∧y.2.2.2.1≤i∧y.2.2.2.2.1.Perm d
      ∧(∀q,1≤q→q≤i→q≠y.2.2.2.1→((y.2.2.2.2.1).getD (q-1).toNat default)≤((y.2.2.2.2.1).getD (q).toNat default))∧(1≤y.2.2.2.1→y.2.2.2.1+1≤i→((y.2.2.2.2.1).getD (y.2.2.2.1-1).toNat default)≤((y.2.2.2.2.1).getD (y.2.2.2.1+1).toNat default))) (fun y=>y.2.2.2.1.toNat)
    ⟨rfl,rfl,rfl,by simp;omega,by simp,h6,fun q g1 g2 g3=>h7 q g1 (by dsimp only at g3;omega),fun g1 g2=>by dsimp only at g2;omega⟩ ?_
  rintro⟨(a'':Int),(b'':Int),(i':Int),(j:Int),(e':List Int),⟨⟩⟩ hI
  dsimp only at hI ⊢
  obtain⟨rfl,rfl,rfl,h10,h11,h12,h13,h14⟩:=hI
  have hle':=h12.length_eq
  simp (disch:=omega) only [RR,List.length_set,hp,hf]
  repeat' (refine And.intro ?_ ?_)
  all_goals try omega
  · intro ⟨g1,g2⟩
    have at2:∀k,0≤k→(((e'.set j.toNat ((e').getD (j-1).toNat default)).set (j-1).toNat ((e').getD (j).toNat default)).getD (k).toNat default)=if k=j-1 then((e').getD (j).toNat default)else if k=j then((e').getD (j-1).toNat default)else((e').getD (k).toNat default):=fun k hk=>by
      rw [iat_set (by omega) (by simp;omega) hk,iat_set (by omega) (by omega) hk]
    repeat' (refine And.intro ?_ ?_)
    all_goals try omega
    · exact(iswp_perm (by omega) (by omega) (by omega) (by omega) (by omega)).trans h12
    · intro q k1 k2 k3
      rw [at2 _ (by omega),at2 _ (by omega)]
      by_cases c1:q=j
      · subst c1;rw [if_pos rfl,if_neg (by omega),if_pos rfl];omega
      · rw [if_neg (by omega)]
        by_cases c2:q=j+1
        · subst c2
          rw [if_pos (by omega),if_neg (by omega),if_neg (by omega)]
          exact h14 (by omega) (by omega)
        · rw [if_neg (by omega),if_neg (by omega),if_neg (by omega)]
          exact h13 q k1 k2 c1
    · intro k1 k2
      rw [at2 _ (by omega),at2 _ (by omega),if_neg (by omega),if_neg (by omega),if_neg (by omega),if_pos (by omega)]
      have:=h13 (j-1) (by omega) (by omega) (by omega)
      exact this
  · intro g
    refine⟨⟨by omega,by omega,h12,fun q k1 k2=> ?_⟩,by omega⟩
    by_cases c:q=j
    · subst c
      rw [Bool.and_eq_false_iff,decide_eq_false_iff_not,decide_eq_false_iff_not]at g
      omega
    · exact h13 q k1 (by omega) c
theorem w_k73 {p:Int×Int×Unit→Bool} {f:Int×Int×Unit→Bool×Unit}
    {p1:Int×Int×List Int×Unit→Bool} {f1:Int×Int×List Int×Unit→List Int×Unit} (hp1:∀(a b:Int) (d:List Int),d.length<1000000000→a=0→b=d.length→p1 (a,b,d,())=true) (hf1:∀(a b:Int) (d:List Int),d.length<1000000000→a=0→b=d.length→(f1 (a,b,d,())).1=sortI d)
    (p2 p3 f2 f3 p4 f4 p5 f5 p6 f6 p7 f7 p8 f8 p9 f9) (a b k:Int) (d:List Int) (hd:d.length≤12) (h1:a=0) (h2:b=d.length):
    F_k73 (std 0) p f p1 f1 p2 f2 p3 f3 p4 f4 p5 f5 p6 f6 p7 f7 p8 f8 p9 f9 (a,b,k,d,()) (fun y=>y.1=sortI d):=by
  subst h1
  dsimp only [F_k73]
  simp (disch:=omega) only [RR]
  refine loop_intro (fun(y:Int×Int×Int×Bool×Bool×List Int×Unit)=>y.1=0∧y.2.1=b∧y.2.2.2.2.2.1=d) (fun y=>0) ⟨rfl,rfl,rfl⟩ ?_
  rintro⟨(a':Int),(b':Int),(k':Int),(u:Bool),(v:Bool),(e:List Int),⟨⟩⟩ hI
  dsimp only at hI ⊢
  obtain⟨rfl,rfl,rfl⟩:=hI
  simp (disch:=omega) only [RR]
  exact⟨fun _=>⟨hp1 0 b' e (by omega) rfl h2,hf1 0 b' e (by omega) rfl h2⟩,fun h=>absurd h (by omega)⟩
theorem w_k64 {p1:Int×Int×Int×List Int×Unit→Bool} {f1:Int×Int×Int×List Int×Unit→List Int×Unit} (hp1:∀(a b k:Int) (d:List Int),d.length≤12→a=0→b=d.length→p1 (a,b,k,d,())=true) (hf1:∀(a b k:Int) (d:List Int),d.length≤12→a=0→b=d.length→(f1 (a,b,k,d,())).1=sortI d)
    {p2:Int×Unit→Bool} {f2:Int×Unit→Int×Unit} (hp2:∀n,0≤n→n≤18446744073709551615→p2 (n,())=true) (a:List Int) (ha:a.length≤8):
    F_k64 (std 0) p1 f1 p2 f2 (a,()) (fun y=>y=(sortI a,())):=by
  dsimp only [F_k64]
  have e:IntKind.u64.wrap (a.length:Int)=(a.length:Int):=IntWalk.u64_in _ (by omega)
  refine⟨?_,hp1 _ _ _ _ (by omega) rfl rfl,by rw [hf1 _ _ _ _ (by omega) rfl rfl]⟩
  rw [e];exact hp2 _ (by omega) (by omega)
end Go.TX.F
namespace Go.TX.F
open Go Go.AE Go.TX
def wOK (l:List Int):Prop:=∀z∈l,0≤z∧z≤65535
theorem wOK.at {l:List Int} (h:wOK l) (n:Nat):0≤l.getD n default∧l.getD n default≤65535:=by
  by_cases hn:n<l.length
  · rw [getD_lt hn];exact h _ (List.getElem_mem _)
  · rw [List.getD,List.getElem?_eq_none (by omega)];decide
def valF (v:List Int) (k:Int):Int:=if k<v.length then((v).getD (k).toNat default)else 0
theorem valF_rng {v:List Int} (h:wOK v) (k:Int):0≤valF v k∧valF v k≤65535:=by
  unfold valF;split
  · exact h.at _
  · omega
def evM (v:List Int) (c:Int) (l:List Int):Int:=l.foldl (fun c k=>c*valF v k%65536) c
def evF (v:List Int) (p:List Mono):Int:=p.foldl (fun s m=>(s+evM v m.coef m.atoms)%65536) 0
theorem fold_take {α β:Type} (g:β→α→β) (b:β) {l:List α} {i:Int} {d:α} (h0:0≤i) (h:i<l.length):(l.take (i+1).toNat).foldl g b=g ((l.take i.toNat).foldl g b) (l.getD i.toNat d):=by
  rw [←take_snoc (d:=d) h0 h rfl,List.foldl_append];rfl
theorem w_k41 {p1:Int×Unit→Bool} {f1:Int×Unit→Bool×Unit} (hp1:∀a,p1 (a,())=true) (hf1:∀a,f1 (a,())=(inB a 0 65535,())) (a:List Int) (ha:a.length<1000000000):
    F_k41 (std 0) p1 f1 (a,()) (fun y=>y=(bp (wOK a),())):=by
  dsimp only [F_k41]
  simp (disch:=omega) only [RR]
  refine loop_intro (fun(y:List Int×Int×Int×Unit)=>y.1=a∧y.2.1=a.length∧0≤y.2.2.1∧y.2.2.1≤a.length∧All y.2.2.1 (fun i=>0≤((a).getD (i).toNat default)∧((a).getD (i).toNat default)≤65535)) (fun y=>(a.length-y.2.2.1).toNat) ⟨rfl,rfl,by simp,by simp,All.zero⟩ ?_
  rintro⟨(l:List Int),(n:Int),(i:Int),⟨⟩⟩ hI
  dsimp only at hI ⊢
  obtain⟨rfl,rfl,h1,h2,h3⟩:=hI
  simp (disch:=omega) only [RR,hp1,hf1]
  refine⟨fun h4=>⟨by omega,by omega,fun h5=> ?_,fun h5=>⟨⟨by omega,by omega,h3.snoc ?_⟩,by omega⟩⟩,fun h4=> ?_⟩
  · rw [inB_f]at h5
    rw [bp_f fun g=>h5 (g.at _)]
  · rw [inB_t]at h5;exact h5
  · rw [bp_t]
    exact all_mem (d:=default) (G:=fun z:Int=>0≤z∧z≤65535).1 (h3.le (by omega))
theorem w_k40 (l:List Int) (k:Int) (hk:0≤k):F_k40 (std 0) (l,k,()) (fun y=>y=(valF l k,())):=by
  dsimp only [F_k40]
  simp (disch:=omega) only [RR]
  refine⟨fun h=> ?_,fun h=>⟨by omega,by omega,?_⟩⟩
  · unfold valF;rw [if_neg (by omega)]
  · unfold valF;rw [if_pos (by omega)]
theorem evM_rng {v:List Int}:∀ {l:List Int} {c:Int},0≤c∧c≤65535→0≤evM v c l∧evM v c l≤65535
  | [],_,h=>h
  | k::l,c,h=>evM_rng (l:=l) (c:=c*valF v k%65536) (by omega)
theorem evF_rng (v:List Int) (p:List Mono):0≤evF v p∧evF v p≤65535:=by
  unfold evF
  have:∀(p:List Mono) (s:Int),0≤s∧s≤65535→0≤p.foldl (fun s m=>(s+evM v m.coef m.atoms)%65536) s∧p.foldl (fun s m=>(s+evM v m.coef m.atoms)%65536) s≤65535:=by
    intro p
    induction p with
    | nil=>exact fun s h=>h
    | cons m p ih=>exact fun s h=>ih _ (by dsimp only;omega)
  exact this p 0 (by omega)
theorem w_k27 {p1:Int×Unit→Bool} {f1:Int×Unit→Int×Unit} (hp1:∀a,p1 (a,())=true) (hf1:∀a,f1 (a,())=(a%65536,())) (a:List Mono) (v:List Int) (ha:PolOK a) (hv:wOK v) (hl:v.length<1000000000):
    F_k27 (std 0) p1 f1 (a,v,()) (fun y=>y=(evF v a,())):=by
  have hlen:=ha.sh.1
  dsimp only [F_k27]
  simp (disch:=omega) only [RR]
  refine loop_intro (fun(y:List Int×Int×List Mono×Int×Int×Unit)=>y.1=v∧y.2.2.1=a∧y.2.2.2.1=a.length∧0≤y.2.2.2.2.1∧y.2.2.2.2.1≤a.length∧y.2.1=evF v (a.take y.2.2.2.2.1.toNat)) (fun y=>(a.length-y.2.2.2.2.1).toNat) ⟨rfl,rfl,rfl,by simp,by simp,rfl⟩ ?_
  rintro⟨(v':List Int),(s:Int),(l:List Mono),(n:Int),(i:Int),⟨⟩⟩ hI
  dsimp only at hI ⊢
  obtain⟨rfl,rfl,rfl,h1,h2,rfl⟩:=hI
  have hsr:=evF_rng v' (l.take i.toNat)
  simp (disch:=omega) only [RR]
  refine⟨fun h4=>⟨by omega,by omega,?_⟩,fun h4=>by rw [List.take_of_length_le (by omega)]⟩
  have hm:=getD_mem (d:=default) h1 h4
  generalize hme:((l).getD (i).toNat default)=m at hm ⊢
  obtain⟨q1,q2,q3⟩:=ha.at hm
  have q4:=(ha.aok hm).2.2
  have hin:=w64 (x:=i+1) (by omega) (by omega)
  refine loop_intro (fun(y:List Int×Int×Int×List Mono×Int×Int×List Int×Int×Int×Unit)=>y.1=v'∧y.2.1=evF v' (l.take i.toNat)∧y.2.2.2.1=l∧y.2.2.2.2.1=l.length∧y.2.2.2.2.2.1=i∧y.2.2.2.2.2.2.1=m.atoms∧y.2.2.2.2.2.2.2.1=m.atoms.length∧0≤y.2.2.2.2.2.2.2.2.1∧y.2.2.2.2.2.2.2.2.1≤m.atoms.length∧y.2.2.1=evM v' m.coef (m.atoms.take y.2.2.2.2.2.2.2.2.1.toNat)) (fun y=>(m.atoms.length-y.2.2.2.2.2.2.2.2.1).toNat)
    ⟨rfl,rfl,rfl,rfl,rfl,rfl,rfl,by simp,by simp,rfl⟩ ?_
  rintro⟨(v2:List Int),(s:Int),(c:Int),(l2:List Mono),(n2:Int),(i2:Int),(ats:List Int),(n3:Int),(j:Int),⟨⟩⟩ hI
  dsimp only at hI ⊢
  obtain⟨rfl,rfl,rfl,rfl,rfl,rfl,rfl,h5,h6,rfl⟩:=hI
  have hcr:=evM_rng (v:=v2) (l:=m.atoms.take j.toNat) ⟨by omega,q1.2⟩
  simp (disch:=omega) only [RR,hp1,hf1]
  refine⟨fun h7=>⟨by omega,by omega,?_⟩,fun h7=>⟨⟨by omega,by omega,?_⟩,by omega⟩⟩
  · have hk:=q4 _ (getD_mem (d:=default) h5 h7)
    have hvr:=hv.at (((m.atoms).getD (j).toNat default)).toNat
    have hval:=valF_rng hv ((m.atoms).getD (j).toNat default)
    have step:evM v2 m.coef (m.atoms.take (j+1).toNat)=evM v2 m.coef (m.atoms.take j.toNat)*valF v2 ((m.atoms).getD (j).toNat default)%65536:=fold_take _ _ h5 h7
    have prod:=mul_rng hcr.1 hcr.2 hval.1 hval.2
    refine⟨fun h8=>⟨by omega,by omega,⟨by omega,by omega,?_⟩,by omega⟩,fun h8=>⟨⟨by omega,by omega,?_⟩,by omega⟩⟩
    · have hve:((v2).getD (((m.atoms).getD (j).toNat default)).toNat default)=valF v2 ((m.atoms).getD (j).toNat default):=by unfold valF;rw [if_pos h8]
      rw [hve,w64 (by omega) (by omega)];exact step.symm
    · have hve:0=valF v2 ((m.atoms).getD (j).toNat default):=by unfold valF;rw [if_neg h8]
      rw [step,←hve]
  · have step:evF v2 (l2.take (i2+1).toNat)=(evF v2 (l2.take i2.toNat)+evM v2 (((l2).getD (i2).toNat default)).coef (((l2).getD (i2).toNat default)).atoms)%65536:=fold_take _ _ h1 h4
    rw [step,hme,show m.atoms.take j.toNat=m.atoms from List.take_of_length_le (by omega)]
theorem w_k7 {p1:List Mono×Unit→Bool} {f1:List Mono×Unit→Bool×Unit} (hp1:∀a,Sh a→p1 (a,())=true) (hf1:∀a,Sh a→f1 (a,())=(bp (PolOK a),()))
    {p2:List Int×Unit→Bool} {f2:List Int×Unit→Bool×Unit} (hp2:∀a,a.length<1000000000→p2 (a,())=true) (hf2:∀a,a.length<1000000000→f2 (a,())=(bp (wOK a),()))
    {p3:List Mono×List Int×Unit→Bool} {f3:List Mono×List Int×Unit→Int×Unit} (hp3:∀a v,PolOK a→wOK v→v.length<1000000000→p3 (a,v,())=true) (hf3:∀a v,PolOK a→wOK v→v.length<1000000000→f3 (a,v,())=(evF v a,()))
    (a:List Mono) (v:List Int) (ha:Sh a) (hl:v.length<1000000000):F_k7 (std 0) p1 f1 p2 f2 p3 f3 (a,v,()) (fun y=>y=(if bp (PolOK a∧wOK v)then evF v a else 0,())):=by
  dsimp only [F_k7]
  simp (disch:=omega) only [RR,hp1 a ha,hf1 a ha,hp2 v hl,hf2 v hl,bp_eq,bp_ne]
  refine⟨fun h=> ?_,fun⟨h1,h2⟩=> ?_⟩
  · rw [bp_f (by rintro⟨g1,g2⟩;rcases h with h | h;exact h g1;exact h g2)];rfl
  · rw [hf3 a v h1 h2 hl,bp_t ⟨h1,h2⟩];exact⟨hp3 a v h1 h2 hl,rfl⟩
def aVal (regs loads ins out:List Int) (a:Atom):Int:=
  if a.kind=1 then valF regs a.k else if a.kind=2 then valF loads a.k else if a.kind=3 then valF ins a.k else wdo a.k (evF out a.x) (evF out a.y)
def tv (regs loads ins:List Int) (t:List Atom):List Int:=t.foldl (fun o a=>o++ [aVal regs loads ins o a]) []
noncomputable def tabVals (t:List Atom) (regs loads ins:List Int):List Int:=if bp (TabOK t∧wOK regs∧wOK loads∧wOK ins)then tv regs loads ins t else []
theorem aVal_rng {regs loads ins:List Int} (h1:wOK regs) (h2:wOK loads) (h3:wOK ins) (out:List Int) (a:Atom):0≤aVal regs loads ins out a∧aVal regs loads ins out a≤65535:=by
  unfold aVal
  repeat' split
  · exact valF_rng h1 _
  · exact valF_rng h2 _
  · exact valF_rng h3 _
  · exact wdo_rng _ _ _
theorem wOK.snoc {l:List Int} (h:wOK l) {x:Int} (hx:0≤x∧x≤65535):wOK (l++ [x]):=fun z hz=>by
  rw [List.mem_append,List.mem_singleton]at hz
  rcases hz with hz | rfl
  · exact h z hz
  · exact hx
theorem tv_snoc (regs loads ins:List Int) (t:List Atom) (a:Atom):tv regs loads ins (t++ [a])=tv regs loads ins t++ [aVal regs loads ins (tv regs loads ins t) a]:=by
  unfold tv;rw [List.foldl_append];rfl
theorem tv_len (regs loads ins:List Int) (t:List Atom):(tv regs loads ins t).length=t.length:=by
  suffices h:∀(t:List Atom) (o:List Int),(t.foldl (fun o a=>o++ [aVal regs loads ins o a]) o).length=o.length+t.length by
    have:=h t [];rw [List.length_nil,Nat.zero_add]at this;exact this
  intro t
  induction t with
  | nil=>exact fun o=>rfl
  | cons a t ih=>exact fun o=>by rw [List.foldl_cons,ih,List.length_append,List.length_cons,List.length_cons,List.length_nil];omega
theorem tv_ok {regs loads ins:List Int} (h1:wOK regs) (h2:wOK loads) (h3:wOK ins) (t:List Atom):wOK (tv regs loads ins t):=by
  suffices h:∀(t:List Atom) (o:List Int),wOK o→wOK (t.foldl (fun o a=>o++ [aVal regs loads ins o a]) o)from h t [] (fun z hz=>by cases hz)
  intro t
  induction t with
  | nil=>exact fun o h=>h
  | cons a t ih=>exact fun o h=>ih _ (h.snoc (aVal_rng h1 h2 h3 _ _))
theorem w_k25 {p1:List Atom×Unit→Bool} {f1:List Atom×Unit→Bool×Unit} (hp1:∀a,ShT a→p1 (a,())=true) (hf1:∀a,ShT a→f1 (a,())=(bp (TabOK a),()))
    {p2:Int×Int×Int×Unit→Bool} {f2:Int×Int×Int×Unit→Int×Unit} (hp2:∀op a b,p2 (op,a,b,())=true) (hf2:∀op a b,f2 (op,a,b,())=(wdo op a b,()))
    {p3:List Int×Unit→Bool} {f3:List Int×Unit→Bool×Unit} (hp3:∀a,a.length<1000000000→p3 (a,())=true) (hf3:∀a,a.length<1000000000→f3 (a,())=(bp (wOK a),()))
    {p4:List Int×Int×Unit→Bool} {f4:List Int×Int×Unit→Int×Unit} (hp4:∀l k,0≤k→p4 (l,k,())=true) (hf4:∀l k,0≤k→f4 (l,k,())=(valF l k,()))
    {p5:List Mono×List Int×Unit→Bool} {f5:List Mono×List Int×Unit→Int×Unit} (hp5:∀a v,PolOK a→wOK v→v.length<1000000000→p5 (a,v,())=true) (hf5:∀a v,PolOK a→wOK v→v.length<1000000000→f5 (a,v,())=(evF v a,()))
    (t:List Atom) (regs loads ins:List Int) (ht:ShT t) (h1:regs.length<1000000000) (h2:loads.length<1000000000) (h3:ins.length<1000000000):
    F_k25 (std 0) p1 f1 p2 f2 p3 f3 p4 f4 p5 f5 (t,regs,loads,ins,()) (fun y=>y=(tabVals t regs loads ins,())):=by
  dsimp only [F_k25]
  simp (disch:=omega) only [RR,hp1 t ht,hf1 t ht,hp3 regs h1,hf3 regs h1,hp3 loads h2,hf3 loads h2,hp3 ins h3,hf3 ins h3,bp_eq,bp_ne]
  refine⟨fun h=> ?_,fun h=> ?_⟩
  · unfold tabVals;rw [bp_f];rfl
    rintro⟨g1,g2,g3,g4⟩
    rcases h with((h | h) | h) | h
    · exact h g1
    · exact h g2
    · exact h g3
    · exact h g4
  obtain⟨⟨⟨g1,g2⟩,g3⟩,g4⟩:=h
  have htl:=g1.2
  unfold tabVals;rw [bp_t ⟨g1,g2,g3,g4⟩,if_pos rfl]
  refine loop_intro (fun(y:List Int×List Int×List Int×List Atom×Int×Int×List Int×Unit)=>y.1=regs∧y.2.1=loads∧y.2.2.1=ins∧y.2.2.2.1=t∧y.2.2.2.2.1=t.length∧0≤y.2.2.2.2.2.1∧y.2.2.2.2.2.1≤t.length∧y.2.2.2.2.2.2.1=tv regs loads ins (t.take y.2.2.2.2.2.1.toNat)) (fun y=>(t.length-y.2.2.2.2.2.1).toNat) ⟨rfl,rfl,rfl,rfl,rfl,by simp,by simp,rfl⟩ ?_
  rintro⟨(r':List Int),(l':List Int),(n':List Int),(t':List Atom),(n:Int),(i:Int),(o:List Int),⟨⟩⟩ hI
  dsimp only at hI ⊢
  obtain⟨rfl,rfl,rfl,rfl,rfl,h5,h6,rfl⟩:=hI
  have hol:=tv_len r' l' n' (t'.take i.toNat)
  have hol2:=List.length_take_le' i.toNat t'
  have hok:=tv_ok g2 g3 g4 (t'.take i.toNat)
  generalize ho:tv r' l' n' (t'.take i.toNat)=o at hol hok ⊢
  simp (disch:=omega) only [RR]
  refine⟨fun h7=>⟨by omega,by omega,?_⟩,fun h7=>by rw [←ho,List.take_of_length_le (by omega)]⟩
  have hd:=(g1.1 i h5 h7).1
  have step:tv r' l' n' (t'.take (i+1).toNat)=o++ [aVal r' l' n' o ((t').getD (i).toNat default)]:=by rw [←take_snoc (d:=default) h5 h7 rfl,tv_snoc,ho]
  rw [step]
  generalize ((t').getD (i).toNat default)=a at hd ⊢
  unfold aDefd at hd
  have hk:¬a.kind=4→0≤a.k:=fun g=>by
    rw [if_neg g]at hd
    omega
  simp only [List.length_cons,List.length_nil]
  unfold aVal
  refine⟨fun k1=>⟨hp4 _ _ (hk (by omega)),?_⟩,fun k1=>⟨fun k2=>⟨hp4 _ _ (hk (by omega)),?_⟩,fun k2=>⟨fun k3=>⟨hp4 _ _ (hk (by omega)),?_⟩,fun k3=> ?_⟩⟩⟩
  · rw [hf4 _ _ (hk (by omega)),if_pos k1];exact⟨by omega,⟨by omega,by omega,rfl⟩,by omega⟩
  · rw [hf4 _ _ (hk (by omega)),if_neg k1,if_pos k2];exact⟨by omega,⟨by omega,by omega,rfl⟩,by omega⟩
  · rw [hf4 _ _ (hk (by omega)),if_neg k1,if_neg k2,if_pos k3];exact⟨by omega,⟨by omega,by omega,rfl⟩,by omega⟩
  · have k4:a.kind=4:=Classical.byContradiction fun g=>by
      rw [if_neg g]at hd
      omega
    rw [if_pos k4]at hd
    obtain⟨_,e1,e2,_⟩:=hd
    rw [hf5 a.x o e1 hok (by omega),hf5 a.y o e2 hok (by omega),if_neg k1,if_neg k2,if_neg k3,hf2]
    exact⟨hp5 _ _ e1 hok (by omega),hp5 _ _ e2 hok (by omega),hp2 _ _ _,by omega,⟨by omega,by omega,rfl⟩,by omega⟩
theorem w_k49 {p1:Int×Unit→Bool} {f1:Int×Unit→Int×Unit} (hp1:∀a,p1 (a,())=true) (hf1:∀a,f1 (a,())=(a%65536,())) (a:List Int) (ha:a.length<1000000000):
    F_k49 (std 0) p1 f1 (a,()) (fun y=>y=(a.map (fun z=>z%65536),())):=by
  dsimp only [F_k49]
  simp (disch:=omega) only [RR]
  refine loop_intro (fun(y:List Int×Int×List Int×Unit)=>y.1=a∧0≤y.2.1∧y.2.1≤a.length∧y.2.2.1=(a.take y.2.1.toNat).map (fun z=>z%65536)) (fun y=>(a.length-y.2.1).toNat) ⟨rfl,by simp,by simp,rfl⟩ ?_
  rintro⟨(l:List Int),(i:Int),(o:List Int),⟨⟩⟩ hI
  dsimp only at hI ⊢
  obtain⟨rfl,h1,h2,rfl⟩:=hI
  simp (disch:=omega) only [RR,hp1,hf1,List.length_map,List.length_cons,List.length_nil]
  have h3:=List.length_take_le' i.toNat l
  refine⟨fun h4=>⟨by omega,by omega,by omega,⟨by omega,by omega,?_⟩,by omega⟩,fun h4=>by rw [List.take_of_length_le (by omega)]⟩
  rw [←take_snoc (d:=default) h1 h4 rfl,List.map_append];rfl
theorem w_k104 {p1:List Int×Int×Unit→Bool} {f1:List Int×Int×Unit→Int×List Int×Int×Unit} (hp1:∀b p,Bt b→0≤p→p<900000000→p1 (b,p,())=true) (hf1:∀b p,Bt b→0≤p→p<900000000→Wd b p (f1 (b,p,())))
    (n:Int) (b:List Int) (p:Int) (hb:Bt b) (hn:0≤n∧n≤100) (h1:0≤p) (h2:p<800000000):F_k104 (std 0) p1 f1 (n,b,p,()) (fun(y:List Int×Int×List Int×Unit)=>y.1=b∧p≤y.2.1∧y.2.1≤p+300∧y.2.2.1.length=n∧wOK y.2.2.1):=by
  dsimp only [F_k104]
  simp (disch:=omega) only [RR]
  refine loop_intro (fun(y:Int×Int×List Int×Int×List Int×Unit)=>y.1=n∧0≤y.2.1∧y.2.1≤n∧y.2.2.1=b∧p≤y.2.2.2.1∧y.2.2.2.1≤p+3*y.2.1∧y.2.2.2.2.1.length=y.2.1∧wOK y.2.2.2.2.1) (fun y=>(n-y.2.1).toNat) ⟨rfl,by simp,by simp;omega,rfl,by simp,by simp,rfl,fun z hz=>(by cases hz)⟩ ?_
  rintro⟨(n':Int),(k:Int),(b':List Int),(q:Int),(o:List Int),⟨⟩⟩ hI
  dsimp only at hI ⊢
  obtain⟨rfl,k1,k2,rfl,k3,k4,k5,k6'⟩:=hI
  obtain⟨a1,a2,a3,a4⟩:=hf1 b' q hb (by omega) (by omega)
  simp (disch:=omega) only [RR,hp1 b' q hb (by omega) (by omega),List.length_append,List.length_cons,List.length_nil]
  exact⟨fun k6=>⟨by omega,⟨by omega,by omega,a1,by omega,by omega,by omega,k6'.snoc a4⟩,by omega⟩,fun k6=>⟨by omega,by omega,by omega,k6'⟩⟩
theorem w_k80 {p0:List Int×Unit→Bool} {f0:List Int×Unit→List Int×Int×Unit} (hp0:∀b,By b→b.length<1000000000→p0 (b,())=true) (hf0:∀b,By b→b.length<1000000000→Bt (f0 (b,())).1∧(f0 (b,())).2.1=0)
    {p1:Int×List Int×Int×Unit→Bool} {f1:Int×List Int×Int×Unit→Int×List Int×Int×Unit} (hp1:∀n b p,Bt b→0≤p→p<1000000000→p1 (n,b,p,())=true) (hf1:∀n b p,Bt b→0≤p→p<1000000000→Pk n b p (f1 (n,b,p,())))
    {p2:Int×List Int×Int×Unit→Bool} {f2:Int×List Int×Int×Unit→Bool×List Int×Int×Unit} (hp2:∀n b p,Bt b→0≤p→p<1000000000→p2 (n,b,p,())=true) (hf2:∀n b p,Bt b→0≤p→p<1000000000→(f2 (n,b,p,())).2.1=b∧(f2 (n,b,p,())).2.2.1=p+1)
    {p7:Int×List Int×Int×Unit→Bool} {f7:Int×List Int×Int×Unit→List Int×Int×List Atom×Unit} (hp7:∀n b p,Bt b→0≤p→p<300000000→p7 (n,b,p,())=true) (hf7:∀n b p,Bt b→0≤p→p<300000000→(f7 (n,b,p,())).1=b∧p≤(f7 (n,b,p,())).2.1∧(f7 (n,b,p,())).2.1≤p+20000∧ShT (f7 (n,b,p,())).2.2.1∧0< (f7 (n,b,p,())).2.2.1.length)
    {p8:Int×List Int×Int×Unit→Bool} {f8:Int×List Int×Int×Unit→List Int×Int×List Int×Unit} (hp8:∀n b p,Bt b→0≤n∧n≤100→0≤p→p<800000000→p8 (n,b,p,())=true) (hf8:∀n b p,Bt b→0≤n∧n≤100→0≤p→p<800000000→(f8 (n,b,p,())).1=b∧p≤(f8 (n,b,p,())).2.1∧(f8 (n,b,p,())).2.1≤p+300∧(f8 (n,b,p,())).2.2.1.length=n∧wOK (f8 (n,b,p,())).2.2.1)
    (c:List Int) (hc:By c) (hl:c.length<1000000000):F_k80 (std 0) p0 f0 p1 f1 p2 f2 p7 f7 p8 f8 (c,()) (fun(y:List Atom×List Int×List Int×List Int×Unit)=>ShT y.1∧y.2.1.length≤1000∧y.2.2.1.length≤1000∧y.2.2.2.1.length≤1000∧wOK y.2.2.1∧wOK y.2.2.2.1):=by
  obtain⟨hb,e0⟩:=hf0 c hc hl
  generalize hbe:(f0 (c,())).1=b at hb
  obtain⟨a1,a2,a3,a4,a5⟩:=hf7 12 b 0 hb (by omega) (by omega)
  generalize hq:(f7 (12,b,0,())).2.1=q at a2 a3
  generalize ht:(f7 (12,b,0,())).2.2.1=t at a4 a5
  obtain⟨b1,b2,b3,b4⟩:=hf1 2 b q hb (by omega) (by omega)
  generalize hn:(f1 (2,b,q,())).1=n at b3 b4
  obtain⟨c1,c2,c3,c4,_⟩:=hf8 (3+n) b (q+1) hb (by omega) (by omega) (by omega)
  generalize hr:(f8 (3+n,b,q+1,())).2.1=r at c2 c3
  generalize hw:(f8 (3+n,b,q+1,())).2.2.1=w at c4
  obtain⟨d1,d2⟩:=hf2 12 b r hb (by omega) (by omega)
  obtain⟨g1,g2,g3,g4⟩:=hf1 4 b (r+1) hb (by omega) (by omega)
  generalize hm:(f1 (4,b,r+1,())).1=m at g3 g4
  obtain⟨i1,i2,i3,i4,i5⟩:=hf8 m b (r+1+1) hb (by omega) (by omega) (by omega)
  generalize hs:(f8 (m,b,r+1+1,())).2.1=s at i2 i3
  obtain⟨j1,j2,j3,j4⟩:=hf1 4 b s hb (by omega) (by omega)
  generalize hk:(f1 (4,b,s,())).1=k at j3 j4
  obtain⟨k1,k2,k3,k4,k5⟩:=hf8 k b (s+1) hb (by omega) (by omega) (by omega)
  dsimp only [F_k80]
  simp (disch:=omega) only [RR,hp0 c hc hl,hbe,e0,hp7 12 b 0 hb (by omega) (by omega),a1,hq,ht,hp1 2 b q hb (by omega) (by omega),b1,b2,hn,hp8 (3+n) b (q+1) hb (by omega) (by omega) (by omega),c1,hr,hw,hp2 12 b r hb (by omega) (by omega),d1,d2,List.length_cons,List.length_nil,hp1 4 b (r+1) hb (by omega) (by omega),g1,g2,hm,hp8 m b (r+1+1) hb (by omega) (by omega) (by omega),i1,hs,hp1 4 b s hb (by omega) (by omega),j1,j2,hk,hp8 k b (s+1) hb (by omega) (by omega) (by omega),List.length_append]
  exact⟨fun _=>⟨by omega,a4,by omega,by omega,by omega,i5,k5⟩,fun _=>⟨a4,by omega,by omega,by omega,i5,k5⟩⟩
end Go.TX.F
namespace Go.TX.F
open Go Go.AE Go.TX
def prA (v:List Int) (l:List Int):Int:=l.foldr (fun k c=>valF v k*c) 1
def evS (v:List Int) (p:List Mono):Int:=(p.map fun m=>m.coef*prA v m.atoms).sum
theorem prA_cons (v:List Int) (k:Int) (l:List Int):prA v (k::l)=valF v k*prA v l:=rfl
theorem prA_append (v:List Int):∀a b:List Int,prA v (a++b)=prA v a*prA v b
  | [],b=>by show prA v b=1*_;rw [Int.one_mul]
  | k::a,b=>by rw [List.cons_append,prA_cons,prA_cons,prA_append v a b,Int.mul_assoc]
theorem prA_perm (v:List Int) {a b:List Int} (h:a.Perm b):prA v a=prA v b:=by
  induction h with
  | nil=>rfl
  | cons x _ ih=>rw [prA_cons,prA_cons,ih]
  | swap x y l=>rw [prA_cons,prA_cons,prA_cons,prA_cons,Int.mul_left_comm]
  | trans _ _ h1 h2=>exact h1.trans h2
theorem evS_cons (v:List Int) (m:Mono) (p:List Mono):evS v (m::p)=m.coef*prA v m.atoms+evS v p:=by simp [evS]
theorem evS_append (v:List Int) (a b:List Mono):evS v (a++b)=evS v a+evS v b:=by simp [evS]
theorem evS_nil (v:List Int):evS v []=0:=rfl
theorem evM_eq (v:List Int):∀(l:List Int) (c:Int),evM v c l%65536=c*prA v l%65536
  | [],c=>by show c%65536=c*1%65536;rw [Int.mul_one]
  | k::l,c=>by
    show evM v (c*valF v k%65536) l%65536=_
    rw [evM_eq v l,prA_cons,←Int.mul_assoc,Int.mul_emod,Int.emod_emod_of_dvd _ (Int.dvd_refl _),←Int.mul_emod]
theorem evF_eq (v:List Int) (p:List Mono):evF v p=evS v p%65536:=by
  have:∀(p:List Mono) (s:Int),p.foldl (fun s m=>(s+evM v m.coef m.atoms)%65536) s%65536=(s+evS v p)%65536:=by
    intro p
    induction p with
    | nil=>intro s;show s%65536=(s+0)%65536;rw [Int.add_zero]
    | cons m p ih=>
      intro s
      rw [List.foldl_cons,ih,evS_cons]
      have h:=evM_eq v m.atoms m.coef
      omega
  have h:=this p 0
  have r:=evF_rng v p
  unfold evF at r ⊢
  rw [Int.zero_add]at h
  omega
theorem evS_split (v:List Int) (k:List Int):∀l:List Mono,evS v l=cf l k*prA v k+evS v (l.filter fun m=>decide (m.atoms≠k))
  | []=>by rw [cf_nil,Int.zero_mul];rfl
  | m::l=>by
    have ih:=evS_split v k l
    rw [evS_cons,cf_cons]
    by_cases h:m.atoms=k
    · rw [if_pos h,List.filter_cons_of_neg (by simp [h]),ih,Int.add_mul,h];omega
    · rw [if_neg h,List.filter_cons_of_pos (by simp [h]),evS_cons,ih,Int.zero_add];omega
theorem cf_filter (k j:List Int):∀l:List Mono,cf (l.filter fun m=>decide (m.atoms≠k)) j=if j=k then 0 else cf l j
  | []=>by rw [List.filter_nil,cf_nil];split<;>rfl
  | m::l=>by
    have ih:=cf_filter k j l
    by_cases h:m.atoms=k
    · rw [List.filter_cons_of_neg (by simp [h]),ih,cf_cons]
      by_cases h2:j=k
      · rw [if_pos h2,if_pos h2]
      · rw [if_neg h2,if_neg h2,if_neg (by rw [h];exact fun e=>h2 e.symm)];omega
    · rw [List.filter_cons_of_pos (by simp [h]),cf_cons,ih,cf_cons]
      by_cases h2:j=k
      · rw [if_pos h2,if_pos h2,if_neg (by rw [h2];exact h)];rfl
      · rw [if_neg h2,if_neg h2]
theorem evS_zero (v:List Int):∀(n:Nat) (l:List Mono),l.length≤n→(∀k,cf l k%65536=0)→evS v l%65536=0
  | 0,[],_,_=>rfl
  | n+1,[],_,_=>rfl
  | n+1,m::l,hl,h=>by
    have hs:=evS_split v m.atoms (m::l)
    have hf:((m::l).filter fun x=>decide (x.atoms≠m.atoms)).length≤n:=by
      rw [List.filter_cons_of_neg (by simp)]
      have:=List.length_filter_le (fun x:Mono=>decide (x.atoms≠m.atoms)) l
      simp only [List.length_cons]at hl
      omega
    have ih:=evS_zero v n _ hf (fun k=>by
      rw [cf_filter];split
      · rfl
      · exact h k)
    have e:=h m.atoms
    have e2:cf (m::l) m.atoms*prA v m.atoms%65536=0:=by rw [Int.mul_emod,e,Int.zero_mul];rfl
    rw [hs];omega
def negL (l:List Mono):List Mono:=l.map fun m=>⟨-m.coef,m.atoms⟩
theorem cf_neg (k:List Int):∀l:List Mono,cf (negL l) k= -cf l k
  | []=>rfl
  | m::l=>by
    have ih:=cf_neg k l
    show cf (⟨-m.coef,m.atoms⟩::negL l) k=_
    rw [cf_cons,cf_cons,ih]
    dsimp only
    split<;>omega
theorem evS_neg (v:List Int):∀l:List Mono,evS v (negL l)= -evS v l
  | []=>rfl
  | m::l=>by
    have ih:=evS_neg v l
    show evS v (⟨-m.coef,m.atoms⟩::negL l)=_
    rw [evS_cons,evS_cons,ih]
    dsimp only
    rw [Int.neg_mul];omega
theorem evS_congr (v:List Int) {a b:List Mono} (h:∀k,cf a k%65536=cf b k%65536):evS v a%65536=evS v b%65536:=by
  have h1:=evS_zero v _ (a++negL b) (Nat.le_refl _) (fun k=>by rw [cf_append,cf_neg];have:=h k;omega)
  rw [evS_append,evS_neg]at h1
  omega
def ins (c:Int) (at_:List Int):List Mono→List Mono
  | []=>if c%65536=0 then []else [⟨c%65536,at_⟩]
  | m::o=>if aOrd at_ m.atoms<0 then(if c%65536=0 then m::o else⟨c%65536,at_⟩::m::o)
    else if at_=m.atoms then(if(c+m.coef)%65536=0 then o else⟨(c+m.coef)%65536,at_⟩::o)else m::ins c at_ o
theorem ins_lt {c:Int} {a:List Int} {x:Mono} (hx:aOrd x.atoms a<0):∀ {o:List Mono},(∀y∈o,lt x y)→∀y∈ins c a o,lt x y
  | [],_,y,hy=>by
    unfold ins at hy
    split at hy
    · cases hy
    · rw [List.mem_singleton]at hy;subst hy;exact hx
  | m::o,h,y,hy=>by
    unfold ins at hy
    split at hy
    · split at hy
      · exact h y hy
      · rcases List.mem_cons.1 hy with rfl | hy
        · exact hx
        · exact h y hy
    · split at hy
      · split at hy
        · exact h y (List.mem_cons_of_mem _ hy)
        · rcases List.mem_cons.1 hy with rfl | hy
          · exact hx
          · exact h y (List.mem_cons_of_mem _ hy)
      · rcases List.mem_cons.1 hy with rfl | hy
        · exact h _ (List.mem_cons_self ..)
        · exact ins_lt hx (fun z hz=>h z (List.mem_cons_of_mem _ hz)) y hy
theorem ins_nf (c:Int) (a:List Int):∀ {o:List Mono},Nf o→Nf (ins c a o)∧∀k,cf (ins c a o) k=((if a=k then c else 0)+cf o k)%65536
  | [],h=>by
    unfold ins
    by_cases h1:c%65536=0
    · rw [if_pos h1];exact⟨h,fun k=>by rw [cf_nil];split<;>omega⟩
    · rw [if_neg h1]
      refine⟨⟨List.pairwise_singleton _ _,fun m hm=>by rw [List.mem_singleton]at hm;subst hm;dsimp only;omega⟩,fun k=> ?_⟩
      rw [cf_cons,cf_nil];dsimp only;split<;>omega
  | m::o,h=>by
    have hb:=h.bnd
    have ho:Nf o:=⟨h.ss.tail,fun x hx=>h.co x (List.mem_cons_of_mem _ hx)⟩
    have hm:=h.co m (List.mem_cons_self ..)
    unfold ins
    by_cases h1:aOrd a m.atoms<0
    · rw [if_pos h1]
      by_cases h2:c%65536=0
      · rw [if_pos h2];exact⟨h,fun k=>by have:=hb k;split<;>omega⟩
      · rw [if_neg h2]
        have g:Nf (⟨c%65536,a⟩::m::o):=⟨List.pairwise_cons.2 ⟨fun y hy=>by
          rcases List.mem_cons.1 hy with rfl | hy
          · exact h1
          · exact lt_trans' (b:=m) h1 (List.rel_of_pairwise_cons h.ss hy),h.ss⟩,fun x hx=>by
          rcases List.mem_cons.1 hx with rfl | hx
          · dsimp only;omega
          · exact h.co x hx⟩
        refine⟨g,fun k=> ?_⟩
        have hk:=hb k
        have gk:=g.bnd k
        rw [cf_cons]at gk ⊢
        dsimp only at gk ⊢
        split<;>split at gk<;>omega
    · rw [if_neg h1]
      by_cases h2:a=m.atoms
      · rw [if_pos h2]
        by_cases h3:(c+m.coef)%65536=0
        · rw [if_pos h3]
          refine⟨ho,fun k=> ?_⟩
          have ok:=ho.bnd k
          have hk:=hb k
          rw [cf_cons]at hk ⊢
          rw [h2]
          by_cases h4:m.atoms=k
          · rw [if_pos h4,if_pos h4]
            have:cf o k=0:=cf_zero fun x hx e=>(List.rel_of_pairwise_cons h.ss hx:lt m x).ne (h4.trans e.symm)
            omega
          · rw [if_neg h4,if_neg h4];omega
        · rw [if_neg h3]
          have g:Nf (⟨(c+m.coef)%65536,a⟩::o):=⟨List.pairwise_cons.2 ⟨fun y hy=>by
            have:lt m y:=List.rel_of_pairwise_cons h.ss hy
            unfold lt at this ⊢;rw [h2];exact this,ho.ss⟩,fun x hx=>by
            rcases List.mem_cons.1 hx with rfl | hx
            · dsimp only;omega
            · exact ho.co x hx⟩
          refine⟨g,fun k=> ?_⟩
          have ok:=ho.bnd k
          rw [cf_cons,cf_cons]
          dsimp only
          rw [h2]
          by_cases h4:m.atoms=k
          · rw [if_pos h4,if_pos h4,if_pos h4]
            have:cf o k=0:=cf_zero fun x hx e=>(List.rel_of_pairwise_cons h.ss hx:lt m x).ne (h4.trans e.symm)
            omega
          · rw [if_neg h4,if_neg h4,if_neg h4];omega
      · rw [if_neg h2]
        obtain⟨i1,i2⟩:=ins_nf c a ho
        have hlt:aOrd m.atoms a<0:=by
          have:=aOrd_flip m.atoms a
          by_cases z:aOrd m.atoms a=0
          · exact absurd (aOrd_zero.1 z).symm h2
          · omega
        refine⟨⟨List.pairwise_cons.2 ⟨ins_lt hlt (fun y hy=>List.rel_of_pairwise_cons h.ss hy),i1.ss⟩,fun x hx=>by
          rcases List.mem_cons.1 hx with rfl | hx
          · exact hm
          · exact i1.co x hx⟩,fun k=> ?_⟩
        rw [cf_cons,cf_cons,i2 k]
        by_cases h4:m.atoms=k
        · have:cf o k=0:=cf_zero fun x hx e=>(List.rel_of_pairwise_cons h.ss hx:lt m x).ne (h4.trans e.symm)
          rw [if_pos h4,if_neg (by rw [←h4];exact h2),this];omega
        · rw [if_neg h4];omega
theorem nf_ex:∀l:List Mono,∃o,Nf o∧∀k,cf o k=cf l k%65536
  | []=>⟨[],⟨List.Pairwise.nil,fun m hm=>by cases hm⟩,fun k=>rfl⟩
  | m::l=>by
    obtain⟨o,h1,h2⟩:=nf_ex l
    obtain⟨g1,g2⟩:=ins_nf m.coef m.atoms h1
    refine⟨_,g1,fun k=> ?_⟩
    rw [g2,cf_cons,h2];split<;>omega
theorem nf_spec (l:List Mono):Nf (nf l)∧∀k,cf (nf l) k=cf l k%65536:=by
  obtain⟨o,h1,h2⟩:=nf_ex l
  rw [nf_eq h1 h2];exact⟨h1,h2⟩
theorem ev_sum (v:List Int) {l:List Mono} (h:(sumF l).1=true):evF v (sumF l).2=evS v l%65536:=by
  unfold sumF at h ⊢
  dsimp only at h ⊢
  rw [h,if_pos rfl,evF_eq]
  exact evS_congr v fun k=>by rw [(nf_spec l).2];omega
theorem ev_add (v:List Int) {a b:List Mono} (h:(addF a b).1=true):evF v (addF a b).2=(evF v a+evF v b)%65536:=by
  unfold addF at h ⊢
  split at h
  · rename_i c;rw [if_pos c,ev_sum v h,evS_append,evF_eq,evF_eq];omega
  · cases h
theorem evS_mulM (v:List Int) (m:Mono):∀b:List Mono,evS v (b.map (mulM m))%65536=m.coef*prA v m.atoms*evS v b%65536
  | []=>by rw [List.map_nil,evS_nil,Int.mul_zero]
  | n::b=>by
    have ih:=evS_mulM v m b
    rw [List.map_cons,evS_cons,evS_cons,Int.mul_add]
    have e:(mulM m n).coef*prA v (mulM m n).atoms%65536=m.coef*prA v m.atoms*(n.coef*prA v n.atoms)%65536:=by
      have p:prA v (mulM m n).atoms=prA v m.atoms*prA v n.atoms:=by rw [←prA_append];exact prA_perm v (List.mergeSort_perm _ _)
      rw [p]
      show m.coef*n.coef%65536*_%65536=_
      rw [Int.mul_emod,Int.emod_emod_of_dvd _ (Int.dvd_refl _),←Int.mul_emod]
      congr 1
      rw [Int.mul_assoc,Int.mul_assoc,Int.mul_left_comm n.coef]
    omega
theorem evS_prods (v:List Int) (b:List Mono):∀a:List Mono,evS v (prods a b)%65536=evS v a*evS v b%65536
  | []=>by show evS v []%65536=_;rw [evS_nil,Int.zero_mul]
  | m::a=>by
    have ih:=evS_prods v b a
    have h:=evS_mulM v m b
    rw [prods_cons,evS_append,evS_cons,Int.add_mul]
    omega
theorem ev_mul (v:List Int) {a b:List Mono} (h:(mulF a b).1=true):evF v (mulF a b).2=(evF v a*evF v b)%65536:=by
  unfold mulF at h ⊢
  split at h
  · rename_i c;rw [if_pos c,ev_sum v h,evS_prods,evF_eq,evF_eq,←Int.mul_emod]
  · cases h
theorem ev_neg (v:List Int) {x:List Mono} (h:PolOK x):evF v (scaleF x 65535)=(-evF v x)%65536:=by
  rw [evF_eq,evF_eq]
  have:=evS_congr v (a:=scaleF x 65535) (b:=negL x) fun k=>by rw [(scaleF_neg h).2,cf_neg];omega
  rw [this,evS_neg];omega
theorem ev_const (v:List Int) {n:Int} (h:0≤n∧n≤65535):evF v (pConst n)=n:=by
  unfold pConst
  split
  · show(0+n)%65536=n;omega
  · show(0:Int)=n;omega
theorem ev_atom (v:List Int) {k:Int} (h:0≤k∧k≤199) (hv:wOK v):evF v (pAtom k)=valF v k:=by
  have r:=valF_rng hv k
  unfold pAtom;rw [if_pos h]
  show(0+1*valF v k%65536)%65536=_
  omega
theorem xor_zero' {a:Int} (h1:0≤a) (h2:a≤65535):bitI .xor .i64 a 0=a:=by
  have:=and_self' h1 h2
  unfold bitI at this ⊢;dsimp only at this ⊢
  rw [BitVec.and_self]at this
  rw [show BitVec.ofInt IntKind.i64.bits 0=0#IntKind.i64.bits by rfl,BitVec.xor_zero];exact this
theorem simpF_ok {op:Int} (hop:1≤op∧op≤5) {x y:List Mono} (hx:PolOK x) (hy:PolOK y):PolOK (simpF op x y).1:=by
  unfold simpF
  split
  · exact addF_ok _ _
  · split
    · exact addF_ok _ _
    · split
      · exact mulF_ok _ _
      · unfold bitF
        repeat' split
        all_goals first | exact polOK_const _ | exact polOK_nil | assumption
theorem ev_simp (v:List Int) {op:Int} {x y:List Mono} (hop:1≤op∧op≤5) (hx:PolOK x) (hy:PolOK y) (h:(simpF op x y).2=true):evF v (simpF op x y).1=wdo op (evF v x) (evF v y):=by
  have rx:=evF_rng v x
  have ry:=evF_rng v y
  have W:wdo op (evF v x) (evF v y)=if op=1 then(evF v x+evF v y)%65536 else if op=2 then(evF v x-evF v y)%65536 else if op=3 then(evF v x*evF v y)%65536 else if op=4 then bitI .and .i64 (evF v x) (evF v y)else if op=5 then bitI .xor .i64 (evF v x) (evF v y)else 0:=by
    unfold wdo;rw [if_pos ⟨rx,ry⟩]
  unfold simpF at h ⊢
  by_cases c1:op=1
  · rw [if_pos c1]at h ⊢;rw [W,if_pos c1];exact ev_add v h
  rw [if_neg c1]at h ⊢
  by_cases c2:op=2
  · rw [if_pos c2]at h ⊢;rw [W,if_neg c1,if_pos c2]
    dsimp only at h ⊢
    rw [ev_add v h,ev_neg v hy];omega
  rw [if_neg c2]at h ⊢
  by_cases c3:op=3
  · rw [if_pos c3]at h ⊢;rw [W,if_neg c1,if_neg c2,if_pos c3];exact ev_mul v h
  rw [if_neg c3]at h ⊢
  unfold bitF at h ⊢
  have N:∀ {z:List Mono},(pNum z).2=true→evF v z=(pNum z).1:=fun {z} g=>by
    obtain⟨_,g2,g3⟩:=pNum_const g
    have:=ev_const v g3
    rw [←g2]at this;exact this
  have W4:op=4→wdo op (evF v x) (evF v y)=bitI .and .i64 (evF v x) (evF v y):=fun e=>by rw [W,if_neg c1,if_neg c2,if_neg c3,if_pos e]
  have W5:op≠4→wdo op (evF v x) (evF v y)=bitI .xor .i64 (evF v x) (evF v y):=fun e=>by rw [W,if_neg c1,if_neg c2,if_neg c3,if_neg e,if_pos (by omega)]
  have N0:evF v []=0:=rfl
  split
  · rename_i g
    rw [Bool.and_eq_true]at g
    rw [N g.1,N g.2]
    exact ev_const v (wdo_rng _ _ _)
  · rename_i g0
    rw [if_neg g0]at h
    by_cases e1:pOrd x y=0
    · have exy:=pOrd_zero.1 e1
      by_cases e2:op=4
      · rw [if_pos ⟨e1,e2⟩,W4 e2,←exy,and_self' rx.1 rx.2]
      · rw [if_neg (fun g=>e2 g.2),if_pos e1,W5 e2,←exy,xor_self'];exact N0
    · rw [if_neg (fun g=>e1 g.1),if_neg e1]at h ⊢
      by_cases px:(pNum x).2=true
      · rw [if_pos px]at h ⊢
        have ex:=N px
        by_cases d1:op=4∧(pNum x).1=0
        · rw [if_pos d1,W4 d1.1,ex,d1.2,and_comm',and_zero'];exact N0
        · rw [if_neg d1]at h ⊢
          by_cases d2:(op=4∧(pNum x).1=65535)∨(op=5∧(pNum x).1=0)
          · rw [if_pos d2]
            rcases d2 with⟨d2,d3⟩ | ⟨d2,d3⟩
            · rw [W4 d2,ex,d3,and_comm',and_mask];dsimp only;omega
            · rw [W5 (by omega),ex,d3,xor_comm',xor_zero' ry.1 ry.2]
          · rw [if_neg d2]at h;cases h
      · rw [if_neg px]at h ⊢
        by_cases py:(pNum y).2=true
        · rw [if_pos py]at h ⊢
          have ey:=N py
          by_cases d1:op=4∧(pNum y).1=0
          · rw [if_pos d1,W4 d1.1,ey,d1.2,and_zero'];exact N0
          · rw [if_neg d1]at h ⊢
            by_cases d2:(op=4∧(pNum y).1=65535)∨(op=5∧(pNum y).1=0)
            · rw [if_pos d2]
              rcases d2 with⟨d2,d3⟩ | ⟨d2,d3⟩
              · rw [W4 d2,ey,d3,and_mask];dsimp only;omega
              · rw [W5 (by omega),ey,d3,xor_zero' rx.1 rx.2]
            · rw [if_neg d2]at h;cases h
        · rw [if_neg py]at h;cases h
theorem evF_under {v w:List Int} {p:List Mono} {n:Nat} (hp:PolOK p) (hu:pUnder p n) (h:∀k:Int,0≤k→k<n→valF v k=valF w k):evF v p=evF w p:=by
  have e:∀l:List Mono,(∀m∈l,∀k∈m.atoms,0≤k∧k<n)→evS v l=evS w l:=by
    intro l
    induction l with
    | nil=>exact fun _=>rfl
    | cons m l ih=>
      intro g
      rw [evS_cons,evS_cons,ih fun x hx=>g x (List.mem_cons_of_mem _ hx)]
      have:∀a:List Int,(∀k∈a,0≤k∧k<n)→prA v a=prA w a:=by
        intro a
        induction a with
        | nil=>exact fun _=>rfl
        | cons k a ih2=>intro g2;rw [prA_cons,prA_cons,ih2 fun x hx=>g2 x (List.mem_cons_of_mem _ hx),h k (g2 k (List.mem_cons_self ..)).1 (g2 k (List.mem_cons_self ..)).2]
      rw [this m.atoms (g m (List.mem_cons_self ..))]
  rw [evF_eq,evF_eq,e p fun m hm k hk=>⟨((hp.aok hm).2.2 k hk).1,pUnder_iff.1 hu m hm k hk⟩]
theorem tv_append (regs loads ins:List Int):∀(b a:List Atom),∃c,tv regs loads ins (a++b)=tv regs loads ins a++c
  | [],a=>⟨[],by rw [List.append_nil,List.append_nil]⟩
  | x::b,a=>by
    obtain⟨c,hc⟩:=tv_append regs loads ins b (a++ [x])
    rw [List.append_assoc,List.singleton_append]at hc
    rw [hc,tv_snoc]
    exact⟨_,List.append_assoc _ _ _⟩
theorem valF_append {v c:List Int} {k:Int} (h0:0≤k) (h:k<v.length):valF (v++c) k=valF v k:=by
  unfold valF
  rw [if_pos (by rw [List.length_append];omega),if_pos h,getD_lt (show k.toNat< (v++c).length by rw [List.length_append];omega),getD_lt (show k.toNat<v.length by omega),List.getElem_append_left]
theorem tv_at {regs loads ins:List Int} {t:List Atom} (h:TabOK t) {k:Int} (h0:0≤k) (h1:k<t.length) (hk:(t.getD k.toNat default).kind=4):
    valF (tv regs loads ins t) k=wdo (t.getD k.toNat default).k (evF (tv regs loads ins t) (t.getD k.toNat default).x) (evF (tv regs loads ins t) (t.getD k.toNat default).y):=by
  have hd:=(h.1 k h0 h1).1
  unfold aDefd at hd
  rw [if_pos hk]at hd
  obtain⟨_,px,py,ux,uy⟩:=hd
  have hs:t=t.take k.toNat++((t).getD (k).toNat default)::t.drop (k.toNat+1):=by
    rw [getD_lt (show k.toNat<t.length by omega),←List.drop_eq_getElem_cons,List.take_append_drop]
  generalize ((t).getD (k).toNat default)=a at hk px py ux uy hs ⊢
  have hl:((t.take k.toNat).length:Int)=k:=by rw [List.length_take];omega
  generalize t.take k.toNat=t1 at hs hl
  generalize t.drop (k.toNat+1)=t2 at hs
  have hs':t=(t1++ [a])++t2:=by rw [hs,List.append_assoc,List.singleton_append]
  obtain⟨c,hc⟩:=tv_append regs loads ins t2 (t1++ [a])
  rw [←hs',tv_snoc]at hc
  have lv:=tv_len regs loads ins t1
  rw [hc]
  have e:∀j:Int,0≤j→j<t1.length→valF (tv regs loads ins t1++ [aVal regs loads ins (tv regs loads ins t1) a]++c) j=valF (tv regs loads ins t1) j:=fun j j0 j1=>by
    rw [List.append_assoc,valF_append j0 (by omega)]
  rw [evF_under px (n:=t1.length) (by rw [hl];exact ux) e,evF_under py (n:=t1.length) (by rw [hl];exact uy) e]
  rw [valF_append h0 (by rw [List.length_append,lv];simp only [List.length_cons,List.length_nil];omega)]
  unfold valF
  rw [if_pos (by rw [List.length_append,lv];simp only [List.length_cons,List.length_nil];omega),getD_lt (by rw [List.length_append,lv];simp only [List.length_cons,List.length_nil];omega),List.getElem_append_right (by omega)]
  simp only [lv,show k.toNat-t1.length=0 by omega,List.getElem_cons_zero]
  unfold aVal
  rw [if_neg (by omega),if_neg (by omega),if_neg (by omega)]
theorem ev_do {regs loads ins:List Int} (r1:wOK regs) (r2:wOK loads) (r3:wOK ins) {t:List Atom} {op:Int} {x y:List Mono} (ht:TabOK t) (hop:1≤op∧op≤5) (hx:PolOK x) (hy:PolOK y) (ux:pUnder x t.length) (uy:pUnder y t.length)
    (hne:(tDo t op x y).1≠ []):TabOK (tDo t op x y).1∧(∃c,(tDo t op x y).1=t++c∧c.length≤1)∧PolOK (tDo t op x y).2∧
      evF (tv regs loads ins (tDo t op x y).1) (tDo t op x y).2=wdo op (evF (tv regs loads ins (tDo t op x y).1) x) (evF (tv regs loads ins (tDo t op x y).1) y):=by
  have ok:=(tDo_twice ht hne).1
  by_cases c:(simpF op x y).2=true
  · have e:tDo t op x y=(t,(simpF op x y).1):=by unfold tDo;rw [if_pos c]
    rw [e]
    exact⟨ht,⟨[],by rw [List.append_nil],by simp⟩,simpF_ok hop hx hy,ev_simp _ hop hx hy c⟩
  have P:∀(x' y':List Mono),PolOK x'→PolOK y'→tDo t op x y=(if(tPut t ⟨4,op,x',y'⟩).2<0 then([],[])else((tPut t ⟨4,op,x',y'⟩).1,pAtom (tPut t ⟨4,op,x',y'⟩).2))→
      (∃c,(tDo t op x y).1=t++c∧c.length≤1)∧PolOK (tDo t op x y).2∧evF (tv regs loads ins (tDo t op x y).1) (tDo t op x y).2=wdo op (evF (tv regs loads ins (tDo t op x y).1) x') (evF (tv regs loads ins (tDo t op x y).1) y'):=by
    intro x' y' hx' hy' e
    rw [e]at hne ok ⊢
    by_cases c3:(tPut t ⟨4,op,x',y'⟩).2<0
    · rw [if_pos c3]at hne;exact absurd rfl hne
    rw [if_neg c3]at hne ok ⊢
    dsimp only at hne ok ⊢
    have K:∃k:Int,0≤k∧k< (tPut t ⟨4,op,x',y'⟩).1.length∧(tPut t ⟨4,op,x',y'⟩).2=k∧((tPut t ⟨4,op,x',y'⟩).1).getD k.toNat default=⟨4,op,x',y'⟩∧∃c,(tPut t ⟨4,op,x',y'⟩).1=t++c∧c.length≤1:=by
      by_cases d:0≤tFind t ⟨4,op,x',y'⟩
      · have e2:tPut t ⟨4,op,x',y'⟩=(t,tFind t ⟨4,op,x',y'⟩):=by unfold tPut;rw [if_pos d]
        rw [e2]
        rcases tFind_spec t ⟨4,op,x',y'⟩with⟨g,_⟩ | ⟨g1,g2,g3,_⟩
        · exact absurd d (by omega)
        · exact⟨_,g1,g2,rfl,g3.symm,[],by rw [List.append_nil],by simp⟩
      · by_cases d2:¬aDefd ⟨4,op,x',y'⟩ t.length∨t.length=200
        · have e2:tPut t ⟨4,op,x',y'⟩=(t, -1):=by unfold tPut;rw [if_neg d,if_pos d2]
          rw [e2]at c3;exact absurd (show(-1:Int)<0 by decide) c3
        · have e2:tPut t ⟨4,op,x',y'⟩=(t++ [⟨4,op,x',y'⟩],(t.length:Int)):=by unfold tPut;rw [if_neg d,if_neg d2]
          rw [e2]
          refine⟨t.length,by omega,by simp only [List.length_append,List.length_cons,List.length_nil];omega,rfl,?_,[⟨4,op,x',y'⟩],rfl,by simp⟩
          rw [getD_lt (show((t.length:Int)).toNat< (t++ [(⟨4,op,x',y'⟩:Atom)]).length by simp),List.getElem_append_right (by simp)]
          simp
    obtain⟨k,k1,k2,k3,k4,k5⟩:=K
    rw [k3]
    refine⟨k5,polOK_atom k,?_⟩
    have hl:=ok.2
    rw [ev_atom _ ⟨k1,by omega⟩ (tv_ok r1 r2 r3 _),tv_at ok k1 k2 (by rw [k4]),k4]
  by_cases c2:op≠2∧0<pOrd x y
  · obtain⟨h1,h2,h3⟩:=P y x hy hx (by unfold tDo;rw [if_neg c,if_pos c2])
    exact⟨ok,h1,h2,by rw [h3,wdo_comm c2.1]⟩
  · obtain⟨h1,h2,h3⟩:=P x y hx hy (by unfold tDo;rw [if_neg c,if_neg c2])
    exact⟨ok,h1,h2,h3⟩
end Go.TX.F
namespace Go.TX.F
open Go Go.AE Go.TX
theorem wOK_words (l:List Int):wOK (l.map fun z=>z%65536):=fun z hz=>by
  obtain⟨y,_,rfl⟩:=List.mem_map.1 hz;omega
theorem tPut_nil {t:List Atom} {a:Atom} (h:0<t.length):(tPut t a).1≠ []:=by
  have g:t≠ []:=fun e=>by rw [e]at h;cases h
  unfold tPut
  repeat' split
  all_goals first | exact g | exact fun e=>g (List.append_eq_nil_iff.1 e).1
theorem tabDo_nil2 {t:List Atom} {op:Int} {x y:List Mono} (h:0<t.length) (e:(tabDo t op x y).1=[]):(tabDo t op x y).2=[]:=by
  have g:t≠ []:=fun e=>by rw [e]at h;cases h
  revert e
  unfold tabDo tDo
  repeat' split
  all_goals first | exact fun _=>rfl | exact fun e=>absurd e g | exact fun e=>absurd e (tPut_nil h)
theorem tabDo_ne {t:List Atom} {op:Int} {x y:List Mono} (e:(tabDo t op x y).1≠ []):(TabOK t∧(1≤op∧op≤5)∧PolOK x∧PolOK y∧pUnder x t.length∧pUnder y t.length)∧tabDo t op x y=tDo t op x y:=by
  revert e
  unfold tabDo
  split
  · rename_i h;exact fun _=>⟨h,rfl⟩
  · exact fun e=>absurd rfl e
theorem w_k42 {pw:Int×Int×Int×Unit→Bool} {fw:Int×Int×Int×Unit→Int×Unit} (hpw:∀op a b,pw (op,a,b,())=true) (hfw:∀op a b,fw (op,a,b,())=(wdo op a b,()))
    {ps:List Atom×Int×List Mono×List Mono×Unit→Bool} {fs:List Atom×Int×List Mono×List Mono×Unit→List Atom×List Mono×Unit} (hps:∀t op x y,ShT t→Sh x→Sh y→ps (t,op,x,y,())=true) (hfs:∀t op x y,ShT t→Sh x→Sh y→fs (t,op,x,y,())=((tabDo t op x y).1,(tabDo t op x y).2,()))
    {p1:List Int×Unit→Bool} {f1:List Int×Unit→Int×List Mono×List Mono×List Atom×Unit} (hp1:∀c,By c→c.length<1000000000→p1 (c,())=true) (hf1:∀c,By c→c.length<1000000000→Sh (f1 (c,())).2.1∧Sh (f1 (c,())).2.2.1∧ShT (f1 (c,())).2.2.2.1∧0< (f1 (c,())).2.2.2.1.length)
    {p6:List Atom×Unit→Bool} {f6:List Atom×Unit→Bool×Unit} (hp6:∀a,ShT a→p6 (a,())=true) (hf6:∀a,ShT a→f6 (a,())=(bp (TabOK a),()))
    {p2:List Atom×Int×List Mono×List Mono×Unit→Bool} {f2:List Atom×Int×List Mono×List Mono×Unit→List Atom×List Mono×Unit} (hp2:∀t op x y,ShT t→Sh x→Sh y→p2 (t,op,x,y,())=true) (hf2:∀t op x y,ShT t→Sh x→Sh y→f2 (t,op,x,y,())=((tabDo t op x y).1,(tabDo t op x y).2,()))
    {p3:Unit→Bool} {f3:Unit→Bool×Unit} (hp3:p3 ()=true) (hf3:f3 ()=(true,()))
    {p7:List Int×List Int×Unit→Bool} {f7:List Int×List Int×Unit→Bool×Unit} (hp7:∀a b,a.length<1000000000→p7 (a,b,())=true) (hf7:∀a b,a.length<1000000000→f7 (a,b,())=(bp (a=b),()))
    {p4:List Mono×List Mono×Unit→Bool} {f4:List Mono×List Mono×Unit→Bool×Unit} (hp4:∀a b,Sh a→p4 (a,b,())=true) (hf4:∀a b,Sh a→f4 (a,b,())=(bp (a=b),()))
    {p5:List Atom×List Atom×Unit→Bool} {f5:List Atom×List Atom×Unit→Bool×Unit} (hp5:∀a b,ShT a→p5 (a,b,())=true) (hf5:∀a b,ShT a→f5 (a,b,())=(bp (a=b),()))
    {p8:List Int×Unit→Bool} {f8:List Int×Unit→List Atom×List Int×List Int×List Int×Unit} (hp8:∀c,By c→c.length<1000000000→p8 (c,())=true) (hf8:∀c,By c→c.length<1000000000→ShT (f8 (c,())).1∧(f8 (c,())).2.1.length≤1000∧(f8 (c,())).2.2.1.length≤1000∧(f8 (c,())).2.2.2.1.length≤1000∧wOK (f8 (c,())).2.2.1∧wOK (f8 (c,())).2.2.2.1)
    {p9:List Atom×List Int×List Int×List Int×Unit→Bool} {f9:List Atom×List Int×List Int×List Int×Unit→List Int×Unit} (hp9:∀t r l i,ShT t→r.length<1000000000→l.length<1000000000→i.length<1000000000→p9 (t,r,l,i,())=true) (hf9:∀t r l i,ShT t→r.length<1000000000→l.length<1000000000→i.length<1000000000→f9 (t,r,l,i,())=(tabVals t r l i,()))
    {pl:List Int×Unit→Bool} {fl:List Int×Unit→List Int×Unit} (hpl:∀a,a.length<1000000000→pl (a,())=true) (hfl:∀a,a.length<1000000000→fl (a,())=(a.map (fun z=>z%65536),()))
    {pe:List Mono×List Int×Unit→Bool} {fe:List Mono×List Int×Unit→Int×Unit} (hpe:∀a v,Sh a→v.length<1000000000→pe (a,v,())=true) (hfe:∀a v,Sh a→v.length<1000000000→fe (a,v,())=(if bp (PolOK a∧wOK v)then evF v a else 0,()))
    (c d:List Int) (hc:By c) (hd:By d):F_k42 (std 0) pw fw ps fs p1 f1 p6 f6 p2 f2 p3 f3 p7 f7 p4 f4 p5 f5 p8 f8 p9 f9 pl fl pe fe (c,d,()) (fun y=>y=(true,())):=by
  dsimp only [F_k42]
  simp (disch:=omega) only [RR]
  by_cases hl:1048576< (c.length:Int)∨1048576< (d.length:Int)
  · exact fun h=>absurd hl (by omega)
  obtain⟨s1,s2,s3,s4⟩:=hf1 c hc (by omega)
  have P1:=hp1 c hc (by omega)
  obtain⟨e1,e2,e3,e4,e5,e6⟩:=hf8 d hd (by omega)
  have P8:=hp8 d hd (by omega)
  generalize (f1 (c,())).2.1=x at s1 ⊢
  generalize (f1 (c,())).2.2.1=y at s2 ⊢
  generalize (f1 (c,())).2.2.2.1=t at s3 s4 ⊢
  generalize (f1 (c,())).1=op
  generalize (f8 (d,())).2.1=regs at e2 ⊢
  generalize (f8 (d,())).2.2.1=loads at e3 e5 ⊢
  generalize (f8 (d,())).2.2.2.1=ins at e4 e6 ⊢
  obtain⟨r1,r2⟩:=tabDo_sh (op:=op) s3 s1 s2
  have L1:=hpl regs (by omega)
  have L2:=hfl regs (by omega)
  have hrl:(regs.map fun z=>z%65536).length<1000000000:=by rw [List.length_map];omega
  have hrw:=wOK_words regs
  generalize hrg:(regs.map fun z=>z%65536)=rg at hrl hrw L2
  have vl:∀t,ShT t→(tabVals t rg loads ins).length<1000000000:=fun t ht=>by
    unfold tabVals;split
    · rw [tv_len];exact ht.1
    · simp
  have V:∀t,ShT t→p9 (t,rg,loads,ins,())=true∧f9 (t,rg,loads,ins,())=(tabVals t rg loads ins,()):=fun t ht=>⟨hp9 t rg loads ins ht hrl (by omega) (by omega),hf9 t rg loads ins ht hrl (by omega) (by omega)⟩
  have Pe:=fun a (ha:Sh a)=>hpe a _ ha (vl _ r1)
  have Fe:=fun a (ha:Sh a)=>hfe a _ ha (vl _ r1)
  simp (disch:=omega) only [RR,hl,P1,P8,hp2 t op x y s3 s1 s2,hf2 t op x y s3 s1 s2,hps t op x y s3 s1 s2,hfs t op x y s3 s1 s2,hp3,hf3,hp5 _ _ r1,hf5 _ _ r1,hp4 _ _ r2,hf4 _ _ r2,hp6 _ r1,hf6 _ r1,L1,L2,(V t s3).1,(V t s3).2,(V _ r1).1,(V _ r1).2,Pe x s1,Fe x s1,Pe y s2,Fe y s2,Pe _ r2,Fe _ r2,hpw,hfw,bp_eq,bp_ne]
  refine fun _=>⟨fun h=> ?_,fun h=> ?_⟩
  · rw [tabDo_nil2 s4 (List.eq_nil_of_length_eq_zero (by omega))];rfl
  have hne:(tabDo t op x y).1≠ []:=fun e=>h (by rw [e];rfl)
  obtain⟨cd,e⟩:=tabDo_ne hne
  obtain⟨ht,hop,hx,hy,ux,uy⟩:=cd
  rw [e]at hne r1 r2 ⊢
  obtain⟨o1,⟨cc,o2,o3⟩,o4,o5⟩:=ev_do hrw e5 e6 ht hop hx hy ux uy hne
  have TV:∀t,TabOK t→tabVals t rg loads ins=tv rg loads ins t:=fun t h=>by unfold tabVals;rw [bp_t ⟨h,hrw,e5,e6⟩,if_pos rfl]
  rw [TV _ ht,TV _ o1]
  generalize (tDo t op x y).1=u at*
  generalize (tDo t op x y).2=q at*
  obtain⟨c2,h2⟩:=tv_append rg loads ins cc t
  rw [←o2]at h2
  have n1:=tv_len rg loads ins t
  have n2:=tv_len rg loads ins u
  have n3:u.length≤t.length+1:=by rw [o2,List.length_append];omega
  have n4:t.length≤u.length:=by rw [o2,List.length_append];omega
  have sht:=s3.1
  have K:List.drop (Int.toNat 0) (List.take (0+(((tv rg loads ins t).length:Int)-0)).toNat (tv rg loads ins u))=tv rg loads ins t:=by
    rw [show(0+(((tv rg loads ins t).length:Int)-0)).toNat=(tv rg loads ins t).length by omega,h2,List.take_left];rfl
  rw [K,hp7 _ _ (by omega),hf7 _ _ (by omega),bp_t rfl]
  have W:IntKind.i64.wrap ((t.length:Int)+1)=t.length+1:=w64 (by omega) (by omega)
  rw [W]
  have G:∀ {a:List Mono},PolOK a→(if bp (PolOK a∧wOK (tv rg loads ins u))=true then evF (tv rg loads ins u) a else 0)=evF (tv rg loads ins u) a:=fun ha=>by rw [bp_t ⟨ha,tv_ok hrw e5 e6 u⟩,if_pos rfl]
  rw [G o4,G hx,G hy,←o5]
  refine⟨.inr (by omega),.inr (by omega),.inr (by omega),.inr (by omega),.inr (by omega),.inr (by omega),.inr rfl,fun g=> ?_,fun _=>by simp⟩
  exfalso
  rcases g with((g | g) | g) | g
  · exact g o1
  · omega
  · cases g
  · omega
end Go.TX.F
namespace Go.TX
open Go Go.AE
theorem enters_of {P:Program} {f:FuncId} {fn:Func} {c:Code} (hf:P.funcs[f]? =some fn) (hname:(fn.name== "runtime.NumGoroutine")=false) (hb:fn.body=some c):Enters P f:=by
  intro args w
  have h1:fn.name≠ "runtime.NumGoroutine" :=by simpa using hname
  simp [callFunc,hf,h1,hb,mark]
noncomputable def never (s:Sig):Ct stdCar s:={pre:=fun _=>false,fn:=fun _=>Classical.choice (@tup_default ⟨[]⟩ _)}
theorem never_ok {E:Tab} {f:FuncId} {s:Sig} (h:Enters E.P f):TransOK E f (ctTrans (never s)) where
  enters:=h
  calls:=by
    rintro args hh n K ⟨m,vs,h2,h3,h4,h5,cr,h6,h7,h8⟩
    exfalso
    unfold callCt at h6
    split at h6
    · split at h6
      · split at h6
        · split at h6
          · cases h6
            have:=h7 false (List.mem_append_right _ (List.mem_singleton.2 rfl))
            cases this
          · cases h6
        · cases h6
      · cases h6
    · cases h6
abbrev sig2:Sig:={args:=[.c (.rows true .u8),.c (.rows true .u8)],objs:=[],res:=[.c .bool],objs':=[]}
def entry (W:World):Ctx:={K:=fun _ b=>b<W.heap.size,μ:=fun _=>none,n:=0}
theorem entry_relH (W:World):RelH (entry W) W []:=
  ⟨fun l o h=>(by cases h),fun l o l' o' b h=>(by cases h),fun f b ⟨l,o,h,_⟩=>(by cases h),fun f b h=>h,fun b h=>h⟩
theorem entry_below {W W':World} {c':Ctx} {h':Heap} (g:Grow (entry W) W [] c' W' h'):RowKit.Below W.heap.size W W':=
  ⟨g.os,g.tape,g.output,g.size,fun k hk=>g.kept k hk fun⟨l,o,h,_⟩=>by cases h⟩
theorem bool_of {c:Ctx} {w:World} {v:Value} {r:PV} {N:NM} {b:Bool} (h1:RelV c w v r) (h2:PVR N r (.c (.d true (.bool b)))):v= .bool b:=by
  cases h2 with
  | one h=>
    cases h with
    | c h=>
      cases h with
      | d h3 _=>
        subst h3
        cases h1 with
        | c _ _ h4=>cases h4 with
          | d _ _ _ h5=>cases h5;rfl
    | agg h=>cases h
theorem law2 {E:Tab} {f:FuncId} {c:Ct stdCar sig2} (hc:TransOK E f (ctTrans c)) {xs ys:List Int} {W:World} {v u:Value} (hv:RelD (fun b=>b<W.heap.size) W v (.rows 1 (rowsD .u8 xs))) (hu:RelD (fun b=>b<W.heap.size) W u (.rows 1 (rowsD .u8 ys)))
    (hg:GlobOK E (entry W) W) (hp:c.pre (xs,ys,())=true):Go.Calls E.P f #[v,u] W fun e W'=>e= .returned (.bool (c.fn (xs,ys,())).1)∧RowKit.Below W.heap.size W W':=by
  refine(hc.calls [.c (.d true (.rows 1 (rowsD .u8 xs))),.c (.d true (.rows 1 (rowsD .u8 ys)))] [] 0 (fun r _ _=>PVR (nmh []) r (.c (.d true (.bool (c.fn (xs,ys,())).1)))) ?_ (entry W) W [v,u] rfl
    (.cons (.c _ _ (.d true _ _ hv)) (.cons (.c _ _ (.d true _ _ hu)) .nil)) (entry_relH W) hg).mono ?_
  · refine⟨0,[.c (.d true (.rows .u8 xs)),.c (.d true (.rows .u8 ys))],[],.cons (.one (.c (.d rfl fun _=> .inl rfl))) (.cons (.one (.c (.d rfl fun _=> .inl rfl))) .nil),⟨fun l o h=>(by cases h),fun _ _=>rfl⟩,rfl,_,rfl,?_,_,_,rfl,?_⟩
    · intro b hb
      rcases List.mem_append.1 hb with h | h
      · cases h
      · rw [List.mem_singleton]at h;rw [h];exact hp
    · intro r _ _ h _ _ _;exact h
  · rintro e W' he
    cases e with
    | returned u=>
      obtain⟨c',r,h',j,g,_,_,h1,h2⟩:=he
      exact⟨by rw [bool_of h1 h2],entry_below g⟩
    | outgrown=>exact he.elim
    | panicked _=>exact he.elim
open Go.RowKit Go.ChangeShapes Go.WideShapes Go.ChangeAt in
theorem open_law {H:Type} {enc:TypeId×Value→H} {P:Program} {t e:TypeId} (ht:P.underlying t=some (.slice e)) (he:P.underlying e=some (.int .u8)) (hc:P.cellsOf e=1) {W:World} {base:Nat} {v:Value} {d:DataW H} {p:List MemPlace}
    (hval:Value.okWide P W .any base t v) (h:DataW.Trod enc P W 0 (fun _=>true) true t v d p) (hlt:∀x∈p,x.block<W.heap.size):
    ∃xs:List Int,RelD (fun b=>b<W.heap.size) W v (.rows 1 (rowsD .u8 xs))∧∀z∈xs,0≤z∧z≤255:=by
  obtain⟨a0,len,cap,rfl⟩:=okWide_slice ht hval
  obtain⟨fuel,hf⟩:=h
  rcases open_ints ht he hc hf with⟨hcs,hx⟩ | ⟨a,len',cap',zs,hcs,_,hl,hm,hz,hx,hcell,hwz⟩
  · simp [Value.cells]at hcs
    obtain⟨rfl,rfl,rfl⟩:=hcs
    exact⟨[],.none _ _ _,fun _ h=>by cases h⟩
  · simp [Value.cells]at hcs
    obtain⟨rfl,rfl,rfl⟩:=hcs
    simp only [Prod.mk.injEq]at hx
    obtain⟨rfl,rfl⟩:=hx
    simp only [if_true]at hz
    have rng:∀z∈zs,0≤z∧z≤255:=fun z hz=>by
      obtain⟨i,hi,rfl⟩:=List.getElem_of_mem hz
      have:=range_u8 hwz i
      rwa [List.getElem?_eq_getElem hi]at this
    refine⟨zs.take len,?_,fun z h=>rng z (List.mem_of_mem_take h)⟩
    by_cases h0:len=0
    · subst h0;exact .none _ _ _
    · obtain⟨b,off,spot⟩:=a
      have hspot:spot=none:=by simpa [Addr.add]using World.cell?_spot (hcell 0 (by omega))
      subst hspot
      have hbW:b<W.heap.size:=hlt (.cell b off) (MemPlace.mem_row.2 ⟨0,by omega,by simp⟩)
      have hlen:(rowsD .u8 (zs.take len)).length=len:=by simp only [rowsD,List.length_map,List.length_take];omega
      have hget:∀i,i<len→(rowsD .u8 (zs.take len)).getD i []=[.int .u8 (zs.getD i 0)]:=fun i hi=>by
        simp only [rowsD,List.getD,List.getElem?_map,List.getElem?_take_of_lt hi,List.getElem?_eq_getElem (show i<zs.length by omega)]
        rfl
      refine .rows b off cap 1 len _ (fun i j=> .int .u8 (zs.getD i 0)) hbW hlen.symm hl (fun i j hi hj=> ?_) (fun i hi=> ?_) (fun i j hi hj=> ?_)
      · rw [hlen]at hi
        have:=hcell i (by omega)
        rw [add_plain]at this
        rw [show off+i*1+j=off+i by omega]
        exact this
      · rw [hlen]at hi;rw [hget i hi];rfl
      · rw [hlen]at hi
        have hj0:j=0:=by omega
        subst hj0
        unfold gd;rw [hget i hi];exact .int _ _
end Go.TX
namespace Go.TX.Seat
open Go Go.AE Go.TX Go.TX.F Go.Proofs
set_option maxRecDepth 100000
theorem hE:TabOK E:=⟨tyOK,fun t n h=>by cases h⟩
theorem hX:XOK X E:=⟨rfl,fun g c h=>(by cases h),fun t c h=>(by cases h)⟩
theorem hm:E.P.follows .mixedOrders=true:=by kernel_rfl
theorem hlN:∀p∈([]:List (FuncId×Sigma (Ct stdCar))),TransOK E p.1 (ctTrans p.2.2):=fun _ h=>by cases h
theorem hlC {f:FuncId} {s:Sig} {c:Ct stdCar s} {l:List (FuncId×Sigma (Ct stdCar))} (h:TransOK E f (ctTrans c)) (r:∀p∈l,TransOK E p.1 (ctTrans p.2.2)):∀p∈(f,⟨s,c⟩)::l,TransOK E p.1 (ctTrans p.2.2):=fun p hp=>by
  rcases List.mem_cons.1 hp with rfl | hp
  · exact h
  · exact r p hp
theorem give_u64 {E:Tab} {f:FuncId} {c:Ct stdCar {args:=[.c (.int .u64)],objs:=[],res:=[.c (.int .i64)],objs':=[]}} {g:Int→Int} (hent:Enters E.P f) (hg:(fun x:Int=>(c.fn (x,())).1)=g)
    (h:∀(x:Int) (w:World),c.pre (x,())=true→Go.Calls E.P f #[.int .u64 x] w fun e w'=>e= .returned (.int .i64 (g x))∧w'=w):TransOK E f (ctTrans c) where
  enters:=hent
  calls:=by
    rintro args hh n K ⟨m,qs,hs,hargs,HR,hlen,cr,hcall,hcks,v,kT,hvk,hK⟩ c1 w vs hcn hvals Hh Gl
    have key:∀f0 (x:Int),qs=[.c (.d f0 (.int .u64 x))]→callCt (std m) hs {args:=[.c (.int .u64)],objs:=[],res:=[.c (.int .i64)],objs':=[]} c qs=some {ck:=[c.pre (x,())],ts:=[.i],y:=c.fn (x,()),touched:=[],pure:=true,k:=fun y=>some (.c (.d true (.int .i64 y.1)),hs)}:=by
      intro f0 x e;subst e;rfl
    have hq:∃f0 x,qs=[.c (.d f0 (.int .u64 x))]:=by
      unfold callCt at hcall
      cases qs with
      | nil=>simp [extVs]at hcall
      | cons q r=>
        cases r with
        | cons q2 r2=>
          exfalso
          simp only [extVs]at hcall
          cases hx:extV (std m) hs (.c (.int .u64)) q (es0 (std m) 0 [])with
          | none=>rw [hx]at hcall;simp at hcall
          | some s=>rw [hx]at hcall;simp [extVs]at hcall
        | nil=>
          simp only [extVs]at hcall
          cases q with
          | c y=>
            simp only [extV,extC]at hcall
            cases y with
            | d f0 y=>
              cases y with
              | int k x=>
                by_cases hk:IntKind.u64=k
                · subst hk;exact⟨f0,x,rfl⟩
                · simp [hk]at hcall
              | _=>simp at hcall
            | _=>simp at hcall
          | _=>simp [extV]at hcall
    obtain⟨f0,x,rfl⟩:=hq
    rw [key f0 x rfl]at hcall
    simp only [Option.some.injEq]at hcall
    subst hcall
    simp only [Option.some.injEq,Prod.mk.injEq]at hvk
    obtain⟨rfl,rfl⟩:=hvk
    have hpre:=hcks _ (List.mem_singleton.2 rfl)
    have hv:vs=[.int .u64 x]:=by
      cases hargs with
      | cons h1 h2=>
        cases h2
        cases hvals with
        | cons h3 h4=>
          cases h4
          cases h1 with
          | one h1=>
            cases h1 with
            | c h1=>
              cases h1 with
              | d h5 _=>
                subst h5
                cases h3 with
                | c _ _ h6=>cases h6 with
                  | d _ _ _ h7=>cases h7;rfl
            | agg h1=>cases h1
    subst hv
    refine(h x w hpre).mono ?_
    rintro e w' ⟨rfl,rfl⟩
    refine⟨c1,.c (.d true (.int .i64 (g x))),hh,0,.refl _ _ _,Hh,hcn,.c _ _ (.d _ _ _ (.int _ _)),hK _ _ _ ?_ HR (.refl _ _ _) hlen⟩
    rw [←hg]
    exact .one (.c (.d rfl fun _=> .inl rfl))
end Go.TX.Seat
namespace Go.TX.F
open Go Go.AE Go.TX Go.TX.Seat Go.Proofs
set_option maxRecDepth 100000
def P_k99:TupS s_k99.inp→Prop:=fun x=>(fun(b:List Int)=>(By b)∧(b.length<1000000000)∧True) x.1
def Q_k99:TupS s_k99.inp→TupS s_k99.out→Prop:=fun x y=>(fun(b:List Int) (y:TupS s_k99.out)=>Bt y.1∧y.2.1=0) x.1 y
noncomputable def c_k99:Ct stdCar s_k99:= @mkCt lk_k99 _ (F_k99 (std 0)) P_k99 Q_k99
theorem ok_k99:Sp c_k99 P_k99 Q_k99∧TransOK E 22 (ctTrans c_k99):=by
  refine @contract lk_k99 X E hE hX hm _ hlN ord_k99 22 _ _ Tryz.func22 (by kernel_rfl) (enters_of Tryz.func22 (by kernel_rfl) rfl) _ an_k99 _ (fun x=>run_k99 (std 0) x) P_k99 Q_k99 ?_
  rintro⟨b,⟨⟩⟩ ⟨q0,q1,_⟩
  apply w_k99
  all_goals (assumption)
def P_k101:TupS s_k101.inp→Prop:=fun x=>(fun(n:Int) (b:List Int) (p:Int)=>(Bt b)∧(0≤p)∧(p<1000000000)∧True) x.1 x.2.1 x.2.2.1
def Q_k101:TupS s_k101.inp→TupS s_k101.out→Prop:=fun x y=>(fun(n:Int) (b:List Int) (p:Int) (y:TupS s_k101.out)=>Pk n b p y) x.1 x.2.1 x.2.2.1 y
noncomputable def c_k101:Ct stdCar s_k101:= @mkCt lk_k101 _ (F_k101 (std 0)) P_k101 Q_k101
theorem ok_k101:Sp c_k101 P_k101 Q_k101∧TransOK E 24 (ctTrans c_k101):=by
  refine @contract lk_k101 X E hE hX hm _ hlN ord_k101 24 _ _ Tryz.func24 (by kernel_rfl) (enters_of Tryz.func24 (by kernel_rfl) rfl) _ an_k101 _ (fun x=>run_k101 (std 0) x) P_k101 Q_k101 ?_
  rintro⟨n,b,p,⟨⟩⟩ ⟨q0,q1,q2,_⟩
  apply w_k101
  all_goals (assumption)
def P_k100:TupS s_k100.inp→Prop:=fun x=>(fun(n:Int) (b:List Int) (p:Int)=>(Bt b)∧(0≤p)∧(p<1000000000)∧True) x.1 x.2.1 x.2.2.1
def Q_k100:TupS s_k100.inp→TupS s_k100.out→Prop:=fun x y=>(fun(n:Int) (b:List Int) (p:Int) (y:TupS s_k100.out)=>y.2.1=b∧y.2.2.1=p+1) x.1 x.2.1 x.2.2.1 y
noncomputable def c_k100:Ct stdCar s_k100:= @mkCt lk_k100 _ (F_k100 (std 0) (c_k101).pre (c_k101).fn) P_k100 Q_k100
theorem ok_k100:Sp c_k100 P_k100 Q_k100∧TransOK E 25 (ctTrans c_k100):=by
  refine @contract lk_k100 X E hE hX hm _ (hlC ok_k101.2 hlN) ord_k100 25 _ _ Tryz.func25 (by kernel_rfl) (enters_of Tryz.func25 (by kernel_rfl) rfl) _ an_k100 _ (fun x=>run_k100 (std 0) c_k101 x) P_k100 Q_k100 ?_
  rintro⟨n,b,p,⟨⟩⟩ ⟨q0,q1,q2,_⟩
  apply w_k100
  all_goals (first | assumption | exact fun n b p q0 q1 q2=>(ok_k101.1 (n,b,p,()) ⟨q0,⟨q1,⟨q2,trivial⟩⟩⟩).1 | exact fun n b p q0 q1 q2=>(ok_k101.1 (n,b,p,()) ⟨q0,⟨q1,⟨q2,trivial⟩⟩⟩).2)
def P_k98:TupS s_k98.inp→Prop:=fun x=>(fun(a:Int) (b:Int) (c:Int)=>True) x.1 x.2.1 x.2.2.1
def Q_k98:TupS s_k98.inp→TupS s_k98.out→Prop:=fun x y=>(fun(a:Int) (b:Int) (c:Int) (y:TupS s_k98.out)=>y=(inB a b c,())) x.1 x.2.1 x.2.2.1 y
noncomputable def c_k98:Ct stdCar s_k98:= @mkCt lk_k98 _ (F_k98 (std 0)) P_k98 Q_k98
theorem ok_k98:Sp c_k98 P_k98 Q_k98∧TransOK E 42 (ctTrans c_k98):=by
  refine @contract lk_k98 X E hE hX hm _ hlN ord_k98 42 _ _ Tryz.func42 (by kernel_rfl) (enters_of Tryz.func42 (by kernel_rfl) rfl) _ an_k98 _ (fun x=>run_k98 (std 0) x) P_k98 Q_k98 ?_
  rintro⟨a,b,c,⟨⟩⟩ _
  apply w_k98
def P_k83:TupS s_k83.inp→Prop:=fun x=>(fun(a:Int)=>True) x.1
def Q_k83:TupS s_k83.inp→TupS s_k83.out→Prop:=fun x y=>(fun(a:Int) (y:TupS s_k83.out)=>y=(pAtom a,())) x.1 y
noncomputable def c_k83:Ct stdCar s_k83:= @mkCt lk_k83 _ (F_k83 (std 0) (c_k98).pre (c_k98).fn) P_k83 Q_k83
theorem ok_k83:Sp c_k83 P_k83 Q_k83∧TransOK E 29 (ctTrans c_k83):=by
  refine @contract lk_k83 X E hE hX hm _ (hlC ok_k98.2 hlN) ord_k83 29 _ _ Tryz.func29 (by kernel_rfl) (enters_of Tryz.func29 (by kernel_rfl) rfl) _ an_k83 _ (fun x=>run_k83 (std 0) c_k98 x) P_k83 Q_k83 ?_
  rintro⟨a,⟨⟩⟩ _
  apply w_k83
  all_goals (first | assumption | exact fun a b c=>(ok_k98.1 (a,b,c,()) trivial).1 | exact fun a b c=>(ok_k98.1 (a,b,c,()) trivial).2)
def P_k111:TupS s_k111.inp→Prop:=fun x=>(fun(m:Mono)=>(m.atoms.length<1000000000)∧True) x.1
def Q_k111:TupS s_k111.inp→TupS s_k111.out→Prop:=fun x y=>(fun(m:Mono) (y:TupS s_k111.out)=>y=(bp ((1≤m.coef∧m.coef≤65535)∧m.atoms.length≤4∧aok m.atoms),())) x.1 y
noncomputable def c_k111:Ct stdCar s_k111:= @mkCt lk_k111 _ (F_k111 (std 0) (c_k98).pre (c_k98).fn) P_k111 Q_k111
theorem ok_k111:Sp c_k111 P_k111 Q_k111∧TransOK E 98 (ctTrans c_k111):=by
  refine @contract lk_k111 X E hE hX hm _ (hlC ok_k98.2 hlN) ord_k111 98 _ _ Tryz.func98 (by kernel_rfl) (enters_of Tryz.func98 (by kernel_rfl) rfl) _ an_k111 _ (fun x=>run_k111 (std 0) c_k98 x) P_k111 Q_k111 ?_
  rintro⟨m,⟨⟩⟩ ⟨q0,_⟩
  apply w_k111
  all_goals (first | assumption | exact fun a b c=>(ok_k98.1 (a,b,c,()) trivial).1 | exact fun a b c=>(ok_k98.1 (a,b,c,()) trivial).2)
def P_k112:TupS s_k112.inp→Prop:=fun x=>(fun(a:List Int) (b:List Int)=>(a.length<1000000000)∧True) x.1 x.2.1
def Q_k112:TupS s_k112.inp→TupS s_k112.out→Prop:=fun x y=>(fun(a:List Int) (b:List Int) (y:TupS s_k112.out)=>y=(aOrd a b,())) x.1 x.2.1 y
noncomputable def c_k112:Ct stdCar s_k112:= @mkCt lk_k112 _ (F_k112 (std 0)) P_k112 Q_k112
theorem ok_k112:Sp c_k112 P_k112 Q_k112∧TransOK E 99 (ctTrans c_k112):=by
  refine @contract lk_k112 X E hE hX hm _ hlN ord_k112 99 _ _ Tryz.func99 (by kernel_rfl) (enters_of Tryz.func99 (by kernel_rfl) rfl) _ an_k112 _ (fun x=>run_k112 (std 0) x) P_k112 Q_k112 ?_
  rintro⟨a,b,⟨⟩⟩ ⟨q0,_⟩
  apply w_k112
  all_goals (assumption)
def P_k87:TupS s_k87.inp→Prop:=fun x=>(fun(a:List Mono)=>(Sh a)∧True) x.1
def Q_k87:TupS s_k87.inp→TupS s_k87.out→Prop:=fun x y=>(fun(a:List Mono) (y:TupS s_k87.out)=>y=(bp (PolOK a),())) x.1 y
noncomputable def c_k87:Ct stdCar s_k87:= @mkCt lk_k87 _ (F_k87 (std 0) (c_k111).pre (c_k111).fn (c_k112).pre (c_k112).fn) P_k87 Q_k87
theorem ok_k87:Sp c_k87 P_k87 Q_k87∧TransOK E 68 (ctTrans c_k87):=by
  refine @contract lk_k87 X E hE hX hm _ (hlC ok_k111.2 (hlC ok_k112.2 hlN)) ord_k87 68 _ _ Tryz.func68 (by kernel_rfl) (enters_of Tryz.func68 (by kernel_rfl) rfl) _ an_k87 _ (fun x=>run_k87 (std 0) c_k111 c_k112 x) P_k87 Q_k87 ?_
  rintro⟨a,⟨⟩⟩ ⟨q0,_⟩
  apply w_k87
  all_goals (first | assumption | exact fun m q0=>(ok_k111.1 (m,()) ⟨q0,trivial⟩).1 | exact fun m q0=>(ok_k111.1 (m,()) ⟨q0,trivial⟩).2 | exact fun a b q0=>(ok_k112.1 (a,b,()) ⟨q0,trivial⟩).1 | exact fun a b q0=>(ok_k112.1 (a,b,()) ⟨q0,trivial⟩).2)
def P_k90:TupS s_k90.inp→Prop:=fun x=>(fun(a:List Mono) (n:Int)=>(Sh a)∧True) x.1 x.2.1
def Q_k90:TupS s_k90.inp→TupS s_k90.out→Prop:=fun x y=>(fun(a:List Mono) (n:Int) (y:TupS s_k90.out)=>y=(bp (pUnder a n),())) x.1 x.2.1 y
noncomputable def c_k90:Ct stdCar s_k90:= @mkCt lk_k90 _ (F_k90 (std 0)) P_k90 Q_k90
theorem ok_k90:Sp c_k90 P_k90 Q_k90∧TransOK E 69 (ctTrans c_k90):=by
  refine @contract lk_k90 X E hE hX hm _ hlN ord_k90 69 _ _ Tryz.func69 (by kernel_rfl) (enters_of Tryz.func69 (by kernel_rfl) rfl) _ an_k90 _ (fun x=>run_k90 (std 0) x) P_k90 Q_k90 ?_
  rintro⟨a,n,⟨⟩⟩ ⟨q0,_⟩
  apply w_k90
  all_goals (assumption)
def P_k115:TupS s_k115.inp→Prop:=fun x=>(fun(a:Atom)=>True) x.1
def Q_k115:TupS s_k115.inp→TupS s_k115.out→Prop:=fun x y=>(fun(a:Atom) (y:TupS s_k115.out)=>y=(bp (a.x=[]∧a.y=[]),())) x.1 y
noncomputable def c_k115:Ct stdCar s_k115:= @mkCt lk_k115 _ (F_k115 (std 0)) P_k115 Q_k115
theorem ok_k115:Sp c_k115 P_k115 Q_k115∧TransOK E 97 (ctTrans c_k115):=by
  refine @contract lk_k115 X E hE hX hm _ hlN ord_k115 97 _ _ Tryz.func97 (by kernel_rfl) (enters_of Tryz.func97 (by kernel_rfl) rfl) _ an_k115 _ (fun x=>run_k115 (std 0) x) P_k115 Q_k115 ?_
  rintro⟨a,⟨⟩⟩ _
  apply w_k115
def P_k114:TupS s_k114.inp→Prop:=fun x=>(fun(a:Atom) (n:Int)=>(ShA a)∧True) x.1 x.2.1
def Q_k114:TupS s_k114.inp→TupS s_k114.out→Prop:=fun x y=>(fun(a:Atom) (n:Int) (y:TupS s_k114.out)=>y=(bp (aDefd a n),())) x.1 x.2.1 y
noncomputable def c_k114:Ct stdCar s_k114:= @mkCt lk_k114 _ (F_k114 (std 0) (c_k98).pre (c_k98).fn (c_k87).pre (c_k87).fn (c_k90).pre (c_k90).fn (c_k115).pre (c_k115).fn) P_k114 Q_k114
theorem ok_k114:Sp c_k114 P_k114 Q_k114∧TransOK E 66 (ctTrans c_k114):=by
  refine @contract lk_k114 X E hE hX hm _ (hlC ok_k98.2 (hlC ok_k87.2 (hlC ok_k90.2 (hlC ok_k115.2 hlN)))) ord_k114 66 _ _ Tryz.func66 (by kernel_rfl) (enters_of Tryz.func66 (by kernel_rfl) rfl) _ an_k114 _ (fun x=>run_k114 (std 0) c_k98 c_k87 c_k90 c_k115 x) P_k114 Q_k114 ?_
  rintro⟨a,n,⟨⟩⟩ ⟨q0,_⟩
  apply w_k114
  all_goals (first | assumption | exact fun a b c=>(ok_k98.1 (a,b,c,()) trivial).1 | exact fun a b c=>(ok_k98.1 (a,b,c,()) trivial).2 | exact fun a q0=>(ok_k87.1 (a,()) ⟨q0,trivial⟩).1 | exact fun a q0=>(ok_k87.1 (a,()) ⟨q0,trivial⟩).2 | exact fun a n q0=>(ok_k90.1 (a,n,()) ⟨q0,trivial⟩).1 | exact fun a n q0=>(ok_k90.1 (a,n,()) ⟨q0,trivial⟩).2 | exact fun a=>(ok_k115.1 (a,()) trivial).1 | exact fun a=>(ok_k115.1 (a,()) trivial).2)
def P_k88:TupS s_k88.inp→Prop:=fun x=>(fun(a:List Mono) (b:List Mono)=>(Sh a)∧True) x.1 x.2.1
def Q_k88:TupS s_k88.inp→TupS s_k88.out→Prop:=fun x y=>(fun(a:List Mono) (b:List Mono) (y:TupS s_k88.out)=>y=(pOrd a b,())) x.1 x.2.1 y
noncomputable def c_k88:Ct stdCar s_k88:= @mkCt lk_k88 _ (F_k88 (std 0) (c_k112).pre (c_k112).fn) P_k88 Q_k88
theorem ok_k88:Sp c_k88 P_k88 Q_k88∧TransOK E 72 (ctTrans c_k88):=by
  refine @contract lk_k88 X E hE hX hm _ (hlC ok_k112.2 hlN) ord_k88 72 _ _ Tryz.func72 (by kernel_rfl) (enters_of Tryz.func72 (by kernel_rfl) rfl) _ an_k88 _ (fun x=>run_k88 (std 0) c_k112 x) P_k88 Q_k88 ?_
  rintro⟨a,b,⟨⟩⟩ ⟨q0,_⟩
  apply w_k88
  all_goals (first | assumption | exact fun a b q0=>(ok_k112.1 (a,b,()) ⟨q0,trivial⟩).1 | exact fun a b q0=>(ok_k112.1 (a,b,()) ⟨q0,trivial⟩).2)
def P_k122:TupS s_k122.inp→Prop:=fun x=>(fun(a:Atom) (b:Atom)=>(ShA a)∧True) x.1 x.2.1
def Q_k122:TupS s_k122.inp→TupS s_k122.out→Prop:=fun x y=>(fun(a:Atom) (b:Atom) (y:TupS s_k122.out)=>y=(aSame a b,())) x.1 x.2.1 y
noncomputable def c_k122:Ct stdCar s_k122:= @mkCt lk_k122 _ (F_k122 (std 0) (c_k88).pre (c_k88).fn) P_k122 Q_k122
theorem ok_k122:Sp c_k122 P_k122 Q_k122∧TransOK E 67 (ctTrans c_k122):=by
  refine @contract lk_k122 X E hE hX hm _ (hlC ok_k88.2 hlN) ord_k122 67 _ _ Tryz.func67 (by kernel_rfl) (enters_of Tryz.func67 (by kernel_rfl) rfl) _ an_k122 _ (fun x=>run_k122 (std 0) c_k88 x) P_k122 Q_k122 ?_
  rintro⟨a,b,⟨⟩⟩ ⟨q0,_⟩
  apply w_k122
  all_goals (first | assumption | exact fun a b q0=>(ok_k88.1 (a,b,()) ⟨q0,trivial⟩).1 | exact fun a b q0=>(ok_k88.1 (a,b,()) ⟨q0,trivial⟩).2)
def P_k93:TupS s_k93.inp→Prop:=fun x=>(fun(a:List Atom)=>(ShT a)∧True) x.1
def Q_k93:TupS s_k93.inp→TupS s_k93.out→Prop:=fun x y=>(fun(a:List Atom) (y:TupS s_k93.out)=>y=(bp (TabOK a),())) x.1 y
noncomputable def c_k93:Ct stdCar s_k93:= @mkCt lk_k93 _ (F_k93 (std 0) (c_k114).pre (c_k114).fn (c_k122).pre (c_k122).fn) P_k93 Q_k93
theorem ok_k93:Sp c_k93 P_k93 Q_k93∧TransOK E 41 (ctTrans c_k93):=by
  refine @contract lk_k93 X E hE hX hm _ (hlC ok_k114.2 (hlC ok_k122.2 hlN)) ord_k93 41 _ _ Tryz.func41 (by kernel_rfl) (enters_of Tryz.func41 (by kernel_rfl) rfl) _ an_k93 _ (fun x=>run_k93 (std 0) c_k114 c_k122 x) P_k93 Q_k93 ?_
  rintro⟨a,⟨⟩⟩ ⟨q0,_⟩
  apply w_k93
  all_goals (first | assumption | exact fun a n q0=>(ok_k114.1 (a,n,()) ⟨q0,trivial⟩).1 | exact fun a n q0=>(ok_k114.1 (a,n,()) ⟨q0,trivial⟩).2 | exact fun a b q0=>(ok_k122.1 (a,b,()) ⟨q0,trivial⟩).1 | exact fun a b q0=>(ok_k122.1 (a,b,()) ⟨q0,trivial⟩).2)
def P_k123:TupS s_k123.inp→Prop:=fun x=>(fun(x:List Mono) (y:List Mono) (n:Int)=>(Sh x)∧(Sh y)∧True) x.1 x.2.1 x.2.2.1
def Q_k123:TupS s_k123.inp→TupS s_k123.out→Prop:=fun x y=>(fun(x:List Mono) (y:List Mono) (n:Int) (z:TupS s_k123.out)=>z=(bp (PolOK x∧PolOK y∧pUnder x n∧pUnder y n),())) x.1 x.2.1 x.2.2.1 y
noncomputable def c_k123:Ct stdCar s_k123:= @mkCt lk_k123 _ (F_k123 (std 0) (c_k87).pre (c_k87).fn (c_k90).pre (c_k90).fn) P_k123 Q_k123
theorem ok_k123:Sp c_k123 P_k123 Q_k123∧TransOK E 43 (ctTrans c_k123):=by
  refine @contract lk_k123 X E hE hX hm _ (hlC ok_k87.2 (hlC ok_k90.2 hlN)) ord_k123 43 _ _ Tryz.func43 (by kernel_rfl) (enters_of Tryz.func43 (by kernel_rfl) rfl) _ an_k123 _ (fun x=>run_k123 (std 0) c_k87 c_k90 x) P_k123 Q_k123 ?_
  rintro⟨x,y,n,⟨⟩⟩ ⟨q0,q1,_⟩
  apply w_k123
  all_goals (first | assumption | exact fun a q0=>(ok_k87.1 (a,()) ⟨q0,trivial⟩).1 | exact fun a q0=>(ok_k87.1 (a,()) ⟨q0,trivial⟩).2 | exact fun a n q0=>(ok_k90.1 (a,n,()) ⟨q0,trivial⟩).1 | exact fun a n q0=>(ok_k90.1 (a,n,()) ⟨q0,trivial⟩).2)
def P_k97:TupS s_k97.inp→Prop:=fun x=>(fun(a:Int)=>True) x.1
def Q_k97:TupS s_k97.inp→TupS s_k97.out→Prop:=fun x y=>(fun(a:Int) (y:TupS s_k97.out)=>y=(a%65536,())) x.1 y
noncomputable def c_k97:Ct stdCar s_k97:= @mkCt lk_k97 _ (F_k97 (std 0)) P_k97 Q_k97
theorem ok_k97:Sp c_k97 P_k97 Q_k97∧TransOK E 39 (ctTrans c_k97):=by
  refine @contract lk_k97 X E hE hX hm _ hlN ord_k97 39 _ _ Tryz.func39 (by kernel_rfl) (enters_of Tryz.func39 (by kernel_rfl) rfl) _ an_k97 _ (fun x=>run_k97 (std 0) x) P_k97 Q_k97 ?_
  rintro⟨a,⟨⟩⟩ _
  apply w_k97
def P_k113:TupS s_k113.inp→Prop:=fun x=>(fun(l:List Mono) (m:Mono)=>(l.length<1000000000)∧(Nf l)∧(1≤m.coef∧m.coef≤65535)∧(m.atoms.length<1000000000)∧True) x.1 x.2.1
def Q_k113:TupS s_k113.inp→TupS s_k113.out→Prop:=fun x y=>(fun(l:List Mono) (m:Mono) (y:TupS s_k113.out)=>Plus l m y.1) x.1 x.2.1 y
noncomputable def c_k113:Ct stdCar s_k113:= @mkCt lk_k113 _ (F_k113 (std 0) (c_k112).pre (c_k112).fn (c_k97).pre (c_k97).fn) P_k113 Q_k113
theorem ok_k113:Sp c_k113 P_k113 Q_k113∧TransOK E 82 (ctTrans c_k113):=by
  refine @contract lk_k113 X E hE hX hm _ (hlC ok_k112.2 (hlC ok_k97.2 hlN)) ord_k113 82 _ _ Tryz.func82 (by kernel_rfl) (enters_of Tryz.func82 (by kernel_rfl) rfl) _ an_k113 _ (fun x=>run_k113 (std 0) c_k112 c_k97 x) P_k113 Q_k113 ?_
  rintro⟨l,m,⟨⟩⟩ ⟨q0,q1,q2,q3,_⟩
  apply w_k113
  all_goals (first | assumption | exact fun a b q0=>(ok_k112.1 (a,b,()) ⟨q0,trivial⟩).1 | exact fun a b q0=>(ok_k112.1 (a,b,()) ⟨q0,trivial⟩).2 | exact fun a=>(ok_k97.1 (a,()) trivial).1 | exact fun a=>(ok_k97.1 (a,()) trivial).2)
def P_k110:TupS s_k110.inp→Prop:=fun x=>(fun(a:List Int) (b:List Int)=>(a.length<100000000)∧(b.length<100000000)∧(a.Pairwise (· ≤ ·))∧(b.Pairwise (· ≤ ·))∧True) x.1 x.2.1
def Q_k110:TupS s_k110.inp→TupS s_k110.out→Prop:=fun x y=>(fun(a:List Int) (b:List Int) (y:TupS s_k110.out)=>y=(sortI (a++b),())) x.1 x.2.1 y
noncomputable def c_k110:Ct stdCar s_k110:= @mkCt lk_k110 _ (F_k110 (std 0)) P_k110 Q_k110
theorem ok_k110:Sp c_k110 P_k110 Q_k110∧TransOK E 83 (ctTrans c_k110):=by
  refine @contract lk_k110 X E hE hX hm _ hlN ord_k110 83 _ _ Tryz.func83 (by kernel_rfl) (enters_of Tryz.func83 (by kernel_rfl) rfl) _ an_k110 _ (fun x=>run_k110 (std 0) x) P_k110 Q_k110 ?_
  rintro⟨a,b,⟨⟩⟩ ⟨q0,q1,q2,q3,_⟩
  apply w_k110
  all_goals (assumption)
def P_k108:TupS s_k108.inp→Prop:=fun x=>(fun(a:List Mono)=>(Sh a)∧True) x.1
def Q_k108:TupS s_k108.inp→TupS s_k108.out→Prop:=fun x y=>(fun(a:List Mono) (y:TupS s_k108.out)=>y=(a,())) x.1 y
noncomputable def c_k108:Ct stdCar s_k108:= @mkCt lk_k108 _ (F_k108 (std 0)) P_k108 Q_k108
theorem ok_k108:Sp c_k108 P_k108 Q_k108∧TransOK E 102 (ctTrans c_k108):=by
  refine @contract lk_k108 X E hE hX hm _ hlN ord_k108 102 _ _ Tryz.func102 (by kernel_rfl) (enters_of Tryz.func102 (by kernel_rfl) rfl) _ an_k108 _ (fun x=>run_k108 (std 0) x) P_k108 Q_k108 ?_
  rintro⟨a,⟨⟩⟩ ⟨q0,_⟩
  apply w_k108
  all_goals (assumption)
def P_k109:TupS s_k109.inp→Prop:=fun x=>(fun(a:List Mono)=>(Sh a)∧True) x.1
def Q_k109:TupS s_k109.inp→TupS s_k109.out→Prop:=fun x y=>(fun(a:List Mono) (y:TupS s_k109.out)=>y=(bp (fitB a),if bp (fitB a)then a else [],())) x.1 y
noncomputable def c_k109:Ct stdCar s_k109:= @mkCt lk_k109 _ (F_k109 (std 0) (c_k108).pre (c_k108).fn) P_k109 Q_k109
theorem ok_k109:Sp c_k109 P_k109 Q_k109∧TransOK E 84 (ctTrans c_k109):=by
  refine @contract lk_k109 X E hE hX hm _ (hlC ok_k108.2 hlN) ord_k109 84 _ _ Tryz.func84 (by kernel_rfl) (enters_of Tryz.func84 (by kernel_rfl) rfl) _ an_k109 _ (fun x=>run_k109 (std 0) c_k108 x) P_k109 Q_k109 ?_
  rintro⟨a,⟨⟩⟩ ⟨q0,_⟩
  apply w_k109
  all_goals (first | assumption | exact fun a q0=>(ok_k108.1 (a,()) ⟨q0,trivial⟩).1 | exact fun a q0=>(ok_k108.1 (a,()) ⟨q0,trivial⟩).2)
def P_k85:TupS s_k85.inp→Prop:=fun x=>(fun(a:List Mono) (b:List Mono)=>(Sh a)∧(Sh b)∧True) x.1 x.2.1
def Q_k85:TupS s_k85.inp→TupS s_k85.out→Prop:=fun x y=>(fun(a:List Mono) (b:List Mono) (y:TupS s_k85.out)=>y=((mulF a b).1,(mulF a b).2,())) x.1 x.2.1 y
noncomputable def c_k85:Ct stdCar s_k85:= @mkCt lk_k85 _ (F_k85 (std 0) (c_k87).pre (c_k87).fn (c_k97).pre (c_k97).fn (c_k113).pre (c_k113).fn (c_k110).pre (c_k110).fn (c_k109).pre (c_k109).fn) P_k85 Q_k85
theorem ok_k85:Sp c_k85 P_k85 Q_k85∧TransOK E 53 (ctTrans c_k85):=by
  refine @contract lk_k85 X E hE hX hm _ (hlC ok_k87.2 (hlC ok_k97.2 (hlC ok_k113.2 (hlC ok_k110.2 (hlC ok_k109.2 hlN))))) ord_k85 53 _ _ Tryz.func53 (by kernel_rfl) (enters_of Tryz.func53 (by kernel_rfl) rfl) _ an_k85 _ (fun x=>run_k85 (std 0) c_k87 c_k97 c_k113 c_k110 c_k109 x) P_k85 Q_k85 ?_
  rintro⟨a,b,⟨⟩⟩ ⟨q0,q1,_⟩
  apply w_k85
  all_goals (first | assumption | exact fun a q0=>(ok_k87.1 (a,()) ⟨q0,trivial⟩).1 | exact fun a q0=>(ok_k87.1 (a,()) ⟨q0,trivial⟩).2 | exact fun a=>(ok_k97.1 (a,()) trivial).1 | exact fun a=>(ok_k97.1 (a,()) trivial).2 | exact fun l m q0 q1 q2 q3=>(ok_k113.1 (l,m,()) ⟨q0,⟨q1,⟨q2,⟨q3,trivial⟩⟩⟩⟩).1 | exact fun l m q0 q1 q2 q3=>(ok_k113.1 (l,m,()) ⟨q0,⟨q1,⟨q2,⟨q3,trivial⟩⟩⟩⟩).2 | exact fun a b q0 q1 q2 q3=>(ok_k110.1 (a,b,()) ⟨q0,⟨q1,⟨q2,⟨q3,trivial⟩⟩⟩⟩).1 | exact fun a b q0 q1 q2 q3=>(ok_k110.1 (a,b,()) ⟨q0,⟨q1,⟨q2,⟨q3,trivial⟩⟩⟩⟩).2 | exact fun a q0=>(ok_k109.1 (a,()) ⟨q0,trivial⟩).1 | exact fun a q0=>(ok_k109.1 (a,()) ⟨q0,trivial⟩).2)
def P_k82:TupS s_k82.inp→Prop:=fun x=>(fun(a:List Mono) (b:List Mono)=>(Sh a)∧(Sh b)∧True) x.1 x.2.1
def Q_k82:TupS s_k82.inp→TupS s_k82.out→Prop:=fun x y=>(fun(a:List Mono) (b:List Mono) (y:TupS s_k82.out)=>y=((addF a b).1,(addF a b).2,())) x.1 x.2.1 y
noncomputable def c_k82:Ct stdCar s_k82:= @mkCt lk_k82 _ (F_k82 (std 0) (c_k87).pre (c_k87).fn (c_k113).pre (c_k113).fn (c_k109).pre (c_k109).fn) P_k82 Q_k82
theorem ok_k82:Sp c_k82 P_k82 Q_k82∧TransOK E 54 (ctTrans c_k82):=by
  refine @contract lk_k82 X E hE hX hm _ (hlC ok_k87.2 (hlC ok_k113.2 (hlC ok_k109.2 hlN))) ord_k82 54 _ _ Tryz.func54 (by kernel_rfl) (enters_of Tryz.func54 (by kernel_rfl) rfl) _ an_k82 _ (fun x=>run_k82 (std 0) c_k87 c_k113 c_k109 x) P_k82 Q_k82 ?_
  rintro⟨a,b,⟨⟩⟩ ⟨q0,q1,_⟩
  apply w_k82
  all_goals (first | assumption | exact fun a q0=>(ok_k87.1 (a,()) ⟨q0,trivial⟩).1 | exact fun a q0=>(ok_k87.1 (a,()) ⟨q0,trivial⟩).2 | exact fun l m q0 q1 q2 q3=>(ok_k113.1 (l,m,()) ⟨q0,⟨q1,⟨q2,⟨q3,trivial⟩⟩⟩⟩).1 | exact fun l m q0 q1 q2 q3=>(ok_k113.1 (l,m,()) ⟨q0,⟨q1,⟨q2,⟨q3,trivial⟩⟩⟩⟩).2 | exact fun a q0=>(ok_k109.1 (a,()) ⟨q0,trivial⟩).1 | exact fun a q0=>(ok_k109.1 (a,()) ⟨q0,trivial⟩).2)
def P_k96:TupS s_k96.inp→Prop:=fun x=>(fun(a:Int)=>True) x.1
def Q_k96:TupS s_k96.inp→TupS s_k96.out→Prop:=fun x y=>(fun(a:Int) (y:TupS s_k96.out)=>y=(inB a 0 65535,())) x.1 y
noncomputable def c_k96:Ct stdCar s_k96:= @mkCt lk_k96 _ (F_k96 (std 0)) P_k96 Q_k96
theorem ok_k96:Sp c_k96 P_k96 Q_k96∧TransOK E 12 (ctTrans c_k96):=by
  refine @contract lk_k96 X E hE hX hm _ hlN ord_k96 12 _ _ Tryz.func12 (by kernel_rfl) (enters_of Tryz.func12 (by kernel_rfl) rfl) _ an_k96 _ (fun x=>run_k96 (std 0) x) P_k96 Q_k96 ?_
  rintro⟨a,⟨⟩⟩ _
  apply w_k96
def P_k89:TupS s_k89.inp→Prop:=fun x=>(fun(a:List Mono) (n:Int)=>(Sh a)∧True) x.1 x.2.1
def Q_k89:TupS s_k89.inp→TupS s_k89.out→Prop:=fun x y=>(fun(a:List Mono) (n:Int) (y:TupS s_k89.out)=>y=(scaleF a n,())) x.1 x.2.1 y
noncomputable def c_k89:Ct stdCar s_k89:= @mkCt lk_k89 _ (F_k89 (std 0) (c_k87).pre (c_k87).fn (c_k97).pre (c_k97).fn (c_k108).pre (c_k108).fn (c_k96).pre (c_k96).fn) P_k89 Q_k89
theorem ok_k89:Sp c_k89 P_k89 Q_k89∧TransOK E 100 (ctTrans c_k89):=by
  refine @contract lk_k89 X E hE hX hm _ (hlC ok_k87.2 (hlC ok_k97.2 (hlC ok_k108.2 (hlC ok_k96.2 hlN)))) ord_k89 100 _ _ Tryz.func100 (by kernel_rfl) (enters_of Tryz.func100 (by kernel_rfl) rfl) _ an_k89 _ (fun x=>run_k89 (std 0) c_k87 c_k97 c_k108 c_k96 x) P_k89 Q_k89 ?_
  rintro⟨a,n,⟨⟩⟩ ⟨q0,_⟩
  apply w_k89
  all_goals (first | assumption | exact fun a q0=>(ok_k87.1 (a,()) ⟨q0,trivial⟩).1 | exact fun a q0=>(ok_k87.1 (a,()) ⟨q0,trivial⟩).2 | exact fun a=>(ok_k97.1 (a,()) trivial).1 | exact fun a=>(ok_k97.1 (a,()) trivial).2 | exact fun a q0=>(ok_k108.1 (a,()) ⟨q0,trivial⟩).1 | exact fun a q0=>(ok_k108.1 (a,()) ⟨q0,trivial⟩).2 | exact fun a=>(ok_k96.1 (a,()) trivial).1 | exact fun a=>(ok_k96.1 (a,()) trivial).2)
def P_k121:TupS s_k121.inp→Prop:=fun x=>(fun(op:Int) (x:List Mono) (y:List Mono)=>(Sh x)∧(Sh y)∧True) x.1 x.2.1 x.2.2.1
def Q_k121:TupS s_k121.inp→TupS s_k121.out→Prop:=fun x y=>(fun(op:Int) (x:List Mono) (y:List Mono) (z:TupS s_k121.out)=>z=((ringF op x y).2,(ringF op x y).1,())) x.1 x.2.1 x.2.2.1 y
noncomputable def c_k121:Ct stdCar s_k121:= @mkCt lk_k121 _ (F_k121 (std 0) (c_k85).pre (c_k85).fn (c_k82).pre (c_k82).fn (c_k89).pre (c_k89).fn) P_k121 Q_k121
theorem ok_k121:Sp c_k121 P_k121 Q_k121∧TransOK E 70 (ctTrans c_k121):=by
  refine @contract lk_k121 X E hE hX hm _ (hlC ok_k85.2 (hlC ok_k82.2 (hlC ok_k89.2 hlN))) ord_k121 70 _ _ Tryz.func70 (by kernel_rfl) (enters_of Tryz.func70 (by kernel_rfl) rfl) _ an_k121 _ (fun x=>run_k121 (std 0) c_k85 c_k82 c_k89 x) P_k121 Q_k121 ?_
  rintro⟨op,x,y,⟨⟩⟩ ⟨q0,q1,_⟩
  apply w_k121
  all_goals (first | assumption | exact fun a b q0 q1=>(ok_k85.1 (a,b,()) ⟨q0,⟨q1,trivial⟩⟩).1 | exact fun a b q0 q1=>(ok_k85.1 (a,b,()) ⟨q0,⟨q1,trivial⟩⟩).2 | exact fun a b q0 q1=>(ok_k82.1 (a,b,()) ⟨q0,⟨q1,trivial⟩⟩).1 | exact fun a b q0 q1=>(ok_k82.1 (a,b,()) ⟨q0,⟨q1,trivial⟩⟩).2 | exact fun a n q0=>(ok_k89.1 (a,n,()) ⟨q0,trivial⟩).1 | exact fun a n q0=>(ok_k89.1 (a,n,()) ⟨q0,trivial⟩).2)
def P_k95:TupS s_k95.inp→Prop:=fun x=>(fun(op:Int) (a:Int) (b:Int)=>True) x.1 x.2.1 x.2.2.1
def Q_k95:TupS s_k95.inp→TupS s_k95.out→Prop:=fun x y=>(fun(op:Int) (a:Int) (b:Int) (y:TupS s_k95.out)=>y=(wdo op a b,())) x.1 x.2.1 x.2.2.1 y
noncomputable def c_k95:Ct stdCar s_k95:= @mkCt lk_k95 _ (F_k95 (std 0) (c_k97).pre (c_k97).fn (c_k96).pre (c_k96).fn) P_k95 Q_k95
theorem ok_k95:Sp c_k95 P_k95 Q_k95∧TransOK E 14 (ctTrans c_k95):=by
  refine @contract lk_k95 X E hE hX hm _ (hlC ok_k97.2 (hlC ok_k96.2 hlN)) ord_k95 14 _ _ Tryz.func14 (by kernel_rfl) (enters_of Tryz.func14 (by kernel_rfl) rfl) _ an_k95 _ (fun x=>run_k95 (std 0) c_k97 c_k96 x) P_k95 Q_k95 ?_
  rintro⟨op,a,b,⟨⟩⟩ _
  apply w_k95
  all_goals (first | assumption | exact fun a=>(ok_k97.1 (a,()) trivial).1 | exact fun a=>(ok_k97.1 (a,()) trivial).2 | exact fun a=>(ok_k96.1 (a,()) trivial).1 | exact fun a=>(ok_k96.1 (a,()) trivial).2)
def P_k84:TupS s_k84.inp→Prop:=fun x=>(fun(a:Int)=>True) x.1
def Q_k84:TupS s_k84.inp→TupS s_k84.out→Prop:=fun x y=>(fun(a:Int) (y:TupS s_k84.out)=>y=(pConst a,())) x.1 y
noncomputable def c_k84:Ct stdCar s_k84:= @mkCt lk_k84 _ (F_k84 (std 0) (c_k98).pre (c_k98).fn) P_k84 Q_k84
theorem ok_k84:Sp c_k84 P_k84 Q_k84∧TransOK E 27 (ctTrans c_k84):=by
  refine @contract lk_k84 X E hE hX hm _ (hlC ok_k98.2 hlN) ord_k84 27 _ _ Tryz.func27 (by kernel_rfl) (enters_of Tryz.func27 (by kernel_rfl) rfl) _ an_k84 _ (fun x=>run_k84 (std 0) c_k98 x) P_k84 Q_k84 ?_
  rintro⟨a,⟨⟩⟩ _
  apply w_k84
  all_goals (first | assumption | exact fun a b c=>(ok_k98.1 (a,b,c,()) trivial).1 | exact fun a b c=>(ok_k98.1 (a,b,c,()) trivial).2)
def P_k86:TupS s_k86.inp→Prop:=fun x=>(fun(a:List Mono)=>(Sh a)∧True) x.1
def Q_k86:TupS s_k86.inp→TupS s_k86.out→Prop:=fun x y=>(fun(a:List Mono) (y:TupS s_k86.out)=>y=((pNum a).1,(pNum a).2,())) x.1 y
noncomputable def c_k86:Ct stdCar s_k86:= @mkCt lk_k86 _ (F_k86 (std 0) (c_k87).pre (c_k87).fn) P_k86 Q_k86
theorem ok_k86:Sp c_k86 P_k86 Q_k86∧TransOK E 101 (ctTrans c_k86):=by
  refine @contract lk_k86 X E hE hX hm _ (hlC ok_k87.2 hlN) ord_k86 101 _ _ Tryz.func101 (by kernel_rfl) (enters_of Tryz.func101 (by kernel_rfl) rfl) _ an_k86 _ (fun x=>run_k86 (std 0) c_k87 x) P_k86 Q_k86 ?_
  rintro⟨a,⟨⟩⟩ ⟨q0,_⟩
  apply w_k86
  all_goals (first | assumption | exact fun a q0=>(ok_k87.1 (a,()) ⟨q0,trivial⟩).1 | exact fun a q0=>(ok_k87.1 (a,()) ⟨q0,trivial⟩).2)
def P_k119:TupS s_k119.inp→Prop:=fun x=>(fun(op:Int) (n:Int) (y:List Mono)=>(Sh y)∧True) x.1 x.2.1 x.2.2.1
def Q_k119:TupS s_k119.inp→TupS s_k119.out→Prop:=fun x y=>(fun(op:Int) (n:Int) (y:List Mono) (z:TupS s_k119.out)=>z=((halfF op n y).2,(halfF op n y).1,())) x.1 x.2.1 x.2.2.1 y
noncomputable def c_k119:Ct stdCar s_k119:= @mkCt lk_k119 _ (F_k119 (std 0) (c_k108).pre (c_k108).fn) P_k119 Q_k119
theorem ok_k119:Sp c_k119 P_k119 Q_k119∧TransOK E 103 (ctTrans c_k119):=by
  refine @contract lk_k119 X E hE hX hm _ (hlC ok_k108.2 hlN) ord_k119 103 _ _ Tryz.func103 (by kernel_rfl) (enters_of Tryz.func103 (by kernel_rfl) rfl) _ an_k119 _ (fun x=>run_k119 (std 0) c_k108 x) P_k119 Q_k119 ?_
  rintro⟨op,n,y,⟨⟩⟩ ⟨q0,_⟩
  apply w_k119
  all_goals (first | assumption | exact fun a q0=>(ok_k108.1 (a,()) ⟨q0,trivial⟩).1 | exact fun a q0=>(ok_k108.1 (a,()) ⟨q0,trivial⟩).2)
def P_k116:TupS s_k116.inp→Prop:=fun x=>(fun(op:Int) (x:List Mono) (y:List Mono)=>(Sh x)∧(Sh y)∧True) x.1 x.2.1 x.2.2.1
def Q_k116:TupS s_k116.inp→TupS s_k116.out→Prop:=fun x y=>(fun(op:Int) (x:List Mono) (y:List Mono) (z:TupS s_k116.out)=>z=((bitF op x y).2,(bitF op x y).1,())) x.1 x.2.1 x.2.2.1 y
noncomputable def c_k116:Ct stdCar s_k116:= @mkCt lk_k116 _ (F_k116 (std 0) (c_k88).pre (c_k88).fn (c_k108).pre (c_k108).fn (c_k95).pre (c_k95).fn (c_k84).pre (c_k84).fn (c_k86).pre (c_k86).fn (c_k119).pre (c_k119).fn) P_k116 Q_k116
theorem ok_k116:Sp c_k116 P_k116 Q_k116∧TransOK E 71 (ctTrans c_k116):=by
  refine @contract lk_k116 X E hE hX hm _ (hlC ok_k88.2 (hlC ok_k108.2 (hlC ok_k95.2 (hlC ok_k84.2 (hlC ok_k86.2 (hlC ok_k119.2 hlN)))))) ord_k116 71 _ _ Tryz.func71 (by kernel_rfl) (enters_of Tryz.func71 (by kernel_rfl) rfl) _ an_k116 _ (fun x=>run_k116 (std 0) c_k88 c_k108 c_k95 c_k84 c_k86 c_k119 x) P_k116 Q_k116 ?_
  rintro⟨op,x,y,⟨⟩⟩ ⟨q0,q1,_⟩
  apply w_k116
  all_goals (first | assumption | exact fun a b q0=>(ok_k88.1 (a,b,()) ⟨q0,trivial⟩).1 | exact fun a b q0=>(ok_k88.1 (a,b,()) ⟨q0,trivial⟩).2 | exact fun a q0=>(ok_k108.1 (a,()) ⟨q0,trivial⟩).1 | exact fun a q0=>(ok_k108.1 (a,()) ⟨q0,trivial⟩).2 | exact fun op a b=>(ok_k95.1 (op,a,b,()) trivial).1 | exact fun op a b=>(ok_k95.1 (op,a,b,()) trivial).2 | exact fun a=>(ok_k84.1 (a,()) trivial).1 | exact fun a=>(ok_k84.1 (a,()) trivial).2 | exact fun a q0=>(ok_k86.1 (a,()) ⟨q0,trivial⟩).1 | exact fun a q0=>(ok_k86.1 (a,()) ⟨q0,trivial⟩).2 | exact fun op n y q0=>(ok_k119.1 (op,n,y,()) ⟨q0,trivial⟩).1 | exact fun op n y q0=>(ok_k119.1 (op,n,y,()) ⟨q0,trivial⟩).2)
def P_k124:TupS s_k124.inp→Prop:=fun x=>(fun(a:Atom)=>(ShA a)∧True) x.1
def Q_k124:TupS s_k124.inp→TupS s_k124.out→Prop:=fun x y=>(fun(a:Atom) (y:TupS s_k124.out)=>y=(a.kind,a.k,a.x,a.y,())) x.1 y
noncomputable def c_k124:Ct stdCar s_k124:= @mkCt lk_k124 _ (F_k124 (std 0) (c_k108).pre (c_k108).fn) P_k124 Q_k124
theorem ok_k124:Sp c_k124 P_k124 Q_k124∧TransOK E 74 (ctTrans c_k124):=by
  refine @contract lk_k124 X E hE hX hm _ (hlC ok_k108.2 hlN) ord_k124 74 _ _ Tryz.func74 (by kernel_rfl) (enters_of Tryz.func74 (by kernel_rfl) rfl) _ an_k124 _ (fun x=>run_k124 (std 0) c_k108 x) P_k124 Q_k124 ?_
  rintro⟨a,⟨⟩⟩ ⟨q0,_⟩
  apply w_k124
  all_goals (first | assumption | exact fun a q0=>(ok_k108.1 (a,()) ⟨q0,trivial⟩).1 | exact fun a q0=>(ok_k108.1 (a,()) ⟨q0,trivial⟩).2)
def P_k120:TupS s_k120.inp→Prop:=fun x=>(fun(a:Atom) (t:List Atom)=>(ShA a)∧(ShT t)∧(TabOK t)∧True) x.1 x.2.1
def Q_k120:TupS s_k120.inp→TupS s_k120.out→Prop:=fun x y=>(fun(a:Atom) (t:List Atom) (y:TupS s_k120.out)=>y=((tPut t a).2,(tPut t a).1,())) x.1 x.2.1 y
noncomputable def c_k120:Ct stdCar s_k120:= @mkCt lk_k120 _ (F_k120 (std 0) (c_k114).pre (c_k114).fn (c_k122).pre (c_k122).fn (c_k124).pre (c_k124).fn) P_k120 Q_k120
theorem ok_k120:Sp c_k120 P_k120 Q_k120∧TransOK E 73 (ctTrans c_k120):=by
  refine @contract lk_k120 X E hE hX hm _ (hlC ok_k114.2 (hlC ok_k122.2 (hlC ok_k124.2 hlN))) ord_k120 73 _ _ Tryz.func73 (by kernel_rfl) (enters_of Tryz.func73 (by kernel_rfl) rfl) _ an_k120 _ (fun x=>run_k120 (std 0) c_k114 c_k122 c_k124 x) P_k120 Q_k120 ?_
  rintro⟨a,t,⟨⟩⟩ ⟨q0,q1,q2,_⟩
  apply w_k120
  all_goals (first | assumption | exact fun a n q0=>(ok_k114.1 (a,n,()) ⟨q0,trivial⟩).1 | exact fun a n q0=>(ok_k114.1 (a,n,()) ⟨q0,trivial⟩).2 | exact fun a b q0=>(ok_k122.1 (a,b,()) ⟨q0,trivial⟩).1 | exact fun a b q0=>(ok_k122.1 (a,b,()) ⟨q0,trivial⟩).2 | exact fun a q0=>(ok_k124.1 (a,()) ⟨q0,trivial⟩).1 | exact fun a q0=>(ok_k124.1 (a,()) ⟨q0,trivial⟩).2)
def P_k118:TupS s_k118.inp→Prop:=fun x=>(fun(op:Int) (x:List Mono) (y:List Mono) (t:List Atom)=>(1≤op∧op≤5)∧(Sh x)∧(Sh y)∧(ShT t)∧(TabOK t)∧True) x.1 x.2.1 x.2.2.1 x.2.2.2.1
def Q_k118:TupS s_k118.inp→TupS s_k118.out→Prop:=fun x y=>(fun(op:Int) (x:List Mono) (y:List Mono) (t:List Atom) (z:TupS s_k118.out)=>z=((tDo t op x y).1,(tDo t op x y).2,())) x.1 x.2.1 x.2.2.1 x.2.2.2.1 y
noncomputable def c_k118:Ct stdCar s_k118:= @mkCt lk_k118 _ (F_k118 (std 0) (c_k83).pre (c_k83).fn (c_k88).pre (c_k88).fn (c_k121).pre (c_k121).fn (c_k116).pre (c_k116).fn (c_k120).pre (c_k120).fn) P_k118 Q_k118
theorem ok_k118:Sp c_k118 P_k118 Q_k118∧TransOK E 44 (ctTrans c_k118):=by
  refine @contract lk_k118 X E hE hX hm _ (hlC ok_k83.2 (hlC ok_k88.2 (hlC ok_k121.2 (hlC ok_k116.2 (hlC ok_k120.2 hlN))))) ord_k118 44 _ _ Tryz.func44 (by kernel_rfl) (enters_of Tryz.func44 (by kernel_rfl) rfl) _ an_k118 _ (fun x=>run_k118 (std 0) c_k83 c_k88 c_k121 c_k116 c_k120 x) P_k118 Q_k118 ?_
  rintro⟨op,x,y,t,⟨⟩⟩ ⟨q0,q1,q2,q3,q4,_⟩
  apply w_k118
  all_goals (first | assumption | exact fun a=>(ok_k83.1 (a,()) trivial).1 | exact fun a=>(ok_k83.1 (a,()) trivial).2 | exact fun a b q0=>(ok_k88.1 (a,b,()) ⟨q0,trivial⟩).1 | exact fun a b q0=>(ok_k88.1 (a,b,()) ⟨q0,trivial⟩).2 | exact fun op x y q0 q1=>(ok_k121.1 (op,x,y,()) ⟨q0,⟨q1,trivial⟩⟩).1 | exact fun op x y q0 q1=>(ok_k121.1 (op,x,y,()) ⟨q0,⟨q1,trivial⟩⟩).2 | exact fun op x y q0 q1=>(ok_k116.1 (op,x,y,()) ⟨q0,⟨q1,trivial⟩⟩).1 | exact fun op x y q0 q1=>(ok_k116.1 (op,x,y,()) ⟨q0,⟨q1,trivial⟩⟩).2 | exact fun a t q0 q1 q2=>(ok_k120.1 (a,t,()) ⟨q0,⟨q1,⟨q2,trivial⟩⟩⟩).1 | exact fun a t q0 q1 q2=>(ok_k120.1 (a,t,()) ⟨q0,⟨q1,⟨q2,trivial⟩⟩⟩).2)
def P_k117:TupS s_k117.inp→Prop:=fun x=>(fun(a:List Atom)=>(ShT a)∧True) x.1
def Q_k117:TupS s_k117.inp→TupS s_k117.out→Prop:=fun x y=>(fun(a:List Atom) (y:TupS s_k117.out)=>y=(a,())) x.1 y
noncomputable def c_k117:Ct stdCar s_k117:= @mkCt lk_k117 _ (F_k117 (std 0) (c_k124).pre (c_k124).fn) P_k117 Q_k117
theorem ok_k117:Sp c_k117 P_k117 Q_k117∧TransOK E 45 (ctTrans c_k117):=by
  refine @contract lk_k117 X E hE hX hm _ (hlC ok_k124.2 hlN) ord_k117 45 _ _ Tryz.func45 (by kernel_rfl) (enters_of Tryz.func45 (by kernel_rfl) rfl) _ an_k117 _ (fun x=>run_k117 (std 0) c_k124 x) P_k117 Q_k117 ?_
  rintro⟨a,⟨⟩⟩ ⟨q0,_⟩
  apply w_k117
  all_goals (first | assumption | exact fun a q0=>(ok_k124.1 (a,()) ⟨q0,trivial⟩).1 | exact fun a q0=>(ok_k124.1 (a,()) ⟨q0,trivial⟩).2)
def P_k92:TupS s_k92.inp→Prop:=fun x=>(fun(t:List Atom) (op:Int) (x:List Mono) (y:List Mono)=>(ShT t)∧(Sh x)∧(Sh y)∧True) x.1 x.2.1 x.2.2.1 x.2.2.2.1
def Q_k92:TupS s_k92.inp→TupS s_k92.out→Prop:=fun x y=>(fun(t:List Atom) (op:Int) (x:List Mono) (y:List Mono) (z:TupS s_k92.out)=>z=((tabDo t op x y).1,(tabDo t op x y).2,())) x.1 x.2.1 x.2.2.1 x.2.2.2.1 y
noncomputable def c_k92:Ct stdCar s_k92:= @mkCt lk_k92 _ (F_k92 (std 0) (c_k98).pre (c_k98).fn (c_k93).pre (c_k93).fn (c_k123).pre (c_k123).fn (c_k118).pre (c_k118).fn (c_k117).pre (c_k117).fn) P_k92 Q_k92
theorem ok_k92:Sp c_k92 P_k92 Q_k92∧TransOK E 16 (ctTrans c_k92):=by
  refine @contract lk_k92 X E hE hX hm _ (hlC ok_k98.2 (hlC ok_k93.2 (hlC ok_k123.2 (hlC ok_k118.2 (hlC ok_k117.2 hlN))))) ord_k92 16 _ _ Tryz.func16 (by kernel_rfl) (enters_of Tryz.func16 (by kernel_rfl) rfl) _ an_k92 _ (fun x=>run_k92 (std 0) c_k98 c_k93 c_k123 c_k118 c_k117 x) P_k92 Q_k92 ?_
  rintro⟨t,op,x,y,⟨⟩⟩ ⟨q0,q1,q2,_⟩
  apply w_k92
  all_goals (first | assumption | exact fun a b c=>(ok_k98.1 (a,b,c,()) trivial).1 | exact fun a b c=>(ok_k98.1 (a,b,c,()) trivial).2 | exact fun a q0=>(ok_k93.1 (a,()) ⟨q0,trivial⟩).1 | exact fun a q0=>(ok_k93.1 (a,()) ⟨q0,trivial⟩).2 | exact fun x y n q0 q1=>(ok_k123.1 (x,y,n,()) ⟨q0,⟨q1,trivial⟩⟩).1 | exact fun x y n q0 q1=>(ok_k123.1 (x,y,n,()) ⟨q0,⟨q1,trivial⟩⟩).2 | exact fun op x y t q0 q1 q2 q3 q4=>(ok_k118.1 (op,x,y,t,()) ⟨q0,⟨q1,⟨q2,⟨q3,⟨q4,trivial⟩⟩⟩⟩⟩).1 | exact fun op x y t q0 q1 q2 q3 q4=>(ok_k118.1 (op,x,y,t,()) ⟨q0,⟨q1,⟨q2,⟨q3,⟨q4,trivial⟩⟩⟩⟩⟩).2 | exact fun a q0=>(ok_k117.1 (a,()) ⟨q0,trivial⟩).1 | exact fun a q0=>(ok_k117.1 (a,()) ⟨q0,trivial⟩).2)
def P_k102:TupS s_k102.inp→Prop:=fun x=>(fun(b:List Int) (p:Int)=>(Bt b)∧(0≤p)∧(p<900000000)∧True) x.1 x.2.1
def Q_k102:TupS s_k102.inp→TupS s_k102.out→Prop:=fun x y=>(fun(b:List Int) (p:Int) (y:TupS s_k102.out)=>Wd b p y) x.1 x.2.1 y
noncomputable def c_k102:Ct stdCar s_k102:= @mkCt lk_k102 _ (F_k102 (std 0) (c_k101).pre (c_k101).fn) P_k102 Q_k102
theorem ok_k102:Sp c_k102 P_k102 Q_k102∧TransOK E 28 (ctTrans c_k102):=by
  refine @contract lk_k102 X E hE hX hm _ (hlC ok_k101.2 hlN) ord_k102 28 _ _ Tryz.func28 (by kernel_rfl) (enters_of Tryz.func28 (by kernel_rfl) rfl) _ an_k102 _ (fun x=>run_k102 (std 0) c_k101 x) P_k102 Q_k102 ?_
  rintro⟨b,p,⟨⟩⟩ ⟨q0,q1,q2,_⟩
  apply w_k102
  all_goals (first | assumption | exact fun n b p q0 q1 q2=>(ok_k101.1 (n,b,p,()) ⟨q0,⟨q1,⟨q2,trivial⟩⟩⟩).1 | exact fun n b p q0 q1 q2=>(ok_k101.1 (n,b,p,()) ⟨q0,⟨q1,⟨q2,trivial⟩⟩⟩).2)
end Go.TX.F
namespace Go.TX.F
open Go Go.AE Go.TX Go.TX.Seat Go.Proofs
set_option maxRecDepth 100000
def P_k105:TupS s_k105.inp→Prop:=fun x=>(fun(n:Int) (b:List Int) (p:Int)=>(Bt b)∧(0≤n)∧(0≤p)∧(p<500000000)∧True) x.1 x.2.1 x.2.2.1
def Q_k105:TupS s_k105.inp→TupS s_k105.out→Prop:=fun x y=>(fun(n:Int) (b:List Int) (p:Int) (y:TupS s_k105.out)=>PolyD n b p y) x.1 x.2.1 x.2.2.1 y
noncomputable def c_k105:Ct stdCar s_k105:= @mkCt lk_k105 _ (F_k105 (std 0) (c_k101).pre (c_k101).fn (c_k83).pre (c_k83).fn (c_k85).pre (c_k85).fn (c_k82).pre (c_k82).fn (c_k84).pre (c_k84).fn (c_k102).pre (c_k102).fn) P_k105 Q_k105
theorem ok_k105:Sp c_k105 P_k105 Q_k105∧TransOK E 26 (ctTrans c_k105):=by
  refine @contract lk_k105 X E hE hX hm _ (hlC ok_k101.2 (hlC ok_k83.2 (hlC ok_k85.2 (hlC ok_k82.2 (hlC ok_k84.2 (hlC ok_k102.2 hlN)))))) ord_k105 26 _ _ Tryz.func26 (by kernel_rfl) (enters_of Tryz.func26 (by kernel_rfl) rfl) _ an_k105 _ (fun x=>run_k105 (std 0) c_k101 c_k83 c_k85 c_k82 c_k84 c_k102 x) P_k105 Q_k105 ?_
  rintro⟨n,b,p,⟨⟩⟩ ⟨q0,q1,q2,q3,_⟩
  apply w_k105
  all_goals (first | assumption | exact fun n b p q0 q1 q2=>(ok_k101.1 (n,b,p,()) ⟨q0,⟨q1,⟨q2,trivial⟩⟩⟩).1 | exact fun n b p q0 q1 q2=>(ok_k101.1 (n,b,p,()) ⟨q0,⟨q1,⟨q2,trivial⟩⟩⟩).2 | exact fun a=>(ok_k83.1 (a,()) trivial).1 | exact fun a=>(ok_k83.1 (a,()) trivial).2 | exact fun a b q0 q1=>(ok_k85.1 (a,b,()) ⟨q0,⟨q1,trivial⟩⟩).1 | exact fun a b q0 q1=>(ok_k85.1 (a,b,()) ⟨q0,⟨q1,trivial⟩⟩).2 | exact fun a b q0 q1=>(ok_k82.1 (a,b,()) ⟨q0,⟨q1,trivial⟩⟩).1 | exact fun a b q0 q1=>(ok_k82.1 (a,b,()) ⟨q0,⟨q1,trivial⟩⟩).2 | exact fun a=>(ok_k84.1 (a,()) trivial).1 | exact fun a=>(ok_k84.1 (a,()) trivial).2 | exact fun b p q0 q1 q2=>(ok_k102.1 (b,p,()) ⟨q0,⟨q1,⟨q2,trivial⟩⟩⟩).1 | exact fun b p q0 q1 q2=>(ok_k102.1 (b,p,()) ⟨q0,⟨q1,⟨q2,trivial⟩⟩⟩).2)
def P_k91:TupS s_k91.inp→Prop:=fun _=>True
def Q_k91:TupS s_k91.inp→TupS s_k91.out→Prop:=fun _ y=>(fun(y:TupS s_k91.out)=>Regs 4 y.1) y
noncomputable def c_k91:Ct stdCar s_k91:= @mkCt lk_k91 _ (F_k91 (std 0) (c_k83).pre (c_k83).fn) P_k91 Q_k91
theorem ok_k91:Sp c_k91 P_k91 Q_k91∧TransOK E 80 (ctTrans c_k91):=by
  refine @contract lk_k91 X E hE hX hm _ (hlC ok_k83.2 hlN) ord_k91 80 _ _ Tryz.func80 (by kernel_rfl) (enters_of Tryz.func80 (by kernel_rfl) rfl) _ an_k91 _ (fun x=>run_k91 (std 0) c_k83 x) P_k91 Q_k91 ?_
  rintro⟨⟩ _
  apply w_k91
  all_goals (first | assumption | exact fun a=>(ok_k83.1 (a,()) trivial).1 | exact fun a=>(ok_k83.1 (a,()) trivial).2)
def P_k94:TupS s_k94.inp→Prop:=fun x=>(fun(t:List Atom) (a:Atom)=>(ShT t)∧(ShA a)∧True) x.1 x.2.1
def Q_k94:TupS s_k94.inp→TupS s_k94.out→Prop:=fun x y=>(fun(t:List Atom) (a:Atom) (z:TupS s_k94.out)=>z=if bp (TabOK t)then((tPut t a).2,(tPut t a).1,())else(-1,[],())) x.1 x.2.1 y
noncomputable def c_k94:Ct stdCar s_k94:= @mkCt lk_k94 _ (F_k94 (std 0) (c_k93).pre (c_k93).fn (c_k120).pre (c_k120).fn (c_k117).pre (c_k117).fn) P_k94 Q_k94
theorem ok_k94:Sp c_k94 P_k94 Q_k94∧TransOK E 81 (ctTrans c_k94):=by
  refine @contract lk_k94 X E hE hX hm _ (hlC ok_k93.2 (hlC ok_k120.2 (hlC ok_k117.2 hlN))) ord_k94 81 _ _ Tryz.func81 (by kernel_rfl) (enters_of Tryz.func81 (by kernel_rfl) rfl) _ an_k94 _ (fun x=>run_k94 (std 0) c_k93 c_k120 c_k117 x) P_k94 Q_k94 ?_
  rintro⟨t,a,⟨⟩⟩ ⟨q0,q1,_⟩
  apply w_k94
  all_goals (first | assumption | exact fun a q0=>(ok_k93.1 (a,()) ⟨q0,trivial⟩).1 | exact fun a q0=>(ok_k93.1 (a,()) ⟨q0,trivial⟩).2 | exact fun a t q0 q1 q2=>(ok_k120.1 (a,t,()) ⟨q0,⟨q1,⟨q2,trivial⟩⟩⟩).1 | exact fun a t q0 q1 q2=>(ok_k120.1 (a,t,()) ⟨q0,⟨q1,⟨q2,trivial⟩⟩⟩).2 | exact fun a q0=>(ok_k117.1 (a,()) ⟨q0,trivial⟩).1 | exact fun a q0=>(ok_k117.1 (a,()) ⟨q0,trivial⟩).2)
def P_k106:TupS s_k106.inp→Prop:=fun x=>(fun(b:List Int) (p:Int)=>(Bt b)∧(0≤p)∧(p<400000000)∧True) x.1 x.2.1
def Q_k106:TupS s_k106.inp→TupS s_k106.out→Prop:=fun x y=>(fun(b:List Int) (p:Int) (y:TupS s_k106.out)=>TabD b p 12 y) x.1 x.2.1 y
noncomputable def c_k106:Ct stdCar s_k106:= @mkCt lk_k106 _ (F_k106 (std 0) (c_k101).pre (c_k101).fn (c_k92).pre (c_k92).fn (c_k105).pre (c_k105).fn (c_k91).pre (c_k91).fn (c_k94).pre (c_k94).fn) P_k106 Q_k106
theorem ok_k106:Sp c_k106 P_k106 Q_k106∧TransOK E 52 (ctTrans c_k106):=by
  refine @contract lk_k106 X E hE hX hm _ (hlC ok_k101.2 (hlC ok_k92.2 (hlC ok_k105.2 (hlC ok_k91.2 (hlC ok_k94.2 hlN))))) ord_k106 52 _ _ Tryz.func52 (by kernel_rfl) (enters_of Tryz.func52 (by kernel_rfl) rfl) _ an_k106 _ (fun x=>run_k106 (std 0) c_k101 c_k92 c_k105 c_k91 c_k94 x) P_k106 Q_k106 ?_
  rintro⟨b,p,⟨⟩⟩ ⟨q0,q1,q2,_⟩
  apply w_k106
  all_goals (first | assumption | exact fun n b p q0 q1 q2=>(ok_k101.1 (n,b,p,()) ⟨q0,⟨q1,⟨q2,trivial⟩⟩⟩).1 | exact fun n b p q0 q1 q2=>(ok_k101.1 (n,b,p,()) ⟨q0,⟨q1,⟨q2,trivial⟩⟩⟩).2 | exact fun t op x y q0 q1 q2=>(ok_k92.1 (t,op,x,y,()) ⟨q0,⟨q1,⟨q2,trivial⟩⟩⟩).1 | exact fun t op x y q0 q1 q2=>(ok_k92.1 (t,op,x,y,()) ⟨q0,⟨q1,⟨q2,trivial⟩⟩⟩).2 | exact fun n b p q0 q1 q2 q3=>(ok_k105.1 (n,b,p,()) ⟨q0,⟨q1,⟨q2,⟨q3,trivial⟩⟩⟩⟩).1 | exact fun n b p q0 q1 q2 q3=>(ok_k105.1 (n,b,p,()) ⟨q0,⟨q1,⟨q2,⟨q3,trivial⟩⟩⟩⟩).2 | exact(ok_k91.1 () trivial).1 | exact(ok_k91.1 () trivial).2 | exact fun t a q0 q1=>(ok_k94.1 (t,a,()) ⟨q0,⟨q1,trivial⟩⟩).1 | exact fun t a q0 q1=>(ok_k94.1 (t,a,()) ⟨q0,⟨q1,trivial⟩⟩).2)
def P_k107:TupS s_k107.inp→Prop:=fun x=>(fun(n:Int) (b:List Int) (p:Int)=>(Bt b)∧(0≤p)∧(p<300000000)∧True) x.1 x.2.1 x.2.2.1
def Q_k107:TupS s_k107.inp→TupS s_k107.out→Prop:=fun x y=>(fun(n:Int) (b:List Int) (p:Int) (y:List Int×Int×List Atom×Unit)=>y.1=b∧p≤y.2.1∧y.2.1≤p+20000∧ShT y.2.2.1∧0<y.2.2.1.length) x.1 x.2.1 x.2.2.1 y
noncomputable def c_k107:Ct stdCar s_k107:= @mkCt lk_k107 _ (F_k107 (std 0) (c_k101).pre (c_k101).fn (c_k100).pre (c_k100).fn (c_k83).pre (c_k83).fn (c_k106).pre (c_k106).fn) P_k107 Q_k107
theorem ok_k107:Sp c_k107 P_k107 Q_k107∧TransOK E 23 (ctTrans c_k107):=by
  refine @contract lk_k107 X E hE hX hm _ (hlC ok_k101.2 (hlC ok_k100.2 (hlC ok_k83.2 (hlC ok_k106.2 hlN)))) ord_k107 23 _ _ Tryz.func23 (by kernel_rfl) (enters_of Tryz.func23 (by kernel_rfl) rfl) _ an_k107 _ (fun x=>run_k107 (std 0) c_k101 c_k100 c_k83 c_k106 x) P_k107 Q_k107 ?_
  rintro⟨n,b,p,⟨⟩⟩ ⟨q0,q1,q2,_⟩
  apply w_k107
  all_goals (first | assumption | exact fun n b p q0 q1 q2=>(ok_k101.1 (n,b,p,()) ⟨q0,⟨q1,⟨q2,trivial⟩⟩⟩).1 | exact fun n b p q0 q1 q2=>(ok_k101.1 (n,b,p,()) ⟨q0,⟨q1,⟨q2,trivial⟩⟩⟩).2 | exact fun n b p q0 q1 q2=>(ok_k100.1 (n,b,p,()) ⟨q0,⟨q1,⟨q2,trivial⟩⟩⟩).1 | exact fun n b p q0 q1 q2=>(ok_k100.1 (n,b,p,()) ⟨q0,⟨q1,⟨q2,trivial⟩⟩⟩).2 | exact fun a=>(ok_k83.1 (a,()) trivial).1 | exact fun a=>(ok_k83.1 (a,()) trivial).2 | exact fun b p q0 q1 q2=>(ok_k106.1 (b,p,()) ⟨q0,⟨q1,⟨q2,trivial⟩⟩⟩).1 | exact fun b p q0 q1 q2=>(ok_k106.1 (b,p,()) ⟨q0,⟨q1,⟨q2,trivial⟩⟩⟩).2)
def P_k79:TupS s_k79.inp→Prop:=fun x=>(fun(c:List Int)=>(By c)∧(c.length<1000000000)∧True) x.1
def Q_k79:TupS s_k79.inp→TupS s_k79.out→Prop:=fun x y=>(fun(c:List Int) (y:Int×List Mono×List Mono×List Atom×Unit)=>Sh y.2.1∧Sh y.2.2.1∧ShT y.2.2.2.1∧0<y.2.2.2.1.length) x.1 y
noncomputable def c_k79:Ct stdCar s_k79:= @mkCt lk_k79 _ (F_k79 (std 0) (c_k99).pre (c_k99).fn (c_k101).pre (c_k101).fn (c_k100).pre (c_k100).fn (c_k83).pre (c_k83).fn (c_k84).pre (c_k84).fn (c_k102).pre (c_k102).fn (c_k105).pre (c_k105).fn (c_k107).pre (c_k107).fn) P_k79 Q_k79
theorem ok_k79:Sp c_k79 P_k79 Q_k79∧TransOK E 6 (ctTrans c_k79):=by
  refine @contract lk_k79 X E hE hX hm _ (hlC ok_k99.2 (hlC ok_k101.2 (hlC ok_k100.2 (hlC ok_k83.2 (hlC ok_k84.2 (hlC ok_k102.2 (hlC ok_k105.2 (hlC ok_k107.2 hlN)))))))) ord_k79 6 _ _ Tryz.func6 (by kernel_rfl) (enters_of Tryz.func6 (by kernel_rfl) rfl) _ an_k79 _ (fun x=>run_k79 (std 0) c_k99 c_k101 c_k100 c_k83 c_k84 c_k102 c_k105 c_k107 x) P_k79 Q_k79 ?_
  rintro⟨c,⟨⟩⟩ ⟨q0,q1,_⟩
  apply w_k79
  all_goals (first | assumption | exact fun b q0 q1=>(ok_k99.1 (b,()) ⟨q0,⟨q1,trivial⟩⟩).1 | exact fun b q0 q1=>(ok_k99.1 (b,()) ⟨q0,⟨q1,trivial⟩⟩).2 | exact fun n b p q0 q1 q2=>(ok_k101.1 (n,b,p,()) ⟨q0,⟨q1,⟨q2,trivial⟩⟩⟩).1 | exact fun n b p q0 q1 q2=>(ok_k101.1 (n,b,p,()) ⟨q0,⟨q1,⟨q2,trivial⟩⟩⟩).2 | exact fun n b p q0 q1 q2=>(ok_k100.1 (n,b,p,()) ⟨q0,⟨q1,⟨q2,trivial⟩⟩⟩).1 | exact fun n b p q0 q1 q2=>(ok_k100.1 (n,b,p,()) ⟨q0,⟨q1,⟨q2,trivial⟩⟩⟩).2 | exact fun a=>(ok_k83.1 (a,()) trivial).1 | exact fun a=>(ok_k83.1 (a,()) trivial).2 | exact fun a=>(ok_k84.1 (a,()) trivial).1 | exact fun a=>(ok_k84.1 (a,()) trivial).2 | exact fun b p q0 q1 q2=>(ok_k102.1 (b,p,()) ⟨q0,⟨q1,⟨q2,trivial⟩⟩⟩).1 | exact fun b p q0 q1 q2=>(ok_k102.1 (b,p,()) ⟨q0,⟨q1,⟨q2,trivial⟩⟩⟩).2 | exact fun n b p q0 q1 q2 q3=>(ok_k105.1 (n,b,p,()) ⟨q0,⟨q1,⟨q2,⟨q3,trivial⟩⟩⟩⟩).1 | exact fun n b p q0 q1 q2 q3=>(ok_k105.1 (n,b,p,()) ⟨q0,⟨q1,⟨q2,⟨q3,trivial⟩⟩⟩⟩).2 | exact fun n b p q0 q1 q2=>(ok_k107.1 (n,b,p,()) ⟨q0,⟨q1,⟨q2,trivial⟩⟩⟩).1 | exact fun n b p q0 q1 q2=>(ok_k107.1 (n,b,p,()) ⟨q0,⟨q1,⟨q2,trivial⟩⟩⟩).2)
def P_k34:TupS s_k34.inp→Prop:=fun x=>(fun(a:Int) (b:Int) (c:Int)=>True) x.1 x.2.1 x.2.2.1
def Q_k34:TupS s_k34.inp→TupS s_k34.out→Prop:=fun x y=>(fun(a:Int) (b:Int) (c:Int) (y:TupS s_k34.out)=>y=(inB a b c,())) x.1 x.2.1 x.2.2.1 y
noncomputable def c_k34:Ct stdCar s_k34:= @mkCt lk_k34 _ (F_k34 (std 0)) P_k34 Q_k34
theorem ok_k34:Sp c_k34 P_k34 Q_k34∧TransOK E 38 (ctTrans c_k34):=by
  refine @contract lk_k34 X E hE hX hm _ hlN ord_k34 38 _ _ Tryz.func38 (by kernel_rfl) (enters_of Tryz.func38 (by kernel_rfl) rfl) _ an_k34 _ (fun x=>run_k34 (std 0) x) P_k34 Q_k34 ?_
  rintro⟨a,b,c,⟨⟩⟩ _
  apply w_k34
def P_k35:TupS s_k35.inp→Prop:=fun x=>(fun(a:Int)=>True) x.1
def Q_k35:TupS s_k35.inp→TupS s_k35.out→Prop:=fun x y=>(fun(a:Int) (y:TupS s_k35.out)=>y=(inB a 1 5,())) x.1 y
noncomputable def c_k35:Ct stdCar s_k35:= @mkCt lk_k35 _ (F_k35 (std 0) (c_k34).pre (c_k34).fn) P_k35 Q_k35
theorem ok_k35:Sp c_k35 P_k35 Q_k35∧TransOK E 30 (ctTrans c_k35):=by
  refine @contract lk_k35 X E hE hX hm _ (hlC ok_k34.2 hlN) ord_k35 30 _ _ Tryz.func30 (by kernel_rfl) (enters_of Tryz.func30 (by kernel_rfl) rfl) _ an_k35 _ (fun x=>run_k35 (std 0) c_k34 x) P_k35 Q_k35 ?_
  rintro⟨a,⟨⟩⟩ _
  apply w_k35
  all_goals (first | assumption | exact fun a b c=>(ok_k34.1 (a,b,c,()) trivial).1 | exact fun a b c=>(ok_k34.1 (a,b,c,()) trivial).2)
def P_k15:TupS s_k15.inp→Prop:=fun x=>(fun(a:Int) (n:Int)=>True) x.1 x.2.1
def Q_k15:TupS s_k15.inp→TupS s_k15.out→Prop:=fun x y=>(fun(a:Int) (n:Int) (y:TupS s_k15.out)=>y=(decide (n≤a),n,())) x.1 x.2.1 y
noncomputable def c_k15:Ct stdCar s_k15:= @mkCt lk_k15 _ (F_k15 (std 0)) P_k15 Q_k15
theorem ok_k15:Sp c_k15 P_k15 Q_k15∧TransOK E 60 (ctTrans c_k15):=by
  refine @contract lk_k15 X E hE hX hm _ hlN ord_k15 60 _ _ Tryz.func60 (by kernel_rfl) (enters_of Tryz.func60 (by kernel_rfl) rfl) _ an_k15 _ (fun x=>run_k15 (std 0) x) P_k15 Q_k15 ?_
  rintro⟨a,n,⟨⟩⟩ _
  apply w_k15
def P_k61:TupS s_k61.inp→Prop:=fun x=>(fun(a:List Int) (n:Int)=>(a.length<1000000000)∧True) x.1 x.2.1
def Q_k61:TupS s_k61.inp→TupS s_k61.out→Prop:=fun x y=>(fun(a:List Int) (n:Int) (y:TupS s_k61.out)=>Idx a.length (fun i=>n≤a.getD i.toNat default) y.1∧y.2.1=n) x.1 x.2.1 y
noncomputable def c_k61:Ct stdCar s_k61:= @mkCt lk_k61 _ (F_k61 (std 0) (c_k15).pre (c_k15).fn) P_k61 Q_k61
theorem ok_k61:Sp c_k61 P_k61 Q_k61∧TransOK E 90 (ctTrans c_k61):=by
  refine @contract lk_k61 X E hE hX hm _ (hlC ok_k15.2 hlN) ord_k61 90 _ _ Tryz.func90 (by kernel_rfl) (enters_of Tryz.func90 (by kernel_rfl) rfl) _ an_k61 _ (fun x=>run_k61 (std 0) c_k15 x) P_k61 Q_k61 ?_
  rintro⟨a,n,⟨⟩⟩ ⟨q0,_⟩
  apply w_k61
  all_goals (first | assumption | exact fun a n=>(ok_k15.1 (a,n,()) trivial).1 | exact fun a n=>(ok_k15.1 (a,n,()) trivial).2)
def P_k56:TupS s_k56.inp→Prop:=fun x=>(fun(a:List Int) (n:Int)=>(a.length<1000000000)∧True) x.1 x.2.1
def Q_k56:TupS s_k56.inp→TupS s_k56.out→Prop:=fun x y=>(fun(a:List Int) (n:Int) (y:TupS s_k56.out)=>y=(bp (¬All a.length (fun i=>¬n≤a.getD i.toNat default)),n,())) x.1 x.2.1 y
noncomputable def c_k56:Ct stdCar s_k56:= @mkCt lk_k56 _ (F_k56 (std 0) (c_k61).pre (c_k61).fn) P_k56 Q_k56
theorem ok_k56:Sp c_k56 P_k56 Q_k56∧TransOK E 59 (ctTrans c_k56):=by
  refine @contract lk_k56 X E hE hX hm _ (hlC ok_k61.2 hlN) ord_k56 59 _ _ Tryz.func59 (by kernel_rfl) (enters_of Tryz.func59 (by kernel_rfl) rfl) _ an_k56 _ (fun x=>run_k56 (std 0) c_k61 x) P_k56 Q_k56 ?_
  rintro⟨a,n,⟨⟩⟩ ⟨q0,_⟩
  apply w_k56
  all_goals (first | assumption | exact fun a n q0=>(ok_k61.1 (a,n,()) ⟨q0,trivial⟩).1 | exact fun a n q0=>(ok_k61.1 (a,n,()) ⟨q0,trivial⟩).2)
def P_k14:TupS s_k14.inp→Prop:=fun x=>(fun(a:List Mono) (n:Int)=>(Sh a)∧True) x.1 x.2.1
def Q_k14:TupS s_k14.inp→TupS s_k14.out→Prop:=fun x y=>(fun(a:List Mono) (n:Int) (y:TupS s_k14.out)=>y=(bp (pUnder a n),())) x.1 x.2.1 y
noncomputable def c_k14:Ct stdCar s_k14:= @mkCt lk_k14 _ (F_k14 (std 0) (c_k56).pre (c_k56).fn) P_k14 Q_k14
theorem ok_k14:Sp c_k14 P_k14 Q_k14∧TransOK E 32 (ctTrans c_k14):=by
  refine @contract lk_k14 X E hE hX hm _ (hlC ok_k56.2 hlN) ord_k14 32 _ _ Tryz.func32 (by kernel_rfl) (enters_of Tryz.func32 (by kernel_rfl) rfl) _ an_k14 _ (fun x=>run_k14 (std 0) c_k56 x) P_k14 Q_k14 ?_
  rintro⟨a,n,⟨⟩⟩ ⟨q0,_⟩
  apply w_k14
  all_goals (first | assumption | exact fun a n q0=>(ok_k56.1 (a,n,()) ⟨q0,trivial⟩).1 | exact fun a n q0=>(ok_k56.1 (a,n,()) ⟨q0,trivial⟩).2)
def P_k3:TupS s_k3.inp→Prop:=fun x=>(fun(a:Int)=>True) x.1
def Q_k3:TupS s_k3.inp→TupS s_k3.out→Prop:=fun x y=>(fun(a:Int) (y:TupS s_k3.out)=>y=(false,())) x.1 y
noncomputable def c_k3:Ct stdCar s_k3:= @mkCt lk_k3 _ (F_k3 (std 0)) P_k3 Q_k3
theorem ok_k3:Sp c_k3 P_k3 Q_k3∧TransOK E 104 (ctTrans c_k3):=by
  refine @contract lk_k3 X E hE hX hm _ hlN ord_k3 104 _ _ Tryz.func104 (by kernel_rfl) (enters_of Tryz.func104 (by kernel_rfl) rfl) _ an_k3 _ (fun x=>run_k3 (std 0) x) P_k3 Q_k3 ?_
  rintro⟨a,⟨⟩⟩ _
  apply w_k3
def P_k1:TupS s_k1.inp→Prop:=fun x=>(fun(a:Int) (b:Int)=>True) x.1 x.2.1
def Q_k1:TupS s_k1.inp→TupS s_k1.out→Prop:=fun x y=>(fun(a:Int) (b:Int) (y:TupS s_k1.out)=>y=(decide (a<b),())) x.1 x.2.1 y
noncomputable def c_k1:Ct stdCar s_k1:= @mkCt lk_k1 _ (F_k1 (std 0) (c_k3).pre (c_k3).fn) P_k1 Q_k1
theorem ok_k1:Sp c_k1 P_k1 Q_k1∧TransOK E 85 (ctTrans c_k1):=by
  refine @contract lk_k1 X E hE hX hm _ (hlC ok_k3.2 hlN) ord_k1 85 _ _ Tryz.func85 (by kernel_rfl) (enters_of Tryz.func85 (by kernel_rfl) rfl) _ an_k1 _ (fun x=>run_k1 (std 0) c_k3 x) P_k1 Q_k1 ?_
  rintro⟨a,b,⟨⟩⟩ _
  apply w_k1
  all_goals (first | assumption | exact fun a=>(ok_k3.1 (a,()) trivial).1 | exact fun a=>(ok_k3.1 (a,()) trivial).2)
def P_k62:TupS s_k62.inp→Prop:=fun x=>(fun(a:List Int)=>(a.length<1000000000)∧True) x.1
def Q_k62:TupS s_k62.inp→TupS s_k62.out→Prop:=fun x y=>(fun(a:List Int) (y:TupS s_k62.out)=>y=(bp (Srt a),())) x.1 y
noncomputable def c_k62:Ct stdCar s_k62:= @mkCt lk_k62 _ (F_k62 (std 0) (c_k1).pre (c_k1).fn) P_k62 Q_k62
theorem ok_k62:Sp c_k62 P_k62 Q_k62∧TransOK E 55 (ctTrans c_k62):=by
  refine @contract lk_k62 X E hE hX hm _ (hlC ok_k1.2 hlN) ord_k62 55 _ _ Tryz.func55 (by kernel_rfl) (enters_of Tryz.func55 (by kernel_rfl) rfl) _ an_k62 _ (fun x=>run_k62 (std 0) c_k1 x) P_k62 Q_k62 ?_
  rintro⟨a,⟨⟩⟩ ⟨q0,_⟩
  apply w_k62
  all_goals (first | assumption | exact fun a b=>(ok_k1.1 (a,b,()) trivial).1 | exact fun a b=>(ok_k1.1 (a,b,()) trivial).2)
def P_k2:TupS s_k2.inp→Prop:=fun x=>∃(a:Int) (b:Int),x.1=[a,b]∧True
def Q_k2:TupS s_k2.inp→TupS s_k2.out→Prop:=fun x y=>(fun(a:Int) (b:Int) (y:TupS s_k2.out)=>y=(or2 a b,())) (x.1.getD 0 default) (x.1.getD 1 default) y
noncomputable def c_k2:Ct stdCar s_k2:= @mkCt lk_k2 _ (F_k2 (std 0)) P_k2 Q_k2
theorem ok_k2:Sp c_k2 P_k2 Q_k2∧TransOK E 86 (ctTrans c_k2):=by
  refine @contract lk_k2 X E hE hX hm _ hlN ord_k2 86 _ _ Tryz.func86 (by kernel_rfl) (enters_of Tryz.func86 (by kernel_rfl) rfl) _ an_k2 _ (fun x=>run_k2 (std 0) x) P_k2 Q_k2 ?_
  rintro⟨x,⟨⟩⟩ ⟨a,b,hx,_⟩
  dsimp only at hx;subst hx
  apply w_k2
def P_k0:TupS s_k0.inp→Prop:=fun x=>(fun(a:Int) (b:Int)=>True) x.1 x.2.1
def Q_k0:TupS s_k0.inp→TupS s_k0.out→Prop:=fun x y=>(fun(a:Int) (b:Int) (y:TupS s_k0.out)=>y=(cmpI a b,())) x.1 x.2.1 y
noncomputable def c_k0:Ct stdCar s_k0:= @mkCt lk_k0 _ (F_k0 (std 0) (c_k3).pre (c_k3).fn) P_k0 Q_k0
theorem ok_k0:Sp c_k0 P_k0 Q_k0∧TransOK E 87 (ctTrans c_k0):=by
  refine @contract lk_k0 X E hE hX hm _ (hlC ok_k3.2 hlN) ord_k0 87 _ _ Tryz.func87 (by kernel_rfl) (enters_of Tryz.func87 (by kernel_rfl) rfl) _ an_k0 _ (fun x=>run_k0 (std 0) c_k3 x) P_k0 Q_k0 ?_
  rintro⟨a,b,⟨⟩⟩ _
  apply w_k0
  all_goals (first | assumption | exact fun a=>(ok_k3.1 (a,()) trivial).1 | exact fun a=>(ok_k3.1 (a,()) trivial).2)
def P_k52:TupS s_k52.inp→Prop:=fun x=>(fun(a:List Int) (b:List Int)=>(a.length<1000000000)∧True) x.1 x.2.1
def Q_k52:TupS s_k52.inp→TupS s_k52.out→Prop:=fun x y=>(fun(a:List Int) (b:List Int) (y:TupS s_k52.out)=>y=(lexI a b,())) x.1 x.2.1 y
noncomputable def c_k52:Ct stdCar s_k52:= @mkCt lk_k52 _ (F_k52 (std 0) (c_k0).pre (c_k0).fn) P_k52 Q_k52
theorem ok_k52:Sp c_k52 P_k52 Q_k52∧TransOK E 88 (ctTrans c_k52):=by
  refine @contract lk_k52 X E hE hX hm _ (hlC ok_k0.2 hlN) ord_k52 88 _ _ Tryz.func88 (by kernel_rfl) (enters_of Tryz.func88 (by kernel_rfl) rfl) _ an_k52 _ (fun x=>run_k52 (std 0) c_k0 x) P_k52 Q_k52 ?_
  rintro⟨a,b,⟨⟩⟩ ⟨q0,_⟩
  apply w_k52
  all_goals (first | assumption | exact fun a b=>(ok_k0.1 (a,b,()) trivial).1 | exact fun a b=>(ok_k0.1 (a,b,()) trivial).2)
def P_k32:TupS s_k32.inp→Prop:=fun x=>(fun(a:List Int) (b:List Int)=>(a.length<1000000000)∧True) x.1 x.2.1
def Q_k32:TupS s_k32.inp→TupS s_k32.out→Prop:=fun x y=>(fun(a:List Int) (b:List Int) (y:TupS s_k32.out)=>y=(aOrd a b,())) x.1 x.2.1 y
noncomputable def c_k32:Ct stdCar s_k32:= @mkCt lk_k32 _ (F_k32 (std 0) (c_k2).pre (c_k2).fn (c_k0).pre (c_k0).fn (c_k52).pre (c_k52).fn) P_k32 Q_k32
theorem ok_k32:Sp c_k32 P_k32 Q_k32∧TransOK E 56 (ctTrans c_k32):=by
  refine @contract lk_k32 X E hE hX hm _ (hlC ok_k2.2 (hlC ok_k0.2 (hlC ok_k52.2 hlN))) ord_k32 56 _ _ Tryz.func56 (by kernel_rfl) (enters_of Tryz.func56 (by kernel_rfl) rfl) _ an_k32 _ (fun x=>run_k32 (std 0) c_k2 c_k0 c_k52 x) P_k32 Q_k32 ?_
  rintro⟨a,b,⟨⟩⟩ ⟨q0,_⟩
  apply w_k32
  all_goals (first | assumption | exact fun a b=>(ok_k2.1 ([a,b],()) ⟨a,b,rfl,trivial⟩).1 | exact fun a b=>(ok_k2.1 ([a,b],()) ⟨a,b,rfl,trivial⟩).2 | exact fun a b=>(ok_k0.1 (a,b,()) trivial).1 | exact fun a b=>(ok_k0.1 (a,b,()) trivial).2 | exact fun a b q0=>(ok_k52.1 (a,b,()) ⟨q0,trivial⟩).1 | exact fun a b q0=>(ok_k52.1 (a,b,()) ⟨q0,trivial⟩).2)
def P_k11:TupS s_k11.inp→Prop:=fun x=>(fun(m:Mono)=>True) x.1
def Q_k11:TupS s_k11.inp→TupS s_k11.out→Prop:=fun x y=>(fun(m:Mono) (y:TupS s_k11.out)=>y=(bp (0<m.atoms.length∧m.atoms.getD 0 default<0),())) x.1 y
noncomputable def c_k11:Ct stdCar s_k11:= @mkCt lk_k11 _ (F_k11 (std 0)) P_k11 Q_k11
theorem ok_k11:Sp c_k11 P_k11 Q_k11∧TransOK E 58 (ctTrans c_k11):=by
  refine @contract lk_k11 X E hE hX hm _ hlN ord_k11 58 _ _ Tryz.func58 (by kernel_rfl) (enters_of Tryz.func58 (by kernel_rfl) rfl) _ an_k11 _ (fun x=>run_k11 (std 0) x) P_k11 Q_k11 ?_
  rintro⟨m,⟨⟩⟩ _
  apply w_k11
def P_k60:TupS s_k60.inp→Prop:=fun x=>(fun(a:List Mono)=>(a.length<1000000000)∧True) x.1
def Q_k60:TupS s_k60.inp→TupS s_k60.out→Prop:=fun x y=>(fun(a:List Mono) (y:TupS s_k60.out)=>Idx a.length (fun i=>(fun m:Mono=>0<m.atoms.length∧m.atoms.getD 0 default<0) (a.getD i.toNat default)) y.1) x.1 y
noncomputable def c_k60:Ct stdCar s_k60:= @mkCt lk_k60 _ (F_k60 (std 0) (c_k11).pre (c_k11).fn) P_k60 Q_k60
theorem ok_k60:Sp c_k60 P_k60 Q_k60∧TransOK E 89 (ctTrans c_k60):=by
  refine @contract lk_k60 X E hE hX hm _ (hlC ok_k11.2 hlN) ord_k60 89 _ _ Tryz.func89 (by kernel_rfl) (enters_of Tryz.func89 (by kernel_rfl) rfl) _ an_k60 _ (fun x=>run_k60 (std 0) c_k11 x) P_k60 Q_k60 ?_
  rintro⟨a,⟨⟩⟩ ⟨q0,_⟩
  apply w_k60 (G:=(fun m:Mono=>0<m.atoms.length∧m.atoms.getD 0 default<0))
  all_goals (first | assumption | exact fun m=>(ok_k11.1 (m,()) trivial).1 | exact fun m=>(ok_k11.1 (m,()) trivial).2)
def P_k55:TupS s_k55.inp→Prop:=fun x=>(fun(a:List Mono)=>(a.length<1000000000)∧True) x.1
def Q_k55:TupS s_k55.inp→TupS s_k55.out→Prop:=fun x y=>(fun(a:List Mono) (y:TupS s_k55.out)=>y=(bp (¬All a.length (fun i=>¬(fun m:Mono=>0<m.atoms.length∧m.atoms.getD 0 default<0) (a.getD i.toNat default))),())) x.1 y
noncomputable def c_k55:Ct stdCar s_k55:= @mkCt lk_k55 _ (F_k55 (std 0) (c_k60).pre (c_k60).fn) P_k55 Q_k55
theorem ok_k55:Sp c_k55 P_k55 Q_k55∧TransOK E 57 (ctTrans c_k55):=by
  refine @contract lk_k55 X E hE hX hm _ (hlC ok_k60.2 hlN) ord_k55 57 _ _ Tryz.func57 (by kernel_rfl) (enters_of Tryz.func57 (by kernel_rfl) rfl) _ an_k55 _ (fun x=>run_k55 (std 0) c_k60 x) P_k55 Q_k55 ?_
  rintro⟨a,⟨⟩⟩ ⟨q0,_⟩
  apply w_k55 (G:=(fun m:Mono=>0<m.atoms.length∧m.atoms.getD 0 default<0))
  all_goals (first | assumption | exact fun a q0=>(ok_k60.1 (a,()) ⟨q0,trivial⟩).1 | exact fun a q0=>(ok_k60.1 (a,()) ⟨q0,trivial⟩).2)
def P_k10:TupS s_k10.inp→Prop:=fun x=>(fun(a:List Mono)=>(Sh a)∧True) x.1
def Q_k10:TupS s_k10.inp→TupS s_k10.out→Prop:=fun x y=>(fun(a:List Mono) (y:TupS s_k10.out)=>y=(bp (PolOK a),())) x.1 y
noncomputable def c_k10:Ct stdCar s_k10:= @mkCt lk_k10 _ (F_k10 (std 0) (c_k34).pre (c_k34).fn (c_k14).pre (c_k14).fn (c_k62).pre (c_k62).fn (c_k32).pre (c_k32).fn (c_k55).pre (c_k55).fn) P_k10 Q_k10
theorem ok_k10:Sp c_k10 P_k10 Q_k10∧TransOK E 31 (ctTrans c_k10):=by
  refine @contract lk_k10 X E hE hX hm _ (hlC ok_k34.2 (hlC ok_k14.2 (hlC ok_k62.2 (hlC ok_k32.2 (hlC ok_k55.2 hlN))))) ord_k10 31 _ _ Tryz.func31 (by kernel_rfl) (enters_of Tryz.func31 (by kernel_rfl) rfl) _ an_k10 _ (fun x=>run_k10 (std 0) c_k34 c_k14 c_k62 c_k32 c_k55 x) P_k10 Q_k10 ?_
  rintro⟨a,⟨⟩⟩ ⟨q0,_⟩
  apply w_k10
  all_goals (first | assumption | exact fun a b c=>(ok_k34.1 (a,b,c,()) trivial).1 | exact fun a b c=>(ok_k34.1 (a,b,c,()) trivial).2 | exact fun a n q0=>(ok_k14.1 (a,n,()) ⟨q0,trivial⟩).1 | exact fun a n q0=>(ok_k14.1 (a,n,()) ⟨q0,trivial⟩).2 | exact fun a q0=>(ok_k62.1 (a,()) ⟨q0,trivial⟩).1 | exact fun a q0=>(ok_k62.1 (a,()) ⟨q0,trivial⟩).2 | exact fun a b q0=>(ok_k32.1 (a,b,()) ⟨q0,trivial⟩).1 | exact fun a b q0=>(ok_k32.1 (a,b,()) ⟨q0,trivial⟩).2 | exact fun a q0=>(ok_k55.1 (a,()) ⟨q0,trivial⟩).1 | exact fun a q0=>(ok_k55.1 (a,()) ⟨q0,trivial⟩).2)
def P_k36:TupS s_k36.inp→Prop:=fun x=>(fun(a:Int)=>True) x.1
def Q_k36:TupS s_k36.inp→TupS s_k36.out→Prop:=fun x y=>(fun(a:Int) (y:TupS s_k36.out)=>y=(inB a 0 3,())) x.1 y
noncomputable def c_k36:Ct stdCar s_k36:= @mkCt lk_k36 _ (F_k36 (std 0) (c_k34).pre (c_k34).fn) P_k36 Q_k36
theorem ok_k36:Sp c_k36 P_k36 Q_k36∧TransOK E 76 (ctTrans c_k36):=by
  refine @contract lk_k36 X E hE hX hm _ (hlC ok_k34.2 hlN) ord_k36 76 _ _ Tryz.func76 (by kernel_rfl) (enters_of Tryz.func76 (by kernel_rfl) rfl) _ an_k36 _ (fun x=>run_k36 (std 0) c_k34 x) P_k36 Q_k36 ?_
  rintro⟨a,⟨⟩⟩ _
  apply w_k36
  all_goals (first | assumption | exact fun a b c=>(ok_k34.1 (a,b,c,()) trivial).1 | exact fun a b c=>(ok_k34.1 (a,b,c,()) trivial).2)
def P_k16:TupS s_k16.inp→Prop:=fun x=>(fun(a:Atom) (n:Int)=>(ShA a)∧True) x.1 x.2.1
def Q_k16:TupS s_k16.inp→TupS s_k16.out→Prop:=fun x y=>(fun(a:Atom) (n:Int) (y:TupS s_k16.out)=>y=(bp (aDefd a n),())) x.1 x.2.1 y
noncomputable def c_k16:Ct stdCar s_k16:= @mkCt lk_k16 _ (F_k16 (std 0) (c_k34).pre (c_k34).fn (c_k35).pre (c_k35).fn (c_k14).pre (c_k14).fn (c_k10).pre (c_k10).fn (c_k36).pre (c_k36).fn) P_k16 Q_k16
theorem ok_k16:Sp c_k16 P_k16 Q_k16∧TransOK E 50 (ctTrans c_k16):=by
  refine @contract lk_k16 X E hE hX hm _ (hlC ok_k34.2 (hlC ok_k35.2 (hlC ok_k14.2 (hlC ok_k10.2 (hlC ok_k36.2 hlN))))) ord_k16 50 _ _ Tryz.func50 (by kernel_rfl) (enters_of Tryz.func50 (by kernel_rfl) rfl) _ an_k16 _ (fun x=>run_k16 (std 0) c_k34 c_k35 c_k14 c_k10 c_k36 x) P_k16 Q_k16 ?_
  rintro⟨a,n,⟨⟩⟩ ⟨q0,_⟩
  apply w_k16
  all_goals (first | assumption | exact fun a b c=>(ok_k34.1 (a,b,c,()) trivial).1 | exact fun a b c=>(ok_k34.1 (a,b,c,()) trivial).2 | exact fun a=>(ok_k35.1 (a,()) trivial).1 | exact fun a=>(ok_k35.1 (a,()) trivial).2 | exact fun a n q0=>(ok_k14.1 (a,n,()) ⟨q0,trivial⟩).1 | exact fun a n q0=>(ok_k14.1 (a,n,()) ⟨q0,trivial⟩).2 | exact fun a q0=>(ok_k10.1 (a,()) ⟨q0,trivial⟩).1 | exact fun a q0=>(ok_k10.1 (a,()) ⟨q0,trivial⟩).2 | exact fun a=>(ok_k36.1 (a,()) trivial).1 | exact fun a=>(ok_k36.1 (a,()) trivial).2)
def P_k12:TupS s_k12.inp→Prop:=fun x=>(fun(a:List Mono) (b:List Mono)=>(Sh a)∧True) x.1 x.2.1
def Q_k12:TupS s_k12.inp→TupS s_k12.out→Prop:=fun x y=>(fun(a:List Mono) (b:List Mono) (y:TupS s_k12.out)=>y=(pOrd a b,())) x.1 x.2.1 y
noncomputable def c_k12:Ct stdCar s_k12:= @mkCt lk_k12 _ (F_k12 (std 0) (c_k2).pre (c_k2).fn (c_k0).pre (c_k0).fn (c_k32).pre (c_k32).fn) P_k12 Q_k12
theorem ok_k12:Sp c_k12 P_k12 Q_k12∧TransOK E 62 (ctTrans c_k12):=by
  refine @contract lk_k12 X E hE hX hm _ (hlC ok_k2.2 (hlC ok_k0.2 (hlC ok_k32.2 hlN))) ord_k12 62 _ _ Tryz.func62 (by kernel_rfl) (enters_of Tryz.func62 (by kernel_rfl) rfl) _ an_k12 _ (fun x=>run_k12 (std 0) c_k2 c_k0 c_k32 x) P_k12 Q_k12 ?_
  rintro⟨a,b,⟨⟩⟩ ⟨q0,_⟩
  apply w_k12
  all_goals (first | assumption | exact fun a b=>(ok_k2.1 ([a,b],()) ⟨a,b,rfl,trivial⟩).1 | exact fun a b=>(ok_k2.1 ([a,b],()) ⟨a,b,rfl,trivial⟩).2 | exact fun a b=>(ok_k0.1 (a,b,()) trivial).1 | exact fun a b=>(ok_k0.1 (a,b,()) trivial).2 | exact fun a b q0=>(ok_k32.1 (a,b,()) ⟨q0,trivial⟩).1 | exact fun a b q0=>(ok_k32.1 (a,b,()) ⟨q0,trivial⟩).2)
def P_k28:TupS s_k28.inp→Prop:=fun x=>(fun(a:List Mono) (b:List Mono)=>(Sh a)∧True) x.1 x.2.1
def Q_k28:TupS s_k28.inp→TupS s_k28.out→Prop:=fun x y=>(fun(a:List Mono) (b:List Mono) (y:TupS s_k28.out)=>y=(decide (pOrd a b=0),())) x.1 x.2.1 y
noncomputable def c_k28:Ct stdCar s_k28:= @mkCt lk_k28 _ (F_k28 (std 0) (c_k12).pre (c_k12).fn) P_k28 Q_k28
theorem ok_k28:Sp c_k28 P_k28 Q_k28∧TransOK E 95 (ctTrans c_k28):=by
  refine @contract lk_k28 X E hE hX hm _ (hlC ok_k12.2 hlN) ord_k28 95 _ _ Tryz.func95 (by kernel_rfl) (enters_of Tryz.func95 (by kernel_rfl) rfl) _ an_k28 _ (fun x=>run_k28 (std 0) c_k12 x) P_k28 Q_k28 ?_
  rintro⟨a,b,⟨⟩⟩ ⟨q0,_⟩
  apply w_k28
  all_goals (first | assumption | exact fun a b q0=>(ok_k12.1 (a,b,()) ⟨q0,trivial⟩).1 | exact fun a b q0=>(ok_k12.1 (a,b,()) ⟨q0,trivial⟩).2)
def P_k17:TupS s_k17.inp→Prop:=fun x=>(fun(a:Atom) (b:Atom)=>(ShA a)∧True) x.1 x.2.1
def Q_k17:TupS s_k17.inp→TupS s_k17.out→Prop:=fun x y=>(fun(a:Atom) (b:Atom) (y:TupS s_k17.out)=>y=(aSame a b,())) x.1 x.2.1 y
noncomputable def c_k17:Ct stdCar s_k17:= @mkCt lk_k17 _ (F_k17 (std 0) (c_k28).pre (c_k28).fn) P_k17 Q_k17
theorem ok_k17:Sp c_k17 P_k17 Q_k17∧TransOK E 79 (ctTrans c_k17):=by
  refine @contract lk_k17 X E hE hX hm _ (hlC ok_k28.2 hlN) ord_k17 79 _ _ Tryz.func79 (by kernel_rfl) (enters_of Tryz.func79 (by kernel_rfl) rfl) _ an_k17 _ (fun x=>run_k17 (std 0) c_k28 x) P_k17 Q_k17 ?_
  rintro⟨a,b,⟨⟩⟩ ⟨q0,_⟩
  apply w_k17
  all_goals (first | assumption | exact fun a b q0=>(ok_k28.1 (a,b,()) ⟨q0,trivial⟩).1 | exact fun a b q0=>(ok_k28.1 (a,b,()) ⟨q0,trivial⟩).2)
def P_k23:TupS s_k23.inp→Prop:=fun x=>(fun(a:Atom) (b:Atom)=>(ShA b)∧True) x.1 x.2.1
def Q_k23:TupS s_k23.inp→TupS s_k23.out→Prop:=fun x y=>(fun(a:Atom) (b:Atom) (y:TupS s_k23.out)=>y=(aSame b a,b,())) x.1 x.2.1 y
noncomputable def c_k23:Ct stdCar s_k23:= @mkCt lk_k23 _ (F_k23 (std 0) (c_k17).pre (c_k17).fn) P_k23 Q_k23
theorem ok_k23:Sp c_k23 P_k23 Q_k23∧TransOK E 78 (ctTrans c_k23):=by
  refine @contract lk_k23 X E hE hX hm _ (hlC ok_k17.2 hlN) ord_k23 78 _ _ Tryz.func78 (by kernel_rfl) (enters_of Tryz.func78 (by kernel_rfl) rfl) _ an_k23 _ (fun x=>run_k23 (std 0) c_k17 x) P_k23 Q_k23 ?_
  rintro⟨a,b,⟨⟩⟩ ⟨q0,_⟩
  apply w_k23
  all_goals (first | assumption | exact fun a b q0=>(ok_k17.1 (a,b,()) ⟨q0,trivial⟩).1 | exact fun a b q0=>(ok_k17.1 (a,b,()) ⟨q0,trivial⟩).2)
def P_k59:TupS s_k59.inp→Prop:=fun x=>(fun(a:List Atom) (b:Atom)=>(a.length<1000000000)∧(ShA b)∧True) x.1 x.2.1
def Q_k59:TupS s_k59.inp→TupS s_k59.out→Prop:=fun x y=>(fun(a:List Atom) (b:Atom) (y:TupS s_k59.out)=>y=(idxOf a.length (fun i=>aSame b (a.getD i.toNat default)=true),b,())) x.1 x.2.1 y
noncomputable def c_k59:Ct stdCar s_k59:= @mkCt lk_k59 _ (F_k59 (std 0) (c_k23).pre (c_k23).fn) P_k59 Q_k59
theorem ok_k59:Sp c_k59 P_k59 Q_k59∧TransOK E 77 (ctTrans c_k59):=by
  refine @contract lk_k59 X E hE hX hm _ (hlC ok_k23.2 hlN) ord_k59 77 _ _ Tryz.func77 (by kernel_rfl) (enters_of Tryz.func77 (by kernel_rfl) rfl) _ an_k59 _ (fun x=>run_k59 (std 0) c_k23 x) P_k59 Q_k59 ?_
  rintro⟨a,b,⟨⟩⟩ ⟨q0,q1,_⟩
  apply w_k59
  all_goals (first | assumption | exact fun a b q0=>(ok_k23.1 (a,b,()) ⟨q0,trivial⟩).1 | exact fun a b q0=>(ok_k23.1 (a,b,()) ⟨q0,trivial⟩).2)
end Go.TX.F
namespace Go.TX.F
open Go Go.AE Go.TX Go.TX.Seat Go.Proofs
set_option maxRecDepth 100000
def P_k22:TupS s_k22.inp→Prop:=fun x=>(fun(a:List Atom) (b:Atom)=>(a.length<1000000000)∧(ShA b)∧True) x.1 x.2.1
def Q_k22:TupS s_k22.inp→TupS s_k22.out→Prop:=fun x y=>(fun(a:List Atom) (b:Atom) (y:TupS s_k22.out)=>y=(tFind a b,())) x.1 x.2.1 y
noncomputable def c_k22:Ct stdCar s_k22:= @mkCt lk_k22 _ (F_k22 (std 0) (c_k59).pre (c_k59).fn) P_k22 Q_k22
theorem ok_k22:Sp c_k22 P_k22 Q_k22∧TransOK E 51 (ctTrans c_k22):=by
  refine @contract lk_k22 X E hE hX hm _ (hlC ok_k59.2 hlN) ord_k22 51 _ _ Tryz.func51 (by kernel_rfl) (enters_of Tryz.func51 (by kernel_rfl) rfl) _ an_k22 _ (fun x=>run_k22 (std 0) c_k59 x) P_k22 Q_k22 ?_
  rintro⟨a,b,⟨⟩⟩ ⟨q0,q1,_⟩
  apply w_k22
  all_goals (first | assumption | exact fun a b q0 q1=>(ok_k59.1 (a,b,()) ⟨q0,⟨q1,trivial⟩⟩).1 | exact fun a b q0 q1=>(ok_k59.1 (a,b,()) ⟨q0,⟨q1,trivial⟩⟩).2)
def P_k19:TupS s_k19.inp→Prop:=fun x=>(fun(a:List Atom)=>(ShT a)∧True) x.1
def Q_k19:TupS s_k19.inp→TupS s_k19.out→Prop:=fun x y=>(fun(a:List Atom) (y:TupS s_k19.out)=>y=(bp (TabOK a),())) x.1 y
noncomputable def c_k19:Ct stdCar s_k19:= @mkCt lk_k19 _ (F_k19 (std 0) (c_k16).pre (c_k16).fn (c_k22).pre (c_k22).fn) P_k19 Q_k19
theorem ok_k19:Sp c_k19 P_k19 Q_k19∧TransOK E 19 (ctTrans c_k19):=by
  refine @contract lk_k19 X E hE hX hm _ (hlC ok_k16.2 (hlC ok_k22.2 hlN)) ord_k19 19 _ _ Tryz.func19 (by kernel_rfl) (enters_of Tryz.func19 (by kernel_rfl) rfl) _ an_k19 _ (fun x=>run_k19 (std 0) c_k16 c_k22 x) P_k19 Q_k19 ?_
  rintro⟨a,⟨⟩⟩ ⟨q0,_⟩
  apply w_k19
  all_goals (first | assumption | exact fun a n q0=>(ok_k16.1 (a,n,()) ⟨q0,trivial⟩).1 | exact fun a n q0=>(ok_k16.1 (a,n,()) ⟨q0,trivial⟩).2 | exact fun a b q0 q1=>(ok_k22.1 (a,b,()) ⟨q0,⟨q1,trivial⟩⟩).1 | exact fun a b q0 q1=>(ok_k22.1 (a,b,()) ⟨q0,⟨q1,trivial⟩⟩).2)
def P_k6:TupS s_k6.inp→Prop:=fun x=>(fun(a:Int)=>True) x.1
def Q_k6:TupS s_k6.inp→TupS s_k6.out→Prop:=fun x y=>(fun(a:Int) (y:TupS s_k6.out)=>y=(pConst a,())) x.1 y
noncomputable def c_k6:Ct stdCar s_k6:= @mkCt lk_k6 _ (F_k6 (std 0) (c_k34).pre (c_k34).fn) P_k6 Q_k6
theorem ok_k6:Sp c_k6 P_k6 Q_k6∧TransOK E 13 (ctTrans c_k6):=by
  refine @contract lk_k6 X E hE hX hm _ (hlC ok_k34.2 hlN) ord_k6 13 _ _ Tryz.func13 (by kernel_rfl) (enters_of Tryz.func13 (by kernel_rfl) rfl) _ an_k6 _ (fun x=>run_k6 (std 0) c_k34 x) P_k6 Q_k6 ?_
  rintro⟨a,⟨⟩⟩ _
  apply w_k6
  all_goals (first | assumption | exact fun a b c=>(ok_k34.1 (a,b,c,()) trivial).1 | exact fun a b c=>(ok_k34.1 (a,b,c,()) trivial).2)
def P_k30:TupS s_k30.inp→Prop:=fun x=>(fun(a:Int)=>True) x.1
def Q_k30:TupS s_k30.inp→TupS s_k30.out→Prop:=fun x y=>(fun(a:Int) (y:TupS s_k30.out)=>y=(inB a 0 65535,())) x.1 y
noncomputable def c_k30:Ct stdCar s_k30:= @mkCt lk_k30 _ (F_k30 (std 0) (c_k34).pre (c_k34).fn) P_k30 Q_k30
theorem ok_k30:Sp c_k30 P_k30 Q_k30∧TransOK E 36 (ctTrans c_k30):=by
  refine @contract lk_k30 X E hE hX hm _ (hlC ok_k34.2 hlN) ord_k30 36 _ _ Tryz.func36 (by kernel_rfl) (enters_of Tryz.func36 (by kernel_rfl) rfl) _ an_k30 _ (fun x=>run_k30 (std 0) c_k34 x) P_k30 Q_k30 ?_
  rintro⟨a,⟨⟩⟩ _
  apply w_k30
  all_goals (first | assumption | exact fun a b c=>(ok_k34.1 (a,b,c,()) trivial).1 | exact fun a b c=>(ok_k34.1 (a,b,c,()) trivial).2)
def P_k31:TupS s_k31.inp→Prop:=fun x=>(fun(a:Int)=>True) x.1
def Q_k31:TupS s_k31.inp→TupS s_k31.out→Prop:=fun x y=>(fun(a:Int) (y:TupS s_k31.out)=>y=(a%65536,())) x.1 y
noncomputable def c_k31:Ct stdCar s_k31:= @mkCt lk_k31 _ (F_k31 (std 0)) P_k31 Q_k31
theorem ok_k31:Sp c_k31 P_k31 Q_k31∧TransOK E 75 (ctTrans c_k31):=by
  refine @contract lk_k31 X E hE hX hm _ hlN ord_k31 75 _ _ Tryz.func75 (by kernel_rfl) (enters_of Tryz.func75 (by kernel_rfl) rfl) _ an_k31 _ (fun x=>run_k31 (std 0) x) P_k31 Q_k31 ?_
  rintro⟨a,⟨⟩⟩ _
  apply w_k31
def P_k29:TupS s_k29.inp→Prop:=fun x=>(fun(op:Int) (a:Int) (b:Int)=>True) x.1 x.2.1 x.2.2.1
def Q_k29:TupS s_k29.inp→TupS s_k29.out→Prop:=fun x y=>(fun(op:Int) (a:Int) (b:Int) (y:TupS s_k29.out)=>y=(wdo op a b,())) x.1 x.2.1 x.2.2.1 y
noncomputable def c_k29:Ct stdCar s_k29:= @mkCt lk_k29 _ (F_k29 (std 0) (c_k30).pre (c_k30).fn (c_k31).pre (c_k31).fn) P_k29 Q_k29
theorem ok_k29:Sp c_k29 P_k29 Q_k29∧TransOK E 48 (ctTrans c_k29):=by
  refine @contract lk_k29 X E hE hX hm _ (hlC ok_k30.2 (hlC ok_k31.2 hlN)) ord_k29 48 _ _ Tryz.func48 (by kernel_rfl) (enters_of Tryz.func48 (by kernel_rfl) rfl) _ an_k29 _ (fun x=>run_k29 (std 0) c_k30 c_k31 x) P_k29 Q_k29 ?_
  rintro⟨op,a,b,⟨⟩⟩ _
  apply w_k29
  all_goals (first | assumption | exact fun a=>(ok_k30.1 (a,()) trivial).1 | exact fun a=>(ok_k30.1 (a,()) trivial).2 | exact fun a=>(ok_k31.1 (a,()) trivial).1 | exact fun a=>(ok_k31.1 (a,()) trivial).2)
def P_k33:TupS s_k33.inp→Prop:=fun x=>(fun(a:List Int)=>(a.length≤1073741824)∧True) x.1
def Q_k33:TupS s_k33.inp→TupS s_k33.out→Prop:=fun x y=>(fun(a:List Int) (y:TupS s_k33.out)=>y=(a,())) x.1 y
noncomputable def c_k33:Ct stdCar s_k33:= @mkCt lk_k33 _ (F_k33 (std 0)) P_k33 Q_k33
theorem ok_k33:Sp c_k33 P_k33 Q_k33∧TransOK E 65 (ctTrans c_k33):=by
  refine @contract lk_k33 X E hE hX hm _ hlN ord_k33 65 _ _ Tryz.func65 (by kernel_rfl) (enters_of Tryz.func65 (by kernel_rfl) rfl) _ an_k33 _ (fun x=>run_k33 (std 0) x) P_k33 Q_k33 ?_
  rintro⟨a,⟨⟩⟩ ⟨q0,_⟩
  apply w_k33
  all_goals (assumption)
def P_k39:TupS s_k39.inp→Prop:=fun x=>(fun(a:Mono) (b:Mono)=>(a.atoms.length<1000000000)∧True) x.1 x.2.1
def Q_k39:TupS s_k39.inp→TupS s_k39.out→Prop:=fun x y=>(fun(a:Mono) (b:Mono) (y:TupS s_k39.out)=>y=(aOrd a.atoms b.atoms,())) x.1 x.2.1 y
noncomputable def c_k39:Ct stdCar s_k39:= @mkCt lk_k39 _ (F_k39 (std 0) (c_k32).pre (c_k32).fn) P_k39 Q_k39
theorem ok_k39:Sp c_k39 P_k39 Q_k39∧TransOK E 110 (ctTrans c_k39):=by
  refine @contract lk_k39 X E hE hX hm _ (hlC ok_k32.2 hlN) ord_k39 110 _ _ Tryz.func110 (by kernel_rfl) (enters_of Tryz.func110 (by kernel_rfl) rfl) _ an_k39 _ (fun x=>run_k39 (std 0) c_k32 x) P_k39 Q_k39 ?_
  rintro⟨a,b,⟨⟩⟩ ⟨q0,_⟩
  apply w_k39
  all_goals (first | assumption | exact fun a b q0=>(ok_k32.1 (a,b,()) ⟨q0,trivial⟩).1 | exact fun a b q0=>(ok_k32.1 (a,b,()) ⟨q0,trivial⟩).2)
def P_k68:TupS s_k68.inp→Prop:=fun x=>(fun(a:Int) (b:Int) (d:List Mono)=>(Sh d)∧(0≤a)∧(a≤b)∧(b≤d.length)∧True) x.1 x.2.1 x.2.2.1
def Q_k68:TupS s_k68.inp→TupS s_k68.out→Prop:=fun x y=>(fun(a:Int) (b:Int) (d:List Mono) (y:TupS s_k68.out)=>Sm d y.1∧Out d y.1 a b∧Std' y.1 a b) x.1 x.2.1 x.2.2.1 y
noncomputable def c_k68:Ct stdCar s_k68:= @mkCt lk_k68 _ (F_k68 (std 0) (c_k39).pre (c_k39).fn) P_k68 Q_k68
theorem ok_k68:Sp c_k68 P_k68 Q_k68∧TransOK E 126 (ctTrans c_k68):=by
  refine @contract lk_k68 X E hE hX hm _ (hlC ok_k39.2 hlN) ord_k68 126 _ _ Tryz.func126 (by kernel_rfl) (enters_of Tryz.func126 (by kernel_rfl) rfl) _ an_k68 _ (fun x=>run_k68 (std 0) c_k39 x) P_k68 Q_k68 ?_
  rintro⟨a,b,d,⟨⟩⟩ ⟨q0,q1,q2,q3,_⟩
  apply w_k68
  all_goals (first | assumption | exact fun a b q0=>(ok_k39.1 (a,b,()) ⟨q0,trivial⟩).1 | exact fun a b q0=>(ok_k39.1 (a,b,()) ⟨q0,trivial⟩).2)
def P_k77:TupS s_k77.inp→Prop:=fun x=>(fun(a:Int) (b:Int) (n:Int) (d:List Mono)=>(d.length<1000000000)∧(0≤a)∧(0≤n)∧(a+n≤b)∧(b+n≤d.length)∧True) x.1 x.2.1 x.2.2.1 x.2.2.2.1
def Q_k77:TupS s_k77.inp→TupS s_k77.out→Prop:=fun x y=>(fun(a:Int) (b:Int) (n:Int) (d:List Mono) (y:TupS s_k77.out)=>Swp d y.1 a b n) x.1 x.2.1 x.2.2.1 x.2.2.2.1 y
noncomputable def c_k77:Ct stdCar s_k77:= @mkCt lk_k77 _ (F_k77 (std 0)) P_k77 Q_k77
theorem ok_k77:Sp c_k77 P_k77 Q_k77∧TransOK E 135 (ctTrans c_k77):=by
  refine @contract lk_k77 X E hE hX hm _ hlN ord_k77 135 _ _ Tryz.func135 (by kernel_rfl) (enters_of Tryz.func135 (by kernel_rfl) rfl) _ an_k77 _ (fun x=>run_k77 (std 0) x) P_k77 Q_k77 ?_
  rintro⟨a,b,n,d,⟨⟩⟩ ⟨q0,q1,q2,q3,q4,_⟩
  apply w_k77
  all_goals (assumption)
def P_k75:TupS s_k75.inp→Prop:=fun x=>(fun(a:Int) (m:Int) (b:Int) (d:List Mono)=>(d.length<1000000000)∧(0≤a)∧(a<m)∧(m<b)∧(b≤d.length)∧True) x.1 x.2.1 x.2.2.1 x.2.2.2.1
def Q_k75:TupS s_k75.inp→TupS s_k75.out→Prop:=fun x y=>(fun(a:Int) (m:Int) (b:Int) (d:List Mono) (y:TupS s_k75.out)=>Rot d y.1 a m b) x.1 x.2.1 x.2.2.1 x.2.2.2.1 y
noncomputable def c_k75:Ct stdCar s_k75:= @mkCt lk_k75 _ (F_k75 (std 0) (c_k77).pre (c_k77).fn) P_k75 Q_k75
theorem ok_k75:Sp c_k75 P_k75 Q_k75∧TransOK E 133 (ctTrans c_k75):=by
  refine @contract lk_k75 X E hE hX hm _ (hlC ok_k77.2 hlN) ord_k75 133 _ _ Tryz.func133 (by kernel_rfl) (enters_of Tryz.func133 (by kernel_rfl) rfl) _ an_k75 _ (fun x=>run_k75 (std 0) c_k77 x) P_k75 Q_k75 ?_
  rintro⟨a,m,b,d,⟨⟩⟩ ⟨q0,q1,q2,q3,q4,_⟩
  apply w_k75
  all_goals (first | assumption | exact fun a b n d q0 q1 q2 q3 q4=>(ok_k77.1 (a,b,n,d,()) ⟨q0,⟨q1,⟨q2,⟨q3,⟨q4,trivial⟩⟩⟩⟩⟩).1 | exact fun a b n d q0 q1 q2 q3 q4=>(ok_k77.1 (a,b,n,d,()) ⟨q0,⟨q1,⟨q2,⟨q3,⟨q4,trivial⟩⟩⟩⟩⟩).2)
def PK (k:Int):TupS s_k78.inp→Prop:=fun x=>(fun(a m b:Int) (d:List Mono)=>MPre a m b d∧b-a<k∧True) x.1 x.2.1 x.2.2.1 x.2.2.2.1
def QK:TupS s_k78.inp→TupS s_k78.out→Prop:=fun x y=>Mrg x.2.2.2.1 y.1 x.1 x.2.2.1
noncomputable def cK:Nat→Ct stdCar s_k78
  | 0=>never s_k78
  | k+1=> @mkCt lk_k78 _ (F_k78 (std 0) (c_k39).pre (c_k39).fn (c_k75).pre (c_k75).fn (cK k).pre (cK k).fn) (PK (k+1)) QK
theorem okK:∀k:Nat,Sp (cK k) (PK k) QK∧TransOK E 127 (ctTrans (cK k))
  | 0=>⟨fun x ⟨h1,h2,_⟩=>(by have g1:=h1.h2;have g2:=h1.h3;omega),never_ok (enters_of Tryz.func127 (by kernel_rfl) rfl)⟩
  | k+1=>by
    have ih:=okK k
    refine @contract lk_k78 X E hE hX hm _ (hlC ok_k39.2 (hlC ok_k75.2 (hlC ih.2 hlN))) ord_k78 127 _ _ Tryz.func127 (by kernel_rfl) (enters_of Tryz.func127 (by kernel_rfl) rfl) _ an_k78 _ (fun x=>run_k78 (std 0) c_k39 c_k75 (cK k) x) (PK (k+1)) QK ?_
    rintro⟨(a:Int),(m:Int),(b:Int),(d:List Mono),⟨⟩⟩ ⟨q1,q2,_⟩
    have q2:b-a≤(k:Int):=by dsimp only at q2;omega
    apply w_k78 (K:=(k:Int))
    all_goals first | assumption | omega | exact fun a m b d h1 h2=>(ih.1 (a,m,b,d,()) ⟨h1,h2,trivial⟩).1 | exact fun a m b d h1 h2=>(ih.1 (a,m,b,d,()) ⟨h1,h2,trivial⟩).2 | (first | exact fun a b q0=>(ok_k39.1 (a,b,()) ⟨q0,trivial⟩).1 | exact fun a b q0=>(ok_k39.1 (a,b,()) ⟨q0,trivial⟩).2 | exact fun a m b d q0 q1 q2 q3 q4=>(ok_k75.1 (a,m,b,d,()) ⟨q0,⟨q1,⟨q2,⟨q3,⟨q4,trivial⟩⟩⟩⟩⟩).1 | exact fun a m b d q0 q1 q2 q3 q4=>(ok_k75.1 (a,m,b,d,()) ⟨q0,⟨q1,⟨q2,⟨q3,⟨q4,trivial⟩⟩⟩⟩⟩).2)
def P_k78:TupS s_k78.inp→Prop:=fun x=>MPre x.1 x.2.1 x.2.2.1 x.2.2.2.1∧True
noncomputable def c_k78:Ct stdCar s_k78:=cK 1000000000
theorem ok_k78:Sp c_k78 P_k78 QK∧TransOK E 127 (ctTrans c_k78):=
  ⟨fun x h=>(okK 1000000000).1 x ⟨h.1,(by have h:=h.1;have g0:=h.sh.1;have g1:=h.h1;have g2:=h.h4;omega),trivial⟩,(okK 1000000000).2⟩
def P_k76:TupS s_k76.inp→Prop:=fun x=>(fun(n:Int) (d:List Mono)=>(Sh d)∧(n=d.length)∧True) x.1 x.2.1
def Q_k76:TupS s_k76.inp→TupS s_k76.out→Prop:=fun x y=>(fun(n:Int) (d:List Mono) (y:TupS s_k76.out)=>Sm d y.1∧Std' y.1 0 n) x.1 x.2.1 y
noncomputable def c_k76:Ct stdCar s_k76:= @mkCt lk_k76 _ (F_k76 (std 0) (c_k68).pre (c_k68).fn (c_k78).pre (c_k78).fn) P_k76 Q_k76
theorem ok_k76:Sp c_k76 P_k76 Q_k76∧TransOK E 115 (ctTrans c_k76):=by
  refine @contract lk_k76 X E hE hX hm _ (hlC ok_k68.2 (hlC ok_k78.2 hlN)) ord_k76 115 _ _ Tryz.func115 (by kernel_rfl) (enters_of Tryz.func115 (by kernel_rfl) rfl) _ an_k76 _ (fun x=>run_k76 (std 0) c_k68 c_k78 x) P_k76 Q_k76 ?_
  rintro⟨n,d,⟨⟩⟩ ⟨q0,q1,_⟩
  apply w_k76
  all_goals (first | assumption | exact fun a b d q0 q1 q2 q3=>(ok_k68.1 (a,b,d,()) ⟨q0,⟨q1,⟨q2,⟨q3,trivial⟩⟩⟩⟩).1 | exact fun a b d q0 q1 q2 q3=>(ok_k68.1 (a,b,d,()) ⟨q0,⟨q1,⟨q2,⟨q3,trivial⟩⟩⟩⟩).2 | exact fun a m b d h=>(ok_k78.1 (a,m,b,d,()) ⟨h,trivial⟩).1 | exact fun a m b d h=>(ok_k78.1 (a,m,b,d,()) ⟨h,trivial⟩).2)
def P_k63:TupS s_k63.inp→Prop:=fun x=>(fun(d:List Mono)=>(Sh d)∧True) x.1
def Q_k63:TupS s_k63.inp→TupS s_k63.out→Prop:=fun x y=>(fun(d:List Mono) (y:TupS s_k63.out)=>Sm d y.1∧Std' y.1 0 d.length) x.1 y
noncomputable def c_k63:Ct stdCar s_k63:= @mkCt lk_k63 _ (F_k63 (std 0) (c_k76).pre (c_k76).fn) P_k63 Q_k63
theorem ok_k63:Sp c_k63 P_k63 Q_k63∧TransOK E 109 (ctTrans c_k63):=by
  refine @contract lk_k63 X E hE hX hm _ (hlC ok_k76.2 hlN) ord_k63 109 _ _ Tryz.func109 (by kernel_rfl) (enters_of Tryz.func109 (by kernel_rfl) rfl) _ an_k63 _ (fun x=>run_k63 (std 0) c_k76 x) P_k63 Q_k63 ?_
  rintro⟨d,⟨⟩⟩ ⟨q0,_⟩
  apply w_k63
  all_goals (first | assumption | exact fun n d q0 q1=>(ok_k76.1 (n,d,()) ⟨q0,⟨q1,trivial⟩⟩).1 | exact fun n d q0 q1=>(ok_k76.1 (n,d,()) ⟨q0,⟨q1,trivial⟩⟩).2)
def P_k38:TupS s_k38.inp→Prop:=fun x=>(fun(l:List Mono)=>(Sh l)∧(Cb l)∧True) x.1
def Q_k38:TupS s_k38.inp→TupS s_k38.out→Prop:=fun x y=>(fun(l:List Mono) (y:TupS s_k38.out)=>y.1=(sumF l).1∧y.2.2.1=(sumF l).2) x.1 y
noncomputable def c_k38:Ct stdCar s_k38:= @mkCt lk_k38 _ (F_k38 (std 0) (c_k32).pre (c_k32).fn (c_k10).pre (c_k10).fn (c_k31).pre (c_k31).fn (c_k33).pre (c_k33).fn (c_k63).pre (c_k63).fn) P_k38 Q_k38
theorem ok_k38:Sp c_k38 P_k38 Q_k38∧TransOK E 105 (ctTrans c_k38):=by
  refine @contract lk_k38 X E hE hX hm _ (hlC ok_k32.2 (hlC ok_k10.2 (hlC ok_k31.2 (hlC ok_k33.2 (hlC ok_k63.2 hlN))))) ord_k38 105 _ _ Tryz.func105 (by kernel_rfl) (enters_of Tryz.func105 (by kernel_rfl) rfl) _ an_k38 _ (fun x=>run_k38 (std 0) c_k32 c_k10 c_k31 c_k33 c_k63 x) P_k38 Q_k38 ?_
  rintro⟨l,⟨⟩⟩ ⟨q0,q1,_⟩
  apply w_k38
  all_goals (first | assumption | exact fun a b q0=>(ok_k32.1 (a,b,()) ⟨q0,trivial⟩).1 | exact fun a b q0=>(ok_k32.1 (a,b,()) ⟨q0,trivial⟩).2 | exact fun a q0=>(ok_k10.1 (a,()) ⟨q0,trivial⟩).1 | exact fun a q0=>(ok_k10.1 (a,()) ⟨q0,trivial⟩).2 | exact fun a=>(ok_k31.1 (a,()) trivial).1 | exact fun a=>(ok_k31.1 (a,()) trivial).2 | exact fun a q0=>(ok_k33.1 (a,()) ⟨q0,trivial⟩).1 | exact fun a q0=>(ok_k33.1 (a,()) ⟨q0,trivial⟩).2 | exact fun d q0=>(ok_k63.1 (d,()) ⟨q0,trivial⟩).1 | exact fun d q0=>(ok_k63.1 (d,()) ⟨q0,trivial⟩).2)
def P_k57:TupS s_k57.inp→Prop:=fun x=>(fun(n:Int)=>(0≤n)∧(n≤1073741824)∧True) x.1
def Q_k57:TupS s_k57.inp→TupS s_k57.out→Prop:=fun x y=>(fun(n:Int) (y:TupS s_k57.out)=>y=([],())) x.1 y
noncomputable def c_k57:Ct stdCar s_k57:= @mkCt lk_k57 _ (F_k57 (std 0)) P_k57 Q_k57
theorem ok_k57:Sp c_k57 P_k57 Q_k57∧TransOK E 111 (ctTrans c_k57):=by
  refine @contract lk_k57 X E hE hX hm _ hlN ord_k57 111 _ _ Tryz.func111 (by kernel_rfl) (enters_of Tryz.func111 (by kernel_rfl) rfl) _ an_k57 _ (fun x=>run_k57 (std 0) x) P_k57 Q_k57 ?_
  rintro⟨n,⟨⟩⟩ ⟨q0,q1,_⟩
  apply w_k57
  all_goals (assumption)
def P_k53:TupS s_k53.inp→Prop:=fun x=>∃(a:List Mono) (b:List Mono),x.1=[a,b]∧(a.length≤100000000)∧(b.length≤100000000)∧True
def Q_k53:TupS s_k53.inp→TupS s_k53.out→Prop:=fun x y=>(fun(a:List Mono) (b:List Mono) (y:TupS s_k53.out)=>y=(a++b,())) (x.1.getD 0 default) (x.1.getD 1 default) y
noncomputable def c_k53:Ct stdCar s_k53:= @mkCt lk_k53 _ (F_k53 (std 0) (c_k57).pre (c_k57).fn) P_k53 Q_k53
theorem ok_k53:Sp c_k53 P_k53 Q_k53∧TransOK E 106 (ctTrans c_k53):=by
  refine @contract lk_k53 X E hE hX hm _ (hlC ok_k57.2 hlN) ord_k53 106 _ _ Tryz.func106 (by kernel_rfl) (enters_of Tryz.func106 (by kernel_rfl) rfl) _ an_k53 _ (fun x=>run_k53 (std 0) c_k57 x) P_k53 Q_k53 ?_
  rintro⟨x,⟨⟩⟩ ⟨a,b,hx,q0,q1,_⟩
  dsimp only at hx;subst hx
  apply w_k53
  all_goals (first | assumption | exact fun n q0 q1=>(ok_k57.1 (n,()) ⟨q0,⟨q1,trivial⟩⟩).1 | exact fun n q0 q1=>(ok_k57.1 (n,()) ⟨q0,⟨q1,trivial⟩⟩).2)
def P_k4:TupS s_k4.inp→Prop:=fun x=>(fun(a:List Mono) (b:List Mono)=>(Sh a)∧(Sh b)∧True) x.1 x.2.1
def Q_k4:TupS s_k4.inp→TupS s_k4.out→Prop:=fun x y=>(fun(a:List Mono) (b:List Mono) (y:TupS s_k4.out)=>y=((addF a b).1,(addF a b).2,())) x.1 x.2.1 y
noncomputable def c_k4:Ct stdCar s_k4:= @mkCt lk_k4 _ (F_k4 (std 0) (c_k10).pre (c_k10).fn (c_k38).pre (c_k38).fn (c_k53).pre (c_k53).fn) P_k4 Q_k4
theorem ok_k4:Sp c_k4 P_k4 Q_k4∧TransOK E 91 (ctTrans c_k4):=by
  refine @contract lk_k4 X E hE hX hm _ (hlC ok_k10.2 (hlC ok_k38.2 (hlC ok_k53.2 hlN))) ord_k4 91 _ _ Tryz.func91 (by kernel_rfl) (enters_of Tryz.func91 (by kernel_rfl) rfl) _ an_k4 _ (fun x=>run_k4 (std 0) c_k10 c_k38 c_k53 x) P_k4 Q_k4 ?_
  rintro⟨a,b,⟨⟩⟩ ⟨q0,q1,_⟩
  apply w_k4
  all_goals (first | assumption | exact fun a q0=>(ok_k10.1 (a,()) ⟨q0,trivial⟩).1 | exact fun a q0=>(ok_k10.1 (a,()) ⟨q0,trivial⟩).2 | exact fun l q0 q1=>(ok_k38.1 (l,()) ⟨q0,⟨q1,trivial⟩⟩).1 | exact fun l q0 q1=>(ok_k38.1 (l,()) ⟨q0,⟨q1,trivial⟩⟩).2 | exact fun a b q0 q1=>(ok_k53.1 ([a,b],()) ⟨a,b,rfl,⟨q0,⟨q1,trivial⟩⟩⟩).1 | exact fun a b q0 q1=>(ok_k53.1 ([a,b],()) ⟨a,b,rfl,⟨q0,⟨q1,trivial⟩⟩⟩).2)
def P_k58:TupS s_k58.inp→Prop:=fun x=>(fun(n:Int)=>(0≤n)∧(n≤1073741824)∧True) x.1
def Q_k58:TupS s_k58.inp→TupS s_k58.out→Prop:=fun x y=>(fun(n:Int) (y:TupS s_k58.out)=>y=([],())) x.1 y
noncomputable def c_k58:Ct stdCar s_k58:= @mkCt lk_k58 _ (F_k58 (std 0)) P_k58 Q_k58
theorem ok_k58:Sp c_k58 P_k58 Q_k58∧TransOK E 112 (ctTrans c_k58):=by
  refine @contract lk_k58 X E hE hX hm _ hlN ord_k58 112 _ _ Tryz.func112 (by kernel_rfl) (enters_of Tryz.func112 (by kernel_rfl) rfl) _ an_k58 _ (fun x=>run_k58 (std 0) x) P_k58 Q_k58 ?_
  rintro⟨n,⟨⟩⟩ ⟨q0,q1,_⟩
  apply w_k58
  all_goals (assumption)
def P_k54:TupS s_k54.inp→Prop:=fun x=>∃(a:List Int) (b:List Int),x.1=[a,b]∧(a.length≤100000000)∧(b.length≤100000000)∧True
def Q_k54:TupS s_k54.inp→TupS s_k54.out→Prop:=fun x y=>(fun(a:List Int) (b:List Int) (y:TupS s_k54.out)=>y=(a++b,())) (x.1.getD 0 default) (x.1.getD 1 default) y
noncomputable def c_k54:Ct stdCar s_k54:= @mkCt lk_k54 _ (F_k54 (std 0) (c_k58).pre (c_k58).fn) P_k54 Q_k54
theorem ok_k54:Sp c_k54 P_k54 Q_k54∧TransOK E 107 (ctTrans c_k54):=by
  refine @contract lk_k54 X E hE hX hm _ (hlC ok_k58.2 hlN) ord_k54 107 _ _ Tryz.func107 (by kernel_rfl) (enters_of Tryz.func107 (by kernel_rfl) rfl) _ an_k54 _ (fun x=>run_k54 (std 0) c_k58 x) P_k54 Q_k54 ?_
  rintro⟨x,⟨⟩⟩ ⟨a,b,hx,q0,q1,_⟩
  dsimp only at hx;subst hx
  apply w_k54
  all_goals (first | assumption | exact fun n q0 q1=>(ok_k58.1 (n,()) ⟨q0,⟨q1,trivial⟩⟩).1 | exact fun n q0 q1=>(ok_k58.1 (n,()) ⟨q0,⟨q1,trivial⟩⟩).2)
def P_k69:TupS s_k69.inp→Prop:=fun x=>(fun(a:Int) (b:Int) (d:List Int)=>(d.length<1000000000)∧(a=0)∧(b=d.length)∧True) x.1 x.2.1 x.2.2.1
def Q_k69:TupS s_k69.inp→TupS s_k69.out→Prop:=fun x y=>(fun(a:Int) (b:Int) (d:List Int) (y:TupS s_k69.out)=>y.1=sortI d) x.1 x.2.1 x.2.2.1 y
noncomputable def c_k69:Ct stdCar s_k69:= @mkCt lk_k69 _ (F_k69 (std 0) (c_k1).pre (c_k1).fn) P_k69 Q_k69
theorem ok_k69:Sp c_k69 P_k69 Q_k69∧TransOK E 116 (ctTrans c_k69):=by
  refine @contract lk_k69 X E hE hX hm _ (hlC ok_k1.2 hlN) ord_k69 116 _ _ Tryz.func116 (by kernel_rfl) (enters_of Tryz.func116 (by kernel_rfl) rfl) _ an_k69 _ (fun x=>run_k69 (std 0) c_k1 x) P_k69 Q_k69 ?_
  rintro⟨a,b,d,⟨⟩⟩ ⟨q0,q1,q2,_⟩
  apply w_k69
  all_goals (first | assumption | exact fun a b=>(ok_k1.1 (a,b,()) trivial).1 | exact fun a b=>(ok_k1.1 (a,b,()) trivial).2)
noncomputable def c_k67:Ct stdCar s_k67:=never s_k67
theorem ok_k67:True∧TransOK E 117 (ctTrans c_k67):=⟨trivial,never_ok (enters_of Tryz.func117 (by kernel_rfl) rfl)⟩
noncomputable def c_k65:Ct stdCar s_k65:=never s_k65
theorem ok_k65:True∧TransOK E 118 (ctTrans c_k65):=⟨trivial,never_ok (enters_of Tryz.func118 (by kernel_rfl) rfl)⟩
noncomputable def c_k66:Ct stdCar s_k66:=never s_k66
theorem ok_k66:True∧TransOK E 119 (ctTrans c_k66):=⟨trivial,never_ok (enters_of Tryz.func119 (by kernel_rfl) rfl)⟩
noncomputable def c_k74:Ct stdCar s_k74:=never s_k74
theorem ok_k74:True∧TransOK E 120 (ctTrans c_k74):=⟨trivial,never_ok (enters_of Tryz.func120 (by kernel_rfl) rfl)⟩
noncomputable def c_k70:Ct stdCar s_k70:=never s_k70
theorem ok_k70:True∧TransOK E 121 (ctTrans c_k70):=⟨trivial,never_ok (enters_of Tryz.func121 (by kernel_rfl) rfl)⟩
noncomputable def c_k71:Ct stdCar s_k71:=never s_k71
theorem ok_k71:True∧TransOK E 122 (ctTrans c_k71):=⟨trivial,never_ok (enters_of Tryz.func122 (by kernel_rfl) rfl)⟩
noncomputable def c_k72:Ct stdCar s_k72:=never s_k72
theorem ok_k72:True∧TransOK E 123 (ctTrans c_k72):=⟨trivial,never_ok (enters_of Tryz.func123 (by kernel_rfl) rfl)⟩
def P_k73:TupS s_k73.inp→Prop:=fun x=>(fun(a:Int) (b:Int) (k:Int) (d:List Int)=>(d.length≤12)∧(a=0)∧(b=d.length)∧True) x.1 x.2.1 x.2.2.1 x.2.2.2.1
def Q_k73:TupS s_k73.inp→TupS s_k73.out→Prop:=fun x y=>(fun(a:Int) (b:Int) (k:Int) (d:List Int) (y:TupS s_k73.out)=>y.1=sortI d) x.1 x.2.1 x.2.2.1 x.2.2.2.1 y
noncomputable def c_k73:Ct stdCar s_k73:= @mkCt lk_k73 _ (F_k73 (std 0) (c_k1).pre (c_k1).fn (c_k69).pre (c_k69).fn (c_k67).pre (c_k67).fn (c_k65).pre (c_k65).fn (c_k66).pre (c_k66).fn (c_k74).pre (c_k74).fn (c_k70).pre (c_k70).fn (c_k71).pre (c_k71).fn (c_k72).pre (c_k72).fn ((never s_k73)).pre ((never s_k73)).fn) P_k73 Q_k73
theorem ok_k73:Sp c_k73 P_k73 Q_k73∧TransOK E 113 (ctTrans c_k73):=by
  refine @contract lk_k73 X E hE hX hm _ (hlC ok_k1.2 (hlC ok_k69.2 (hlC ok_k67.2 (hlC ok_k65.2 (hlC ok_k66.2 (hlC ok_k74.2 (hlC ok_k70.2 (hlC ok_k71.2 (hlC ok_k72.2 (hlC (never_ok (enters_of Tryz.func113 (by kernel_rfl) rfl)) hlN)))))))))) ord_k73 113 _ _ Tryz.func113 (by kernel_rfl) (enters_of Tryz.func113 (by kernel_rfl) rfl) _ an_k73 _ (fun x=>run_k73 (std 0) c_k1 c_k69 c_k67 c_k65 c_k66 c_k74 c_k70 c_k71 c_k72 (never s_k73) x) P_k73 Q_k73 ?_
  rintro⟨a,b,k,d,⟨⟩⟩ ⟨q0,q1,q2,_⟩
  apply w_k73
  all_goals (first | assumption | exact fun a b=>(ok_k1.1 (a,b,()) trivial).1 | exact fun a b=>(ok_k1.1 (a,b,()) trivial).2 | exact fun a b d q0 q1 q2=>(ok_k69.1 (a,b,d,()) ⟨q0,⟨q1,⟨q2,trivial⟩⟩⟩).1 | exact fun a b d q0 q1 q2=>(ok_k69.1 (a,b,d,()) ⟨q0,⟨q1,⟨q2,trivial⟩⟩⟩).2 | exact fun a b k d q0 q1 q2=>(ok_k73.1 (a,b,k,d,()) ⟨q0,⟨q1,⟨q2,trivial⟩⟩⟩).1 | exact fun a b k d q0 q1 q2=>(ok_k73.1 (a,b,k,d,()) ⟨q0,⟨q1,⟨q2,trivial⟩⟩⟩).2)
noncomputable def c_k50:Ct stdCar s_k50:={pre:=fun x=>decide ((0:Int)≤x.1)&&decide ((x.1:Int)≤18446744073709551615),fn:=fun x=>((Lib.bitLen (x.1:Int).toNat:Int),())}
theorem ok_k50:(∀x:TupS s_k50.inp,(0:Int)≤x.1∧(x.1:Int)≤18446744073709551615∧True→c_k50.pre x=true∧True)∧TransOK E 114 (ctTrans c_k50):=
  ⟨fun x ⟨h1,h2,_⟩=>⟨by show(decide _&&decide _)=true;simp only [Bool.and_eq_true,decide_eq_true_eq];exact⟨h1,h2⟩,trivial⟩,
    give_u64 (enters_of Tryz.func114 (by kernel_rfl) rfl) rfl fun x w h=>by
      have h':(decide ((0:Int)≤x)&&decide (x≤18446744073709551615))=true:=h
      simp only [Bool.and_eq_true,decide_eq_true_eq]at h'
      exact bits_Len x w h'.1 h'.2⟩
def P_k64:TupS s_k64.inp→Prop:=fun x=>(fun(a:List Int)=>(a.length≤8)∧True) x.1
def Q_k64:TupS s_k64.inp→TupS s_k64.out→Prop:=fun x y=>(fun(a:List Int) (y:TupS s_k64.out)=>y=(sortI a,())) x.1 y
noncomputable def c_k64:Ct stdCar s_k64:= @mkCt lk_k64 _ (F_k64 (std 0) (c_k73).pre (c_k73).fn (c_k50).pre (c_k50).fn) P_k64 Q_k64
theorem ok_k64:Sp c_k64 P_k64 Q_k64∧TransOK E 108 (ctTrans c_k64):=by
  refine @contract lk_k64 X E hE hX hm _ (hlC ok_k73.2 (hlC ok_k50.2 hlN)) ord_k64 108 _ _ Tryz.func108 (by kernel_rfl) (enters_of Tryz.func108 (by kernel_rfl) rfl) _ an_k64 _ (fun x=>run_k64 (std 0) c_k73 c_k50 x) P_k64 Q_k64 ?_
  rintro⟨a,⟨⟩⟩ ⟨q0,_⟩
  apply w_k64
  all_goals (first | assumption | exact fun a b k d q0 q1 q2=>(ok_k73.1 (a,b,k,d,()) ⟨q0,⟨q1,⟨q2,trivial⟩⟩⟩).1 | exact fun a b k d q0 q1 q2=>(ok_k73.1 (a,b,k,d,()) ⟨q0,⟨q1,⟨q2,trivial⟩⟩⟩).2 | exact fun n h1 h2=>(ok_k50.1 (n,()) ⟨h1,h2,trivial⟩).1 | exact fun n h1 h2=>(ok_k50.1 (n,()) ⟨h1,h2,trivial⟩).2)
def P_k8:TupS s_k8.inp→Prop:=fun x=>(fun(a:List Mono) (b:List Mono)=>(Sh a)∧(Sh b)∧True) x.1 x.2.1
def Q_k8:TupS s_k8.inp→TupS s_k8.out→Prop:=fun x y=>(fun(a:List Mono) (b:List Mono) (y:TupS s_k8.out)=>y=((mulF a b).1,(mulF a b).2,())) x.1 x.2.1 y
noncomputable def c_k8:Ct stdCar s_k8:= @mkCt lk_k8 _ (F_k8 (std 0) (c_k10).pre (c_k10).fn (c_k31).pre (c_k31).fn (c_k38).pre (c_k38).fn (c_k54).pre (c_k54).fn (c_k64).pre (c_k64).fn) P_k8 Q_k8
theorem ok_k8:Sp c_k8 P_k8 Q_k8∧TransOK E 93 (ctTrans c_k8):=by
  refine @contract lk_k8 X E hE hX hm _ (hlC ok_k10.2 (hlC ok_k31.2 (hlC ok_k38.2 (hlC ok_k54.2 (hlC ok_k64.2 hlN))))) ord_k8 93 _ _ Tryz.func93 (by kernel_rfl) (enters_of Tryz.func93 (by kernel_rfl) rfl) _ an_k8 _ (fun x=>run_k8 (std 0) c_k10 c_k31 c_k38 c_k54 c_k64 x) P_k8 Q_k8 ?_
  rintro⟨a,b,⟨⟩⟩ ⟨q0,q1,_⟩
  apply w_k8
  all_goals (first | assumption | exact fun a q0=>(ok_k10.1 (a,()) ⟨q0,trivial⟩).1 | exact fun a q0=>(ok_k10.1 (a,()) ⟨q0,trivial⟩).2 | exact fun a=>(ok_k31.1 (a,()) trivial).1 | exact fun a=>(ok_k31.1 (a,()) trivial).2 | exact fun l q0 q1=>(ok_k38.1 (l,()) ⟨q0,⟨q1,trivial⟩⟩).1 | exact fun l q0 q1=>(ok_k38.1 (l,()) ⟨q0,⟨q1,trivial⟩⟩).2 | exact fun a b q0 q1=>(ok_k54.1 ([a,b],()) ⟨a,b,rfl,⟨q0,⟨q1,trivial⟩⟩⟩).1 | exact fun a b q0 q1=>(ok_k54.1 ([a,b],()) ⟨a,b,rfl,⟨q0,⟨q1,trivial⟩⟩⟩).2 | exact fun a q0=>(ok_k64.1 (a,()) ⟨q0,trivial⟩).1 | exact fun a q0=>(ok_k64.1 (a,()) ⟨q0,trivial⟩).2)
def P_k13:TupS s_k13.inp→Prop:=fun x=>(fun(a:List Mono) (n:Int)=>(Sh a)∧True) x.1 x.2.1
def Q_k13:TupS s_k13.inp→TupS s_k13.out→Prop:=fun x y=>(fun(a:List Mono) (n:Int) (y:TupS s_k13.out)=>y=(scaleF a n,())) x.1 x.2.1 y
noncomputable def c_k13:Ct stdCar s_k13:= @mkCt lk_k13 _ (F_k13 (std 0) (c_k10).pre (c_k10).fn (c_k6).pre (c_k6).fn (c_k30).pre (c_k30).fn (c_k8).pre (c_k8).fn) P_k13 Q_k13
theorem ok_k13:Sp c_k13 P_k13 Q_k13∧TransOK E 92 (ctTrans c_k13):=by
  refine @contract lk_k13 X E hE hX hm _ (hlC ok_k10.2 (hlC ok_k6.2 (hlC ok_k30.2 (hlC ok_k8.2 hlN)))) ord_k13 92 _ _ Tryz.func92 (by kernel_rfl) (enters_of Tryz.func92 (by kernel_rfl) rfl) _ an_k13 _ (fun x=>run_k13 (std 0) c_k10 c_k6 c_k30 c_k8 x) P_k13 Q_k13 ?_
  rintro⟨a,n,⟨⟩⟩ ⟨q0,_⟩
  apply w_k13
  all_goals (first | assumption | exact fun a q0=>(ok_k10.1 (a,()) ⟨q0,trivial⟩).1 | exact fun a q0=>(ok_k10.1 (a,()) ⟨q0,trivial⟩).2 | exact fun a=>(ok_k6.1 (a,()) trivial).1 | exact fun a=>(ok_k6.1 (a,()) trivial).2 | exact fun a=>(ok_k30.1 (a,()) trivial).1 | exact fun a=>(ok_k30.1 (a,()) trivial).2 | exact fun a b q0 q1=>(ok_k8.1 (a,b,()) ⟨q0,⟨q1,trivial⟩⟩).1 | exact fun a b q0 q1=>(ok_k8.1 (a,b,()) ⟨q0,⟨q1,trivial⟩⟩).2)
end Go.TX.F
namespace Go.TX.F
open Go Go.AE Go.TX Go.TX.Seat Go.Proofs
set_option maxRecDepth 100000
def P_k9:TupS s_k9.inp→Prop:=fun x=>(fun(a:List Mono)=>(Sh a)∧True) x.1
def Q_k9:TupS s_k9.inp→TupS s_k9.out→Prop:=fun x y=>(fun(a:List Mono) (y:TupS s_k9.out)=>y=((pNum a).1,(pNum a).2,())) x.1 y
noncomputable def c_k9:Ct stdCar s_k9:= @mkCt lk_k9 _ (F_k9 (std 0) (c_k10).pre (c_k10).fn) P_k9 Q_k9
theorem ok_k9:Sp c_k9 P_k9 Q_k9∧TransOK E 94 (ctTrans c_k9):=by
  refine @contract lk_k9 X E hE hX hm _ (hlC ok_k10.2 hlN) ord_k9 94 _ _ Tryz.func94 (by kernel_rfl) (enters_of Tryz.func94 (by kernel_rfl) rfl) _ an_k9 _ (fun x=>run_k9 (std 0) c_k10 x) P_k9 Q_k9 ?_
  rintro⟨a,⟨⟩⟩ ⟨q0,_⟩
  apply w_k9
  all_goals (first | assumption | exact fun a q0=>(ok_k10.1 (a,()) ⟨q0,trivial⟩).1 | exact fun a q0=>(ok_k10.1 (a,()) ⟨q0,trivial⟩).2)
def P_k37:TupS s_k37.inp→Prop:=fun x=>(fun(op:Int) (x:List Mono) (y:List Mono)=>(Sh x)∧(Sh y)∧True) x.1 x.2.1 x.2.2.1
def Q_k37:TupS s_k37.inp→TupS s_k37.out→Prop:=fun x y=>(fun(op:Int) (x:List Mono) (y:List Mono) (z:TupS s_k37.out)=>z=((simpF op x y).1,(simpF op x y).2,())) x.1 x.2.1 x.2.2.1 y
noncomputable def c_k37:Ct stdCar s_k37:= @mkCt lk_k37 _ (F_k37 (std 0) (c_k28).pre (c_k28).fn (c_k6).pre (c_k6).fn (c_k29).pre (c_k29).fn (c_k4).pre (c_k4).fn (c_k8).pre (c_k8).fn (c_k13).pre (c_k13).fn (c_k9).pre (c_k9).fn) P_k37 Q_k37
theorem ok_k37:Sp c_k37 P_k37 Q_k37∧TransOK E 61 (ctTrans c_k37):=by
  refine @contract lk_k37 X E hE hX hm _ (hlC ok_k28.2 (hlC ok_k6.2 (hlC ok_k29.2 (hlC ok_k4.2 (hlC ok_k8.2 (hlC ok_k13.2 (hlC ok_k9.2 hlN))))))) ord_k37 61 _ _ Tryz.func61 (by kernel_rfl) (enters_of Tryz.func61 (by kernel_rfl) rfl) _ an_k37 _ (fun x=>run_k37 (std 0) c_k28 c_k6 c_k29 c_k4 c_k8 c_k13 c_k9 x) P_k37 Q_k37 ?_
  rintro⟨op,x,y,⟨⟩⟩ ⟨q0,q1,_⟩
  apply w_k37
  all_goals (first | assumption | exact fun a b q0=>(ok_k28.1 (a,b,()) ⟨q0,trivial⟩).1 | exact fun a b q0=>(ok_k28.1 (a,b,()) ⟨q0,trivial⟩).2 | exact fun a=>(ok_k6.1 (a,()) trivial).1 | exact fun a=>(ok_k6.1 (a,()) trivial).2 | exact fun op a b=>(ok_k29.1 (op,a,b,()) trivial).1 | exact fun op a b=>(ok_k29.1 (op,a,b,()) trivial).2 | exact fun a b q0 q1=>(ok_k4.1 (a,b,()) ⟨q0,⟨q1,trivial⟩⟩).1 | exact fun a b q0 q1=>(ok_k4.1 (a,b,()) ⟨q0,⟨q1,trivial⟩⟩).2 | exact fun a b q0 q1=>(ok_k8.1 (a,b,()) ⟨q0,⟨q1,trivial⟩⟩).1 | exact fun a b q0 q1=>(ok_k8.1 (a,b,()) ⟨q0,⟨q1,trivial⟩⟩).2 | exact fun a n q0=>(ok_k13.1 (a,n,()) ⟨q0,trivial⟩).1 | exact fun a n q0=>(ok_k13.1 (a,n,()) ⟨q0,trivial⟩).2 | exact fun a q0=>(ok_k9.1 (a,()) ⟨q0,trivial⟩).1 | exact fun a q0=>(ok_k9.1 (a,()) ⟨q0,trivial⟩).2)
def P_k51:TupS s_k51.inp→Prop:=fun x=>(fun(a:List Atom)=>True) x.1
def Q_k51:TupS s_k51.inp→TupS s_k51.out→Prop:=fun x y=>(fun(a:List Atom) (y:TupS s_k51.out)=>y=(a,())) x.1 y
noncomputable def c_k51:Ct stdCar s_k51:= @mkCt lk_k51 _ (F_k51 (std 0)) P_k51 Q_k51
theorem ok_k51:Sp c_k51 P_k51 Q_k51∧TransOK E 96 (ctTrans c_k51):=by
  refine @contract lk_k51 X E hE hX hm _ hlN ord_k51 96 _ _ Tryz.func96 (by kernel_rfl) (enters_of Tryz.func96 (by kernel_rfl) rfl) _ an_k51 _ (fun x=>run_k51 (std 0) x) P_k51 Q_k51 ?_
  rintro⟨a,⟨⟩⟩ _
  apply w_k51
def P_k24:TupS s_k24.inp→Prop:=fun x=>(fun(t:List Atom) (a:Atom)=>(t.length<1000000000)∧(ShA a)∧True) x.1 x.2.1
def Q_k24:TupS s_k24.inp→TupS s_k24.out→Prop:=fun x y=>(fun(t:List Atom) (a:Atom) (y:TupS s_k24.out)=>y=((tPut t a).1,(tPut t a).2,())) x.1 x.2.1 y
noncomputable def c_k24:Ct stdCar s_k24:= @mkCt lk_k24 _ (F_k24 (std 0) (c_k16).pre (c_k16).fn (c_k22).pre (c_k22).fn (c_k51).pre (c_k51).fn) P_k24 Q_k24
theorem ok_k24:Sp c_k24 P_k24 Q_k24∧TransOK E 63 (ctTrans c_k24):=by
  refine @contract lk_k24 X E hE hX hm _ (hlC ok_k16.2 (hlC ok_k22.2 (hlC ok_k51.2 hlN))) ord_k24 63 _ _ Tryz.func63 (by kernel_rfl) (enters_of Tryz.func63 (by kernel_rfl) rfl) _ an_k24 _ (fun x=>run_k24 (std 0) c_k16 c_k22 c_k51 x) P_k24 Q_k24 ?_
  rintro⟨t,a,⟨⟩⟩ ⟨q0,q1,_⟩
  apply w_k24
  all_goals (first | assumption | exact fun a n q0=>(ok_k16.1 (a,n,()) ⟨q0,trivial⟩).1 | exact fun a n q0=>(ok_k16.1 (a,n,()) ⟨q0,trivial⟩).2 | exact fun a b q0 q1=>(ok_k22.1 (a,b,()) ⟨q0,⟨q1,trivial⟩⟩).1 | exact fun a b q0 q1=>(ok_k22.1 (a,b,()) ⟨q0,⟨q1,trivial⟩⟩).2 | exact fun a=>(ok_k51.1 (a,()) trivial).1 | exact fun a=>(ok_k51.1 (a,()) trivial).2)
def P_k5:TupS s_k5.inp→Prop:=fun x=>(fun(a:Int)=>True) x.1
def Q_k5:TupS s_k5.inp→TupS s_k5.out→Prop:=fun x y=>(fun(a:Int) (y:TupS s_k5.out)=>y=(pAtom a,())) x.1 y
noncomputable def c_k5:Ct stdCar s_k5:= @mkCt lk_k5 _ (F_k5 (std 0) (c_k34).pre (c_k34).fn) P_k5 Q_k5
theorem ok_k5:Sp c_k5 P_k5 Q_k5∧TransOK E 64 (ctTrans c_k5):=by
  refine @contract lk_k5 X E hE hX hm _ (hlC ok_k34.2 hlN) ord_k5 64 _ _ Tryz.func64 (by kernel_rfl) (enters_of Tryz.func64 (by kernel_rfl) rfl) _ an_k5 _ (fun x=>run_k5 (std 0) c_k34 x) P_k5 Q_k5 ?_
  rintro⟨a,⟨⟩⟩ _
  apply w_k5
  all_goals (first | assumption | exact fun a b c=>(ok_k34.1 (a,b,c,()) trivial).1 | exact fun a b c=>(ok_k34.1 (a,b,c,()) trivial).2)
def P_k21:TupS s_k21.inp→Prop:=fun x=>(fun(t:List Atom) (op:Int) (x:List Mono) (y:List Mono)=>(t.length<1000000000)∧(Sh x)∧(Sh y)∧True) x.1 x.2.1 x.2.2.1 x.2.2.2.1
def Q_k21:TupS s_k21.inp→TupS s_k21.out→Prop:=fun x y=>(fun(t:List Atom) (op:Int) (x:List Mono) (y:List Mono) (z:TupS s_k21.out)=>z.1=(tDo t op x y).1∧z.2.1=(tDo t op x y).2) x.1 x.2.1 x.2.2.1 x.2.2.2.1 y
noncomputable def c_k21:Ct stdCar s_k21:= @mkCt lk_k21 _ (F_k21 (std 0) (c_k12).pre (c_k12).fn (c_k37).pre (c_k37).fn (c_k24).pre (c_k24).fn (c_k5).pre (c_k5).fn) P_k21 Q_k21
theorem ok_k21:Sp c_k21 P_k21 Q_k21∧TransOK E 33 (ctTrans c_k21):=by
  refine @contract lk_k21 X E hE hX hm _ (hlC ok_k12.2 (hlC ok_k37.2 (hlC ok_k24.2 (hlC ok_k5.2 hlN)))) ord_k21 33 _ _ Tryz.func33 (by kernel_rfl) (enters_of Tryz.func33 (by kernel_rfl) rfl) _ an_k21 _ (fun x=>run_k21 (std 0) c_k12 c_k37 c_k24 c_k5 x) P_k21 Q_k21 ?_
  rintro⟨t,op,x,y,⟨⟩⟩ ⟨q0,q1,q2,_⟩
  apply w_k21
  all_goals (first | assumption | exact fun a b q0=>(ok_k12.1 (a,b,()) ⟨q0,trivial⟩).1 | exact fun a b q0=>(ok_k12.1 (a,b,()) ⟨q0,trivial⟩).2 | exact fun op x y q0 q1=>(ok_k37.1 (op,x,y,()) ⟨q0,⟨q1,trivial⟩⟩).1 | exact fun op x y q0 q1=>(ok_k37.1 (op,x,y,()) ⟨q0,⟨q1,trivial⟩⟩).2 | exact fun t a q0 q1=>(ok_k24.1 (t,a,()) ⟨q0,⟨q1,trivial⟩⟩).1 | exact fun t a q0 q1=>(ok_k24.1 (t,a,()) ⟨q0,⟨q1,trivial⟩⟩).2 | exact fun a=>(ok_k5.1 (a,()) trivial).1 | exact fun a=>(ok_k5.1 (a,()) trivial).2)
def P_k26:TupS s_k26.inp→Prop:=fun x=>(fun(a:List Mono)=>(Sh a)∧True) x.1
def Q_k26:TupS s_k26.inp→TupS s_k26.out→Prop:=fun x y=>(fun(a:List Mono) (y:TupS s_k26.out)=>y=(a,())) x.1 y
noncomputable def c_k26:Ct stdCar s_k26:= @mkCt lk_k26 _ (F_k26 (std 0) (c_k33).pre (c_k33).fn) P_k26 Q_k26
theorem ok_k26:Sp c_k26 P_k26 Q_k26∧TransOK E 35 (ctTrans c_k26):=by
  refine @contract lk_k26 X E hE hX hm _ (hlC ok_k33.2 hlN) ord_k26 35 _ _ Tryz.func35 (by kernel_rfl) (enters_of Tryz.func35 (by kernel_rfl) rfl) _ an_k26 _ (fun x=>run_k26 (std 0) c_k33 x) P_k26 Q_k26 ?_
  rintro⟨a,⟨⟩⟩ ⟨q0,_⟩
  apply w_k26
  all_goals (first | assumption | exact fun a q0=>(ok_k33.1 (a,()) ⟨q0,trivial⟩).1 | exact fun a q0=>(ok_k33.1 (a,()) ⟨q0,trivial⟩).2)
def P_k20:TupS s_k20.inp→Prop:=fun x=>(fun(a:List Atom)=>(ShT a)∧True) x.1
def Q_k20:TupS s_k20.inp→TupS s_k20.out→Prop:=fun x y=>(fun(a:List Atom) (y:TupS s_k20.out)=>y=(a,())) x.1 y
noncomputable def c_k20:Ct stdCar s_k20:= @mkCt lk_k20 _ (F_k20 (std 0) (c_k26).pre (c_k26).fn) P_k20 Q_k20
theorem ok_k20:Sp c_k20 P_k20 Q_k20∧TransOK E 34 (ctTrans c_k20):=by
  refine @contract lk_k20 X E hE hX hm _ (hlC ok_k26.2 hlN) ord_k20 34 _ _ Tryz.func34 (by kernel_rfl) (enters_of Tryz.func34 (by kernel_rfl) rfl) _ an_k20 _ (fun x=>run_k20 (std 0) c_k26 x) P_k20 Q_k20 ?_
  rintro⟨a,⟨⟩⟩ ⟨q0,_⟩
  apply w_k20
  all_goals (first | assumption | exact fun a q0=>(ok_k26.1 (a,()) ⟨q0,trivial⟩).1 | exact fun a q0=>(ok_k26.1 (a,()) ⟨q0,trivial⟩).2)
def P_k18:TupS s_k18.inp→Prop:=fun x=>(fun(t:List Atom) (op:Int) (x:List Mono) (y:List Mono)=>(ShT t)∧(Sh x)∧(Sh y)∧True) x.1 x.2.1 x.2.2.1 x.2.2.2.1
def Q_k18:TupS s_k18.inp→TupS s_k18.out→Prop:=fun x y=>(fun(t:List Atom) (op:Int) (x:List Mono) (y:List Mono) (z:TupS s_k18.out)=>z=((tabDo t op x y).1,(tabDo t op x y).2,())) x.1 x.2.1 x.2.2.1 x.2.2.2.1 y
noncomputable def c_k18:Ct stdCar s_k18:= @mkCt lk_k18 _ (F_k18 (std 0) (c_k35).pre (c_k35).fn (c_k14).pre (c_k14).fn (c_k10).pre (c_k10).fn (c_k19).pre (c_k19).fn (c_k21).pre (c_k21).fn (c_k26).pre (c_k26).fn (c_k20).pre (c_k20).fn) P_k18 Q_k18
theorem ok_k18:Sp c_k18 P_k18 Q_k18∧TransOK E 7 (ctTrans c_k18):=by
  refine @contract lk_k18 X E hE hX hm _ (hlC ok_k35.2 (hlC ok_k14.2 (hlC ok_k10.2 (hlC ok_k19.2 (hlC ok_k21.2 (hlC ok_k26.2 (hlC ok_k20.2 hlN))))))) ord_k18 7 _ _ Tryz.func7 (by kernel_rfl) (enters_of Tryz.func7 (by kernel_rfl) rfl) _ an_k18 _ (fun x=>run_k18 (std 0) c_k35 c_k14 c_k10 c_k19 c_k21 c_k26 c_k20 x) P_k18 Q_k18 ?_
  rintro⟨t,op,x,y,⟨⟩⟩ ⟨q0,q1,q2,_⟩
  apply w_k18
  all_goals (first | assumption | exact fun a=>(ok_k35.1 (a,()) trivial).1 | exact fun a=>(ok_k35.1 (a,()) trivial).2 | exact fun a n q0=>(ok_k14.1 (a,n,()) ⟨q0,trivial⟩).1 | exact fun a n q0=>(ok_k14.1 (a,n,()) ⟨q0,trivial⟩).2 | exact fun a q0=>(ok_k10.1 (a,()) ⟨q0,trivial⟩).1 | exact fun a q0=>(ok_k10.1 (a,()) ⟨q0,trivial⟩).2 | exact fun a q0=>(ok_k19.1 (a,()) ⟨q0,trivial⟩).1 | exact fun a q0=>(ok_k19.1 (a,()) ⟨q0,trivial⟩).2 | exact fun t op x y q0 q1 q2=>(ok_k21.1 (t,op,x,y,()) ⟨q0,⟨q1,⟨q2,trivial⟩⟩⟩).1 | exact fun t op x y q0 q1 q2=>(ok_k21.1 (t,op,x,y,()) ⟨q0,⟨q1,⟨q2,trivial⟩⟩⟩).2 | exact fun a q0=>(ok_k26.1 (a,()) ⟨q0,trivial⟩).1 | exact fun a q0=>(ok_k26.1 (a,()) ⟨q0,trivial⟩).2 | exact fun a q0=>(ok_k20.1 (a,()) ⟨q0,trivial⟩).1 | exact fun a q0=>(ok_k20.1 (a,()) ⟨q0,trivial⟩).2)
def P_k46:TupS s_k46.inp→Prop:=fun _=>True
def Q_k46:TupS s_k46.inp→TupS s_k46.out→Prop:=fun _ y=>(fun(z:TupS s_k46.out)=>z=(true,())) y
noncomputable def c_k46:Ct stdCar s_k46:= @mkCt lk_k46 _ (F_k46 (std 0) (c_k30).pre (c_k30).fn) P_k46 Q_k46
theorem ok_k46:Sp c_k46 P_k46 Q_k46∧TransOK E 8 (ctTrans c_k46):=by
  refine @contract lk_k46 X E hE hX hm _ (hlC ok_k30.2 hlN) ord_k46 8 _ _ Tryz.func8 (by kernel_rfl) (enters_of Tryz.func8 (by kernel_rfl) rfl) _ an_k46 _ (fun x=>run_k46 (std 0) c_k30 x) P_k46 Q_k46 ?_
  rintro⟨⟩ _
  apply w_k46
  all_goals (first | assumption | exact fun a=>(ok_k30.1 (a,()) trivial).1 | exact fun a=>(ok_k30.1 (a,()) trivial).2)
def P_k45:TupS s_k45.inp→Prop:=fun x=>(fun(a:List Int) (b:List Int)=>(a.length<1000000000)∧True) x.1 x.2.1
def Q_k45:TupS s_k45.inp→TupS s_k45.out→Prop:=fun x y=>(fun(a:List Int) (b:List Int) (z:TupS s_k45.out)=>z=(bp (a=b),())) x.1 x.2.1 y
noncomputable def c_k45:Ct stdCar s_k45:= @mkCt lk_k45 _ (F_k45 (std 0)) P_k45 Q_k45
theorem ok_k45:Sp c_k45 P_k45 Q_k45∧TransOK E 20 (ctTrans c_k45):=by
  refine @contract lk_k45 X E hE hX hm _ hlN ord_k45 20 _ _ Tryz.func20 (by kernel_rfl) (enters_of Tryz.func20 (by kernel_rfl) rfl) _ an_k45 _ (fun x=>run_k45 (std 0) x) P_k45 Q_k45 ?_
  rintro⟨a,b,⟨⟩⟩ ⟨q0,_⟩
  apply w_k45
  all_goals (assumption)
def P_k47:TupS s_k47.inp→Prop:=fun x=>(fun(a:List Mono) (b:List Mono)=>(Sh a)∧True) x.1 x.2.1
def Q_k47:TupS s_k47.inp→TupS s_k47.out→Prop:=fun x y=>(fun(a:List Mono) (b:List Mono) (z:TupS s_k47.out)=>z=(bp (a=b),())) x.1 x.2.1 y
noncomputable def c_k47:Ct stdCar s_k47:= @mkCt lk_k47 _ (F_k47 (std 0) (c_k45).pre (c_k45).fn) P_k47 Q_k47
theorem ok_k47:Sp c_k47 P_k47 Q_k47∧TransOK E 10 (ctTrans c_k47):=by
  refine @contract lk_k47 X E hE hX hm _ (hlC ok_k45.2 hlN) ord_k47 10 _ _ Tryz.func10 (by kernel_rfl) (enters_of Tryz.func10 (by kernel_rfl) rfl) _ an_k47 _ (fun x=>run_k47 (std 0) c_k45 x) P_k47 Q_k47 ?_
  rintro⟨a,b,⟨⟩⟩ ⟨q0,_⟩
  apply w_k47
  all_goals (first | assumption | exact fun a b q0=>(ok_k45.1 (a,b,()) ⟨q0,trivial⟩).1 | exact fun a b q0=>(ok_k45.1 (a,b,()) ⟨q0,trivial⟩).2)
def P_k48:TupS s_k48.inp→Prop:=fun x=>(fun(a:List Atom) (b:List Atom)=>(ShT a)∧True) x.1 x.2.1
def Q_k48:TupS s_k48.inp→TupS s_k48.out→Prop:=fun x y=>(fun(a:List Atom) (b:List Atom) (z:TupS s_k48.out)=>z=(bp (a=b),())) x.1 x.2.1 y
noncomputable def c_k48:Ct stdCar s_k48:= @mkCt lk_k48 _ (F_k48 (std 0) (c_k47).pre (c_k47).fn) P_k48 Q_k48
theorem ok_k48:Sp c_k48 P_k48 Q_k48∧TransOK E 9 (ctTrans c_k48):=by
  refine @contract lk_k48 X E hE hX hm _ (hlC ok_k47.2 hlN) ord_k48 9 _ _ Tryz.func9 (by kernel_rfl) (enters_of Tryz.func9 (by kernel_rfl) rfl) _ an_k48 _ (fun x=>run_k48 (std 0) c_k47 x) P_k48 Q_k48 ?_
  rintro⟨a,b,⟨⟩⟩ ⟨q0,_⟩
  apply w_k48
  all_goals (first | assumption | exact fun a b q0=>(ok_k47.1 (a,b,()) ⟨q0,trivial⟩).1 | exact fun a b q0=>(ok_k47.1 (a,b,()) ⟨q0,trivial⟩).2)
def P_k104:TupS s_k104.inp→Prop:=fun x=>(fun(n:Int) (b:List Int) (p:Int)=>(Bt b)∧(0≤n∧n≤100)∧(0≤p)∧(p<800000000)∧True) x.1 x.2.1 x.2.2.1
def Q_k104:TupS s_k104.inp→TupS s_k104.out→Prop:=fun x y=>(fun(n:Int) (b:List Int) (p:Int) (y:List Int×Int×List Int×Unit)=>y.1=b∧p≤y.2.1∧y.2.1≤p+300∧y.2.2.1.length=n∧wOK y.2.2.1) x.1 x.2.1 x.2.2.1 y
noncomputable def c_k104:Ct stdCar s_k104:= @mkCt lk_k104 _ (F_k104 (std 0) (c_k102).pre (c_k102).fn) P_k104 Q_k104
theorem ok_k104:Sp c_k104 P_k104 Q_k104∧TransOK E 40 (ctTrans c_k104):=by
  refine @contract lk_k104 X E hE hX hm _ (hlC ok_k102.2 hlN) ord_k104 40 _ _ Tryz.func40 (by kernel_rfl) (enters_of Tryz.func40 (by kernel_rfl) rfl) _ an_k104 _ (fun x=>run_k104 (std 0) c_k102 x) P_k104 Q_k104 ?_
  rintro⟨n,b,p,⟨⟩⟩ ⟨q0,q1,q2,q3,_⟩
  apply w_k104
  all_goals (first | assumption | exact fun b p q0 q1 q2=>(ok_k102.1 (b,p,()) ⟨q0,⟨q1,⟨q2,trivial⟩⟩⟩).1 | exact fun b p q0 q1 q2=>(ok_k102.1 (b,p,()) ⟨q0,⟨q1,⟨q2,trivial⟩⟩⟩).2)
def P_k80:TupS s_k80.inp→Prop:=fun x=>(fun(c:List Int)=>(By c)∧(c.length<1000000000)∧True) x.1
def Q_k80:TupS s_k80.inp→TupS s_k80.out→Prop:=fun x y=>(fun(c:List Int) (y:List Atom×List Int×List Int×List Int×Unit)=>ShT y.1∧y.2.1.length≤1000∧y.2.2.1.length≤1000∧y.2.2.2.1.length≤1000∧wOK y.2.2.1∧wOK y.2.2.2.1) x.1 y
noncomputable def c_k80:Ct stdCar s_k80:= @mkCt lk_k80 _ (F_k80 (std 0) (c_k99).pre (c_k99).fn (c_k101).pre (c_k101).fn (c_k100).pre (c_k100).fn (c_k107).pre (c_k107).fn (c_k104).pre (c_k104).fn) P_k80 Q_k80
theorem ok_k80:Sp c_k80 P_k80 Q_k80∧TransOK E 15 (ctTrans c_k80):=by
  refine @contract lk_k80 X E hE hX hm _ (hlC ok_k99.2 (hlC ok_k101.2 (hlC ok_k100.2 (hlC ok_k107.2 (hlC ok_k104.2 hlN))))) ord_k80 15 _ _ Tryz.func15 (by kernel_rfl) (enters_of Tryz.func15 (by kernel_rfl) rfl) _ an_k80 _ (fun x=>run_k80 (std 0) c_k99 c_k101 c_k100 c_k107 c_k104 x) P_k80 Q_k80 ?_
  rintro⟨c,⟨⟩⟩ ⟨q0,q1,_⟩
  apply w_k80
  all_goals (first | assumption | exact fun b q0 q1=>(ok_k99.1 (b,()) ⟨q0,⟨q1,trivial⟩⟩).1 | exact fun b q0 q1=>(ok_k99.1 (b,()) ⟨q0,⟨q1,trivial⟩⟩).2 | exact fun n b p q0 q1 q2=>(ok_k101.1 (n,b,p,()) ⟨q0,⟨q1,⟨q2,trivial⟩⟩⟩).1 | exact fun n b p q0 q1 q2=>(ok_k101.1 (n,b,p,()) ⟨q0,⟨q1,⟨q2,trivial⟩⟩⟩).2 | exact fun n b p q0 q1 q2=>(ok_k100.1 (n,b,p,()) ⟨q0,⟨q1,⟨q2,trivial⟩⟩⟩).1 | exact fun n b p q0 q1 q2=>(ok_k100.1 (n,b,p,()) ⟨q0,⟨q1,⟨q2,trivial⟩⟩⟩).2 | exact fun n b p q0 q1 q2=>(ok_k107.1 (n,b,p,()) ⟨q0,⟨q1,⟨q2,trivial⟩⟩⟩).1 | exact fun n b p q0 q1 q2=>(ok_k107.1 (n,b,p,()) ⟨q0,⟨q1,⟨q2,trivial⟩⟩⟩).2 | exact fun n b p q0 q1 q2 q3=>(ok_k104.1 (n,b,p,()) ⟨q0,⟨q1,⟨q2,⟨q3,trivial⟩⟩⟩⟩).1 | exact fun n b p q0 q1 q2 q3=>(ok_k104.1 (n,b,p,()) ⟨q0,⟨q1,⟨q2,⟨q3,trivial⟩⟩⟩⟩).2)
def P_k41:TupS s_k41.inp→Prop:=fun x=>(fun(a:List Int)=>(a.length<1000000000)∧True) x.1
def Q_k41:TupS s_k41.inp→TupS s_k41.out→Prop:=fun x y=>(fun(a:List Int) (y:TupS s_k41.out)=>y=(bp (wOK a),())) x.1 y
noncomputable def c_k41:Ct stdCar s_k41:= @mkCt lk_k41 _ (F_k41 (std 0) (c_k30).pre (c_k30).fn) P_k41 Q_k41
theorem ok_k41:Sp c_k41 P_k41 Q_k41∧TransOK E 46 (ctTrans c_k41):=by
  refine @contract lk_k41 X E hE hX hm _ (hlC ok_k30.2 hlN) ord_k41 46 _ _ Tryz.func46 (by kernel_rfl) (enters_of Tryz.func46 (by kernel_rfl) rfl) _ an_k41 _ (fun x=>run_k41 (std 0) c_k30 x) P_k41 Q_k41 ?_
  rintro⟨a,⟨⟩⟩ ⟨q0,_⟩
  apply w_k41
  all_goals (first | assumption | exact fun a=>(ok_k30.1 (a,()) trivial).1 | exact fun a=>(ok_k30.1 (a,()) trivial).2)
def P_k40:TupS s_k40.inp→Prop:=fun x=>(fun(l:List Int) (k:Int)=>(0≤k)∧True) x.1 x.2.1
def Q_k40:TupS s_k40.inp→TupS s_k40.out→Prop:=fun x y=>(fun(l:List Int) (k:Int) (y:TupS s_k40.out)=>y=(valF l k,())) x.1 x.2.1 y
noncomputable def c_k40:Ct stdCar s_k40:= @mkCt lk_k40 _ (F_k40 (std 0)) P_k40 Q_k40
theorem ok_k40:Sp c_k40 P_k40 Q_k40∧TransOK E 47 (ctTrans c_k40):=by
  refine @contract lk_k40 X E hE hX hm _ hlN ord_k40 47 _ _ Tryz.func47 (by kernel_rfl) (enters_of Tryz.func47 (by kernel_rfl) rfl) _ an_k40 _ (fun x=>run_k40 (std 0) x) P_k40 Q_k40 ?_
  rintro⟨l,k,⟨⟩⟩ ⟨q0,_⟩
  apply w_k40
  all_goals (assumption)
def P_k27:TupS s_k27.inp→Prop:=fun x=>(fun(a:List Mono) (v:List Int)=>(PolOK a)∧(wOK v)∧(v.length<1000000000)∧True) x.1 x.2.1
def Q_k27:TupS s_k27.inp→TupS s_k27.out→Prop:=fun x y=>(fun(a:List Mono) (v:List Int) (y:TupS s_k27.out)=>y=(evF v a,())) x.1 x.2.1 y
noncomputable def c_k27:Ct stdCar s_k27:= @mkCt lk_k27 _ (F_k27 (std 0) (c_k31).pre (c_k31).fn) P_k27 Q_k27
theorem ok_k27:Sp c_k27 P_k27 Q_k27∧TransOK E 49 (ctTrans c_k27):=by
  refine @contract lk_k27 X E hE hX hm _ (hlC ok_k31.2 hlN) ord_k27 49 _ _ Tryz.func49 (by kernel_rfl) (enters_of Tryz.func49 (by kernel_rfl) rfl) _ an_k27 _ (fun x=>run_k27 (std 0) c_k31 x) P_k27 Q_k27 ?_
  rintro⟨a,v,⟨⟩⟩ ⟨q0,q1,q2,_⟩
  apply w_k27
  all_goals (first | assumption | exact fun a=>(ok_k31.1 (a,()) trivial).1 | exact fun a=>(ok_k31.1 (a,()) trivial).2)
def P_k25:TupS s_k25.inp→Prop:=fun x=>(fun(t:List Atom) (regs:List Int) (loads:List Int) (ins:List Int)=>(ShT t)∧(regs.length<1000000000)∧(loads.length<1000000000)∧(ins.length<1000000000)∧True) x.1 x.2.1 x.2.2.1 x.2.2.2.1
def Q_k25:TupS s_k25.inp→TupS s_k25.out→Prop:=fun x y=>(fun(t:List Atom) (regs:List Int) (loads:List Int) (ins:List Int) (y:TupS s_k25.out)=>y=(tabVals t regs loads ins,())) x.1 x.2.1 x.2.2.1 x.2.2.2.1 y
noncomputable def c_k25:Ct stdCar s_k25:= @mkCt lk_k25 _ (F_k25 (std 0) (c_k19).pre (c_k19).fn (c_k29).pre (c_k29).fn (c_k41).pre (c_k41).fn (c_k40).pre (c_k40).fn (c_k27).pre (c_k27).fn) P_k25 Q_k25
theorem ok_k25:Sp c_k25 P_k25 Q_k25∧TransOK E 17 (ctTrans c_k25):=by
  refine @contract lk_k25 X E hE hX hm _ (hlC ok_k19.2 (hlC ok_k29.2 (hlC ok_k41.2 (hlC ok_k40.2 (hlC ok_k27.2 hlN))))) ord_k25 17 _ _ Tryz.func17 (by kernel_rfl) (enters_of Tryz.func17 (by kernel_rfl) rfl) _ an_k25 _ (fun x=>run_k25 (std 0) c_k19 c_k29 c_k41 c_k40 c_k27 x) P_k25 Q_k25 ?_
  rintro⟨t,regs,loads,ins,⟨⟩⟩ ⟨q0,q1,q2,q3,_⟩
  apply w_k25
  all_goals (first | assumption | exact fun a q0=>(ok_k19.1 (a,()) ⟨q0,trivial⟩).1 | exact fun a q0=>(ok_k19.1 (a,()) ⟨q0,trivial⟩).2 | exact fun op a b=>(ok_k29.1 (op,a,b,()) trivial).1 | exact fun op a b=>(ok_k29.1 (op,a,b,()) trivial).2 | exact fun a q0=>(ok_k41.1 (a,()) ⟨q0,trivial⟩).1 | exact fun a q0=>(ok_k41.1 (a,()) ⟨q0,trivial⟩).2 | exact fun l k q0=>(ok_k40.1 (l,k,()) ⟨q0,trivial⟩).1 | exact fun l k q0=>(ok_k40.1 (l,k,()) ⟨q0,trivial⟩).2 | exact fun a v q0 q1 q2=>(ok_k27.1 (a,v,()) ⟨q0,⟨q1,⟨q2,trivial⟩⟩⟩).1 | exact fun a v q0 q1 q2=>(ok_k27.1 (a,v,()) ⟨q0,⟨q1,⟨q2,trivial⟩⟩⟩).2)
def P_k49:TupS s_k49.inp→Prop:=fun x=>(fun(a:List Int)=>(a.length<1000000000)∧True) x.1
def Q_k49:TupS s_k49.inp→TupS s_k49.out→Prop:=fun x y=>(fun(a:List Int) (y:TupS s_k49.out)=>y=(a.map (fun z=>z%65536),())) x.1 y
noncomputable def c_k49:Ct stdCar s_k49:= @mkCt lk_k49 _ (F_k49 (std 0) (c_k97).pre (c_k97).fn) P_k49 Q_k49
theorem ok_k49:Sp c_k49 P_k49 Q_k49∧TransOK E 18 (ctTrans c_k49):=by
  refine @contract lk_k49 X E hE hX hm _ (hlC ok_k97.2 hlN) ord_k49 18 _ _ Tryz.func18 (by kernel_rfl) (enters_of Tryz.func18 (by kernel_rfl) rfl) _ an_k49 _ (fun x=>run_k49 (std 0) c_k97 x) P_k49 Q_k49 ?_
  rintro⟨a,⟨⟩⟩ ⟨q0,_⟩
  apply w_k49
  all_goals (first | assumption | exact fun a=>(ok_k97.1 (a,()) trivial).1 | exact fun a=>(ok_k97.1 (a,()) trivial).2)
def P_k7:TupS s_k7.inp→Prop:=fun x=>(fun(a:List Mono) (v:List Int)=>(Sh a)∧(v.length<1000000000)∧True) x.1 x.2.1
def Q_k7:TupS s_k7.inp→TupS s_k7.out→Prop:=fun x y=>(fun(a:List Mono) (v:List Int) (y:TupS s_k7.out)=>y=(if bp (PolOK a∧wOK v)then evF v a else 0,())) x.1 x.2.1 y
noncomputable def c_k7:Ct stdCar s_k7:= @mkCt lk_k7 _ (F_k7 (std 0) (c_k10).pre (c_k10).fn (c_k41).pre (c_k41).fn (c_k27).pre (c_k27).fn) P_k7 Q_k7
theorem ok_k7:Sp c_k7 P_k7 Q_k7∧TransOK E 21 (ctTrans c_k7):=by
  refine @contract lk_k7 X E hE hX hm _ (hlC ok_k10.2 (hlC ok_k41.2 (hlC ok_k27.2 hlN))) ord_k7 21 _ _ Tryz.func21 (by kernel_rfl) (enters_of Tryz.func21 (by kernel_rfl) rfl) _ an_k7 _ (fun x=>run_k7 (std 0) c_k10 c_k41 c_k27 x) P_k7 Q_k7 ?_
  rintro⟨a,v,⟨⟩⟩ ⟨q0,q1,_⟩
  apply w_k7
  all_goals (first | assumption | exact fun a q0=>(ok_k10.1 (a,()) ⟨q0,trivial⟩).1 | exact fun a q0=>(ok_k10.1 (a,()) ⟨q0,trivial⟩).2 | exact fun a q0=>(ok_k41.1 (a,()) ⟨q0,trivial⟩).1 | exact fun a q0=>(ok_k41.1 (a,()) ⟨q0,trivial⟩).2 | exact fun a v q0 q1 q2=>(ok_k27.1 (a,v,()) ⟨q0,⟨q1,⟨q2,trivial⟩⟩⟩).1 | exact fun a v q0 q1 q2=>(ok_k27.1 (a,v,()) ⟨q0,⟨q1,⟨q2,trivial⟩⟩⟩).2)
def P_k42:TupS s_k42.inp→Prop:=fun x=>(fun(c:List Int) (d:List Int)=>(By c)∧(By d)∧True) x.1 x.2.1
def Q_k42:TupS s_k42.inp→TupS s_k42.out→Prop:=fun x y=>(fun(c:List Int) (d:List Int) (y:TupS s_k42.out)=>y=(true,())) x.1 x.2.1 y
noncomputable def c_k42:Ct stdCar s_k42:= @mkCt lk_k42 _ (F_k42 (std 0) (c_k95).pre (c_k95).fn (c_k92).pre (c_k92).fn (c_k79).pre (c_k79).fn (c_k19).pre (c_k19).fn (c_k18).pre (c_k18).fn (c_k46).pre (c_k46).fn (c_k45).pre (c_k45).fn (c_k47).pre (c_k47).fn (c_k48).pre (c_k48).fn (c_k80).pre (c_k80).fn (c_k25).pre (c_k25).fn (c_k49).pre (c_k49).fn (c_k7).pre (c_k7).fn) P_k42 Q_k42
theorem ok_k42:Sp c_k42 P_k42 Q_k42∧TransOK E 5 (ctTrans c_k42):=by
  refine @contract lk_k42 X E hE hX hm _ (hlC ok_k95.2 (hlC ok_k92.2 (hlC ok_k79.2 (hlC ok_k19.2 (hlC ok_k18.2 (hlC ok_k46.2 (hlC ok_k45.2 (hlC ok_k47.2 (hlC ok_k48.2 (hlC ok_k80.2 (hlC ok_k25.2 (hlC ok_k49.2 (hlC ok_k7.2 hlN))))))))))))) ord_k42 5 _ _ Tryz.func5 (by kernel_rfl) (enters_of Tryz.func5 (by kernel_rfl) rfl) _ an_k42 _ (fun x=>run_k42 (std 0) c_k95 c_k92 c_k79 c_k19 c_k18 c_k46 c_k45 c_k47 c_k48 c_k80 c_k25 c_k49 c_k7 x) P_k42 Q_k42 ?_
  rintro⟨c,d,⟨⟩⟩ ⟨q0,q1,_⟩
  apply w_k42
  all_goals (first | assumption | exact fun op a b=>(ok_k95.1 (op,a,b,()) trivial).1 | exact fun op a b=>(ok_k95.1 (op,a,b,()) trivial).2 | exact fun t op x y q0 q1 q2=>(ok_k92.1 (t,op,x,y,()) ⟨q0,⟨q1,⟨q2,trivial⟩⟩⟩).1 | exact fun t op x y q0 q1 q2=>(ok_k92.1 (t,op,x,y,()) ⟨q0,⟨q1,⟨q2,trivial⟩⟩⟩).2 | exact fun c q0 q1=>(ok_k79.1 (c,()) ⟨q0,⟨q1,trivial⟩⟩).1 | exact fun c q0 q1=>(ok_k79.1 (c,()) ⟨q0,⟨q1,trivial⟩⟩).2 | exact fun a q0=>(ok_k19.1 (a,()) ⟨q0,trivial⟩).1 | exact fun a q0=>(ok_k19.1 (a,()) ⟨q0,trivial⟩).2 | exact fun t op x y q0 q1 q2=>(ok_k18.1 (t,op,x,y,()) ⟨q0,⟨q1,⟨q2,trivial⟩⟩⟩).1 | exact fun t op x y q0 q1 q2=>(ok_k18.1 (t,op,x,y,()) ⟨q0,⟨q1,⟨q2,trivial⟩⟩⟩).2 | exact(ok_k46.1 () trivial).1 | exact(ok_k46.1 () trivial).2 | exact fun a b q0=>(ok_k45.1 (a,b,()) ⟨q0,trivial⟩).1 | exact fun a b q0=>(ok_k45.1 (a,b,()) ⟨q0,trivial⟩).2 | exact fun a b q0=>(ok_k47.1 (a,b,()) ⟨q0,trivial⟩).1 | exact fun a b q0=>(ok_k47.1 (a,b,()) ⟨q0,trivial⟩).2 | exact fun a b q0=>(ok_k48.1 (a,b,()) ⟨q0,trivial⟩).1 | exact fun a b q0=>(ok_k48.1 (a,b,()) ⟨q0,trivial⟩).2 | exact fun c q0 q1=>(ok_k80.1 (c,()) ⟨q0,⟨q1,trivial⟩⟩).1 | exact fun c q0 q1=>(ok_k80.1 (c,()) ⟨q0,⟨q1,trivial⟩⟩).2 | exact fun t regs loads ins q0 q1 q2 q3=>(ok_k25.1 (t,regs,loads,ins,()) ⟨q0,⟨q1,⟨q2,⟨q3,trivial⟩⟩⟩⟩).1 | exact fun t regs loads ins q0 q1 q2 q3=>(ok_k25.1 (t,regs,loads,ins,()) ⟨q0,⟨q1,⟨q2,⟨q3,trivial⟩⟩⟩⟩).2 | exact fun a q0=>(ok_k49.1 (a,()) ⟨q0,trivial⟩).1 | exact fun a q0=>(ok_k49.1 (a,()) ⟨q0,trivial⟩).2 | exact fun a v q0 q1=>(ok_k7.1 (a,v,()) ⟨q0,⟨q1,trivial⟩⟩).1 | exact fun a v q0 q1=>(ok_k7.1 (a,v,()) ⟨q0,⟨q1,trivial⟩⟩).2)
end Go.TX.F
namespace Go.Proofs.YtlfjmffimnjcgaaGreat
open Go.ChangeShapes Go.WideShapes Go.ChangeAt Go.RowKit
theorem tOwn:ownKnob Tryz.prog.godebug=Option.none:=by kernel_rfl
theorem tLaid:laidOutB Tryz.prog=true:=by kernel_rfl
theorem tCells:Tryz.prog.cellsOf 5=1:=by kernel_rfl
set_option maxRecDepth 100000 in
theorem lifted (os:Os) (started:os.Started) (H:Type) (enc:TypeId×Value→H):
    ReturnsInHanded {} Tryz.checked os 5 .any (Rows.fnTabDoSpec.pre6 enc Tryz.prog Tryz.f5 Rows.fnTabDoRow.domain false) (Rows.fnTabDoSpec.post enc Tryz.prog Tryz.f5 false true false false):=by
  refine returnsInHanded_of_change (C:=Tryz.checked) tOwn started (by kernel_rfl) Tryz.func5
    (ChangeSpec.witness6 (enc:=enc) (C:=Tryz.checked) false ⟨#[], #[.slice none 0 0,.slice none 0 0],[]⟩ 8 (by kernel_rfl) (by kernel_rfl) (by kernel_rfl) (by kernel_rfl)) ?_
  intro W base args ds gs before hval0 hW _ _
  have hval:∀(j:Nat) t v,Tryz.f5.params[j]? =some t→args[j]? =some v→Value.okWide Tryz.prog W .any base t v:=hval0
  have hW':=hW
  obtain⟨p,q,hA0,hV,rfl,_,_⟩:=hW
  have hA:DataW.TrodAll enc Tryz.prog W 0 (fun _=>true) true Tryz.f5.params.toList args.toList ds p:=hA0
  rw [Tryz.params5]at hA hval
  obtain⟨v0,v1,d0,d1,p0,p1,rfl,rfl,rfl,h0,h1⟩:=trodAll_two hA
  obtain⟨rfl,rfl⟩:=trodVars_none hV
  clear hA0 hval0
  simp only [List.append_nil]at hW'
  have hlt:∀x∈p0++p1,x.block<W.heap.size:=fun x hx=>by simpa using hW'.lt x (by simpa using hx)
  have hl0:∀x∈p0,x.block<W.heap.size:=fun x hx=>hlt x (List.mem_append_left _ hx)
  have hl1:∀x∈p1,x.block<W.heap.size:=fun x hx=>hlt x (List.mem_append_right _ hx)
  obtain⟨xs,hr,hb⟩:=Go.TX.open_law Tryz.underlying22 Tryz.underlying5 tCells (hval 0 22 v0 rfl rfl) h0 hl0
  obtain⟨ys,hs,hc⟩:=Go.TX.open_law Tryz.underlying22 Tryz.underlying5 tCells (hval 1 22 v1 rfl rfl) h1 hl1
  obtain⟨hp,hq⟩:=Go.TX.F.ok_k42.1 (xs,ys,()) ⟨hb,hc,trivial⟩
  refine(Go.TX.law2 Go.TX.F.ok_k42.2 hr hs (fun g d h=>by cases h) hp).mono fun e W' ⟨he,hw⟩=> ?_
  have he:e= .returned (.bool true):=by rw [he,show Go.TX.F.c_k42.fn (xs,ys,())=(true,())from hq]
  refine⟨_,he,[d0,d1],[],p0++p1,[],p0++p1,[],hW',trodAll_mk1 (shut_bool Tryz.underlying4 true),?_,rfl,hw.frame _,fun h=>by cases h⟩
  exact trodAll_mk2 (Below.trod tLaid (by kernel_rfl) (of_decide_eq_true (by kernel_rfl)) h0 hw hl0) (Below.trod tLaid (by kernel_rfl) (of_decide_eq_true (by kernel_rfl)) h1 hw hl1)
theorem x_holds:Rows.FnTabDoSaid:=
  OpenClaim.holds_of_wide 5 Tryz.f5 rfl rfl rfl rfl rfl rfl rfl ⟨rfl,rfl,rfl,rfl,rfl⟩ rfl rfl rfl rfl rfl (by kernel_rfl) Tryz.func5 (by kernel_rfl)
    (of_decide_eq_true (by kernel_rfl)) (by unfold Func.isWrapper;first | (rw [if_pos (by decide+kernel)];kernel_rfl) | (rw [if_neg (by decide+kernel)];exact⟨rfl,rfl⟩))
    (fun os started H enc _=>lifted os started H enc)
end Go.Proofs.YtlfjmffimnjcgaaGreat
