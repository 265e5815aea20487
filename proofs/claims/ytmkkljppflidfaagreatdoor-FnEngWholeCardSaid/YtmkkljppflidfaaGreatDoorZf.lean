/- Part 6 of a proof: what the last part needs. No condition. -/
import Derived.Test.YtmkkljppflidfaaGreatDoorZe
import Derived.Test.YtmkkljppflidfaaGreatDoorRows
import Derived.Test.YtmkkljppflidfaaGreatDoorTie
import Derived.Test.YtmkkljppflidfaaGreatDoorCards
import Derived.SevenTiedAt
set_option maxHeartbeats 1000000
set_option linter.all false
set_option linter.unusedSectionVars false
set_option linter.unusedVariables false
set_option linter.unusedSimpArgs false
namespace Go.Proofs.YtmkkljppflidfaaGreatDoor
open Go.ChangeShapes Go.WideShapes Go.ChangeAt Go.RowKit
def al4:ownKnob Tryz.prog.godebug=Option.none:=by kernel_rfl
def Nv:laidOutB Tryz.prog=true:=by kernel_rfl
def Ti:Tryz.prog.cellsOf 5=1:=by kernel_rfl
abbrev wZ:List (String×DataW Unit):=Rows.fnEngWholeRow.laid
def Tj:Tryz.prog.globalNamed (Rows.fnEngWholeRow.named.getD 0 Rows.fnEngWholeRow.func)=some 0:=by kernel_rfl
def Tk:(Tryz.prog.globals[0]?).map (·.type)=some 190:=by kernel_rfl
def GH(os:Os)(a:Array Value):laidMetH Tryz.prog wZ ((World.doorLaid Tryz.prog 400 os).forCall (λ_ _=>0) ⟨#[],a,[]⟩).memory:=
 laidMetH_of_parts3 (fuel:=8) (laidMet_of_run' 8 (by kernel_rfl) (by kernel_rfl)) (by kernel_rfl) (by kernel_rfl)
def K7{W:World}(h:laidMetH Tryz.prog wZ W):Go.AE.oD Go.TX.Seat.E (Go.TX.entry W) W:=by
 rw [MakeChecks.laidMetH_plain _ _ _ (by kernel_rfl)]at h;obtain⟨o,⟨p,q,l,n,s,m,b,i,f,j,_,_⟩,_⟩:=h;obtain rfl:=Option.some.inj (Tj.symm.trans b);obtain rfl:=Option.some.inj (Tk.symm.trans i);obtain⟨v,e,r⟩:=Go.TX.acf (c:= .form) (dec:=Go.TX.alA) Tryz.underlying190 (by kernel_rfl) (by decide) (Go.TX.Vr Tryz.underlying189 (by kernel_rfl) ⟨rfl,rfl,rfl,rfl⟩ ⟨rfl,rfl,rfl,rfl⟩ Tryz.underlying4 Tryz.underlying3 Tryz.underlying187 Tryz.underlying9 ⟨by kernel_rfl,by kernel_rfl,by kernel_rfl,by kernel_rfl⟩) j;have hc:=World.var?_cell b f 0;rw [Array.eq_one_of_toList e]at hc;have hc:W.cell? ⟨0,0,none⟩=some v:=by simpa using hc
 intro g d k;have a:(if g==0 then some (.rows 4 (Go.TX.aM .form Go.TX.sJ))else none)=some d:=k;split at a
 .rename_i c;have c:=beq_iff_eq.1 c;subst c;cases a;exact⟨Go.TX.KN hc,v,hc,r⟩
 .cases a
set_option maxRecDepth 100000 in
def lifted(os:Os)(b:os.Started)(H:Type)(enc:TypeId×Value->H):
  ReturnsInHanded {} Tryz.checked os 3 .any (λw a=>(Rows.fnEngWholeSpec.pre enc Tryz.prog Tryz.f3 [] false w a/\laidMetH Tryz.prog wZ w)/\sizedMet enc Tryz.prog Tryz.f3 (OpenSpec.ofChange Rows.fnEngWholeSpec) false w a) (Rows.fnEngWholeSpec.post enc Tryz.prog Tryz.f3 false true false false):=by
 refine returnsInHanded_of_change_and (C:=Tryz.checked) (X:=λw _=>laidMetH Tryz.prog wZ w) (λ_ _ _ J h=>h.of_heap J) al4 b (by kernel_rfl) Tryz.func3
  (ChangeSpec.witness_shaped (enc:=enc) (C:=Tryz.checked) (os:=os) (X:=λw _=>laidMetH Tryz.prog wZ w) false (World.doorLaid Tryz.prog 400 os) #[.slice none 0 0] 8 rfl (World.shaped_of_RefB (by kernel_rfl) (by kernel_rfl)) (by kernel_rfl) (by kernel_rfl) (by kernel_rfl) (GH os _)) ?_
 intro W g a E N l c s _ _ F _;have d:∀(j:Nat) t v,Tryz.f3.params[j]? =some t->a[j]? =some v->Value.okWide Tryz.prog W .any g t v:=c;have k:=s;obtain⟨p,q,i,A,rfl,_,_⟩:=s;have u:DataW.TrodAll enc Tryz.prog W 0 (λ_=>true) true Tryz.f3.params.toList a.toList E p:=i;rw [Tryz.params3]at u d;obtain⟨M,I,rfl,rfl,o⟩:=trodAll_one u;obtain⟨_,_,_,_,D,_,rfl,_,_,_,_,_⟩:=trodVars_one A
 clear i c
 have f:∀x∈p,x.block<W.heap.size:=λx L=>by simpa using k.lt x (List.mem_append_left _ L)
 obtain⟨y,K,r⟩:=Go.TX.Np Tryz.underlying22 Tryz.underlying5 Ti (d 0 22 M rfl rfl) o f;have G:=Go.TX.F.al0 y r;have B:=Go.TX.F.al1 y r;refine(Go.TX.apk Go.TX.F.adX.ok K (K7 F) G).mono λe O ⟨n,m⟩=> ?_
 have n:e= .returned (.bool true):=n.trans (congrArg (λz:Bool×Unit=>Ending.returned (.bool z.1)) B);refine⟨_,n,[I],[D],p++q,[],p,q,k,trodAll_mk1 (shut_bool Tryz.underlying4 true),?_,m.trodVars Nv (by kernel_rfl) A,m.frame _,λh=>by cases h⟩;exact trodAll_mk1 (Below.trod Nv (by kernel_rfl) (of_decide_eq_true (by kernel_rfl)) o m f)
end Go.Proofs.YtmkkljppflidfaaGreatDoor
