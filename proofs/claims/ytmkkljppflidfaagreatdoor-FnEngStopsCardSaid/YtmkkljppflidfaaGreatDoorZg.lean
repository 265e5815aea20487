/- Part 7 of a proof: what the last part needs. No condition. -/
import Derived.Test.YtmkkljppflidfaaGreatDoorZf
import Derived.Test.YtmkkljppflidfaaGreatDoorRows
import Derived.Test.YtmkkljppflidfaaGreatDoorTie
import Derived.Test.YtmkkljppflidfaaGreatDoorCards
import Derived.SevenTiedAt
set_option maxHeartbeats 1000000
set_option linter.all false
set_option linter.unusedSectionVars false
set_option linter.unusedVariables false
set_option linter.unusedSimpArgs false
namespace Go.Proofs.YtmkkljppflidfaaGreatDoor
open Go.ChangeShapes Go.WideShapes Go.ChangeAt Go.RowKit
def LG:ownKnob Tryz.prog.godebug=Option.none:=by kernel_rfl
def pW:laidOutB Tryz.prog=true:=by kernel_rfl
def sG:Tryz.prog.cellsOf 5=1:=by kernel_rfl
abbrev fK:List (String×DataW Unit):=Rows.fnEngStopsRow.laid
def sH:Tryz.prog.globalNamed (Rows.fnEngStopsRow.named.getD 0 Rows.fnEngStopsRow.func)=some 0:=by kernel_rfl
def sI:(Tryz.prog.globals[0]?).map (·.type)=some 190:=by kernel_rfl
def kP(os:Os)(a:Array Value):laidMetH Tryz.prog fK ((World.doorLaid Tryz.prog 400 os).forCall (λ_ _=>0) ⟨#[],a,[]⟩).memory:=
 laidMetH_of_parts3 (fuel:=8) (laidMet_of_run' 8 (by kernel_rfl) (by kernel_rfl)) (by kernel_rfl) (by kernel_rfl)
def oF{W:World}(h:laidMetH Tryz.prog fK W):Go.AE.lV Go.TX.Seat.E (Go.TX.entry W) W:=by
 rw [MakeChecks.laidMetH_plain _ _ _ (by kernel_rfl)]at h;obtain⟨o,⟨p,q,l,n,s,m,b,i,f,j,_,_⟩,_⟩:=h;obtain rfl:=Option.some.inj (sH.symm.trans b);obtain rfl:=Option.some.inj (sI.symm.trans i);obtain⟨v,e,r⟩:=Go.TX.Kq (c:= .form) (dec:=Go.TX.aaR) Tryz.underlying190 (by kernel_rfl) (by decide) (Go.TX.A9 Tryz.underlying189 (by kernel_rfl) ⟨rfl,rfl,rfl,rfl⟩ ⟨rfl,rfl,rfl,rfl⟩ Tryz.underlying4 Tryz.underlying3 Tryz.underlying187 Tryz.underlying9 ⟨by kernel_rfl,by kernel_rfl,by kernel_rfl,by kernel_rfl⟩) j;have hc:=World.var?_cell b f 0;rw [Array.eq_one_of_toList e]at hc;have hc:W.cell? ⟨0,0,none⟩=some v:=by simpa using hc
 intro g d k;have a:(if g==0 then some (.rows 4 (Go.TX.aN .form Go.TX.oP))else none)=some d:=k;split at a
 .rename_i c;have c:=beq_iff_eq.1 c;subst c;cases a;exact⟨Go.TX.wK hc,v,hc,r⟩
 .cases a
set_option maxRecDepth 100000 in
def lifted(os:Os)(b:os.Started)(H:Type)(enc:TypeId×Value->H):
  ReturnsInHanded {} Tryz.checked os 10 .any (λw a=>(Rows.fnEngStopsSpec.pre enc Tryz.prog Tryz.f10 [] false w a/\laidMetH Tryz.prog fK w)/\sizedMet enc Tryz.prog Tryz.f10 (OpenSpec.ofChange Rows.fnEngStopsSpec) false w a) (Rows.fnEngStopsSpec.post enc Tryz.prog Tryz.f10 false true false false):=by
 refine returnsInHanded_of_change_and (C:=Tryz.checked) (X:=λw _=>laidMetH Tryz.prog fK w) (λ_ _ _ J h=>h.of_heap J) LG b (by kernel_rfl) Tryz.func10
  (ChangeSpec.witness_shaped (enc:=enc) (C:=Tryz.checked) (os:=os) (X:=λw _=>laidMetH Tryz.prog fK w) false (World.doorLaid Tryz.prog 400 os) #[.slice none 0 0] 8 rfl (World.shaped_of_RefB (by kernel_rfl) (by kernel_rfl)) (by kernel_rfl) (by kernel_rfl) (by kernel_rfl) (kP os _)) ?_
 intro W g a E N l c s _ _ F _;have d:∀(j:Nat) t v,Tryz.f10.params[j]? =some t->a[j]? =some v->Value.okWide Tryz.prog W .any g t v:=c;have k:=s;obtain⟨p,q,i,A,rfl,_,_⟩:=s;have u:DataW.TrodAll enc Tryz.prog W 0 (λ_=>true) true Tryz.f10.params.toList a.toList E p:=i;rw [Tryz.params10]at u d;obtain⟨M,I,rfl,rfl,o⟩:=trodAll_one u;obtain⟨_,_,_,_,D,_,rfl,_,_,_,_,_⟩:=trodVars_one A
 clear i c
 have f:∀x∈p,x.block<W.heap.size:=λx L=>by simpa using k.lt x (List.mem_append_left _ L)
 obtain⟨y,K,r⟩:=Go.TX.vE Tryz.underlying22 Tryz.underlying5 sG (d 0 22 M rfl rfl) o f;have G:=Go.TX.F.avH y r;have B:=Go.TX.F.avI y r;refine(Go.TX.aey Go.TX.F.amc.ok K (oF F) G).mono λe O ⟨n,m⟩=> ?_
 have n:e= .returned (.bool true):=n.trans (congrArg (λz:Bool×Unit=>Ending.returned (.bool z.1)) B);refine⟨_,n,[I],[D],p++q,[],p,q,k,trodAll_mk1 (shut_bool Tryz.underlying4 true),?_,m.trodVars pW (by kernel_rfl) A,m.frame _,λh=>by cases h⟩;exact trodAll_mk1 (Below.trod pW (by kernel_rfl) (of_decide_eq_true (by kernel_rfl)) o m f)
end Go.Proofs.YtmkkljppflidfaaGreatDoor
