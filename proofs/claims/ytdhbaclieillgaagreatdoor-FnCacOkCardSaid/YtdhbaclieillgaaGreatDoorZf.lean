/- Part 6 of a proof: what the last part needs. No condition. -/
import Derived.Test.YtdhbaclieillgaaGreatDoorZe
import Derived.Test.YtdhbaclieillgaaGreatDoorRows
import Derived.Test.YtdhbaclieillgaaGreatDoorTie
import Derived.Test.YtdhbaclieillgaaGreatDoorCards
import Derived.SevenTiedAt
set_option maxHeartbeats 1000000
set_option linter.all false
set_option linter.unusedSectionVars false
set_option linter.unusedVariables false
set_option linter.unusedSimpArgs false
namespace Go.Proofs.YtdhbaclieillgaaGreatDoor
open Go.ChangeShapes Go.WideShapes Go.ChangeAt Go.RowKit
def avv:ownKnob Tryz.prog.godebug=Option.none:=by kernel_rfl
def ak5:laidOutB Tryz.prog=true:=by kernel_rfl
def aqA:Tryz.prog.cellsOf 5=1:=by kernel_rfl
abbrev Qr:List (String×DataW Unit):=Rows.fnCacOkRow.laid
def aqB:Tryz.prog.globalNamed (Rows.fnCacOkRow.named.getD 0 Rows.fnCacOkRow.func)=some 0:=by kernel_rfl
def aqC:(Tryz.prog.globals[0]?).map (·.type)=some 212:=by kernel_rfl
def ain(os:Os)(a:Array Value):laidMetH Tryz.prog Qr ((World.doorLaid Tryz.prog 400 os).forCall (λ_ _=>0) ⟨#[],a,[]⟩).memory:=
 laidMetH_of_parts3 (fuel:=8) (laidMet_of_run' 8 (by kernel_rfl) (by kernel_rfl)) (by kernel_rfl) (by kernel_rfl)
def ajO{W:World}(h:laidMetH Tryz.prog Qr W):Go.AE.qW Go.TX.Seat.E (Go.TX.entry W) W:=by
 rw [MakeChecks.laidMetH_plain _ _ _ (by kernel_rfl)]at h;obtain⟨q,⟨o,m,k,n,s,p,b,i,f,j,_,_⟩,_⟩:=h;obtain rfl:=Option.some.inj (aqB.symm.trans b);obtain rfl:=Option.some.inj (aqC.symm.trans i);obtain⟨v,e,r⟩:=Go.TX.akv (c:= .form) (dec:=Go.TX.atP) Tryz.underlying212 (by kernel_rfl) (by decide) (Go.TX.ajL Tryz.underlying211 (by kernel_rfl) ⟨rfl,rfl,rfl,rfl⟩ ⟨rfl,rfl,rfl,rfl⟩ Tryz.underlying4 Tryz.underlying3 Tryz.underlying209 Tryz.underlying9 ⟨by kernel_rfl,by kernel_rfl,by kernel_rfl,by kernel_rfl⟩) j;have hc:=World.var?_cell b f 0;rw [Array.eq_one_of_toList e]at hc;have hc:W.cell? ⟨0,0,none⟩=some v:=by simpa using hc
 intro g d l;have a:(if g==0 then some (.rows 4 (Go.TX.aO .form Go.TX.wK))else none)=some d:=l;split at a
 .rename_i c;have c:=beq_iff_eq.1 c;subst c;cases a;exact⟨Go.TX.aam hc,v,hc,r⟩
 .cases a
set_option maxRecDepth 100000 in
def lifted(os:Os)(b:os.Started)(H:Type)(enc:TypeId×Value->H):
  ReturnsInHanded {} Tryz.checked os 5 .any (λw a=>(Rows.fnCacOkSpec.pre enc Tryz.prog Tryz.f5 [] false w a/\laidMetH Tryz.prog Qr w)/\sizedMet enc Tryz.prog Tryz.f5 (OpenSpec.ofChange Rows.fnCacOkSpec) false w a) (Rows.fnCacOkSpec.post enc Tryz.prog Tryz.f5 false true false false):=by
 refine returnsInHanded_of_change_and (C:=Tryz.checked) (X:=λw _=>laidMetH Tryz.prog Qr w) (λ_ _ _ B h=>h.of_heap B) avv b (by kernel_rfl) Tryz.func5
  (ChangeSpec.witness_shaped (enc:=enc) (C:=Tryz.checked) (os:=os) (X:=λw _=>laidMetH Tryz.prog Qr w) false (World.doorLaid Tryz.prog 400 os) #[.slice none 0 0] 8 rfl (World.shaped_of_RefB (by kernel_rfl) (by kernel_rfl)) (by kernel_rfl) (by kernel_rfl) (by kernel_rfl) (ain os _)) ?_
 intro W f a F O l c s _ _ E _;have d:∀(j:Nat) t v,Tryz.f5.params[j]? =some t->a[j]? =some v->Value.okWide Tryz.prog W .any f t v:=c;have g:=s;obtain⟨p,q,i,y,rfl,_,_⟩:=s;have A:DataW.TrodAll enc Tryz.prog W 0 (λ_=>true) true Tryz.f5.params.toList a.toList F p:=i;rw [Tryz.params5]at A d;obtain⟨L,G,rfl,rfl,u⟩:=trodAll_one A;obtain⟨_,_,_,_,J,_,rfl,_,_,_,_,_⟩:=trodVars_one y
 clear i c
 have k:∀x∈p,x.block<W.heap.size:=λx M=>by simpa using g.lt x (List.mem_append_left _ M)
 obtain⟨o,I,r⟩:=Go.TX.afU Tryz.underlying22 Tryz.underlying5 aqA (d 0 22 L rfl rfl) u k;have K:=Go.TX.F.aqy o r;have D:=Go.TX.F.aqz o r;refine(Go.TX.avs Go.TX.F.ail.ok I (ajO E) K).mono λe N ⟨n,m⟩=> ?_
 have n:e= .returned (.bool true):=n.trans (congrArg (λz:Bool×Unit=>Ending.returned (.bool z.1)) D);refine⟨_,n,[G],[J],p++q,[],p,q,g,trodAll_mk1 (shut_bool Tryz.underlying4 true),?_,m.trodVars ak5 (by kernel_rfl) y,m.frame _,λh=>by cases h⟩;exact trodAll_mk1 (Below.trod ak5 (by kernel_rfl) (of_decide_eq_true (by kernel_rfl)) u m k)
end Go.Proofs.YtdhbaclieillgaaGreatDoor
