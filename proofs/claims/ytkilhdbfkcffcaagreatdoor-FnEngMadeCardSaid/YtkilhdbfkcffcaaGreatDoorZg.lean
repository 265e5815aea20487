/- Part 7 of a proof: what the last part needs. No condition. -/
import Derived.Test.YtkilhdbfkcffcaaGreatDoorZf
import Derived.Test.YtkilhdbfkcffcaaGreatDoorRows
import Derived.Test.YtkilhdbfkcffcaaGreatDoorTie
import Derived.Test.YtkilhdbfkcffcaaGreatDoorCards
import Derived.SevenTiedAt
set_option maxHeartbeats 1000000
set_option linter.all false
set_option linter.unusedSectionVars false
set_option linter.unusedVariables false
set_option linter.unusedSimpArgs false
namespace Go.Proofs.YtkilhdbfkcffcaaGreatDoor
open Go.ChangeShapes Go.WideShapes Go.ChangeAt Go.RowKit
def avs:ownKnob Tryz.prog.godebug=Option.none:=by kernel_rfl
def NZ:laidOutB Tryz.prog=true:=by kernel_rfl
def Rb:Tryz.prog.cellsOf 5=1:=by kernel_rfl
abbrev zL:List (String×DataW Unit):=Rows.fnEngMadeRow.laid
def abC:Tryz.prog.globalNamed (Rows.fnEngMadeRow.named.getD 0 Rows.fnEngMadeRow.func)=some 0:=by kernel_rfl
def abD:(Tryz.prog.globals[0]?).map (·.type)=some 214:=by kernel_rfl
def Lp(os:Os)(a:Array Value):laidMetH Tryz.prog zL ((World.doorLaid Tryz.prog 400 os).forCall (λ_ _=>0) ⟨#[],a,[]⟩).memory:=
 laidMetH_of_parts3 (fuel:=8) (laidMet_of_run' 8 (by kernel_rfl) (by kernel_rfl)) (by kernel_rfl) (by kernel_rfl)
def Rc{W:World}(h:laidMetH Tryz.prog zL W):Go.AE.oZ Go.TX.Seat.E (Go.TX.entry W) W:=by
 rw [MakeChecks.laidMetH_plain _ _ _ (by kernel_rfl)]at h;obtain⟨o,⟨p,q,l,n,s,m,b,i,f,j,_,_⟩,_⟩:=h;obtain rfl:=Option.some.inj (abC.symm.trans b);obtain rfl:=Option.some.inj (abD.symm.trans i);obtain⟨v,e,r⟩:=Go.TX.ajl (c:= .form) (dec:=Go.TX.auY) Tryz.underlying214 (by kernel_rfl) (by decide) (Go.TX.adb Tryz.underlying213 (by kernel_rfl) ⟨rfl,rfl,rfl,rfl⟩ ⟨rfl,rfl,rfl,rfl⟩ Tryz.underlying4 Tryz.underlying3 Tryz.underlying211 Tryz.underlying9 ⟨by kernel_rfl,by kernel_rfl,by kernel_rfl,by kernel_rfl⟩) j;have hc:=World.var?_cell b f 0;rw [Array.eq_one_of_toList e]at hc;have hc:W.cell? ⟨0,0,none⟩=some v:=by simpa using hc
 intro g d k;have a:(if g==0 then some (.rows 4 (Go.TX.aM .form Go.TX.vG))else none)=some d:=k;split at a
 .rename_i c;have c:=beq_iff_eq.1 c;subst c;cases a;exact⟨Go.TX.QC hc,v,hc,r⟩
 .cases a
set_option maxRecDepth 100000 in
def lifted(os:Os)(b:os.Started)(H:Type)(enc:TypeId×Value->H):
  ReturnsInHanded {} Tryz.checked os 4 .any (λw a=>(Rows.fnEngMadeSpec.pre enc Tryz.prog Tryz.f4 [] false w a/\laidMetH Tryz.prog zL w)/\sizedMet enc Tryz.prog Tryz.f4 (OpenSpec.ofChange Rows.fnEngMadeSpec) false w a) (Rows.fnEngMadeSpec.post enc Tryz.prog Tryz.f4 false true false false):=by
 refine returnsInHanded_of_change_and (C:=Tryz.checked) (X:=λw _=>laidMetH Tryz.prog zL w) (λ_ _ _ S h=>h.of_heap S) avs b (by kernel_rfl) Tryz.func4
  (ChangeSpec.witness_shaped (enc:=enc) (C:=Tryz.checked) (os:=os) (X:=λw _=>laidMetH Tryz.prog zL w) false (World.doorLaid Tryz.prog 400 os) #[.slice none 0 0,.slice none 0 0] 8 rfl (World.shaped_of_RefB (by kernel_rfl) (by kernel_rfl)) (by kernel_rfl) (by kernel_rfl) (by kernel_rfl) (Lp os _)) ?_
 intro W i a O Z o d D _ _ P _;have c:∀(j:Nat) t v,Tryz.f4.params[j]? =some t->a[j]? =some v->Value.okWide Tryz.prog W .any i t v:=d;have l:=D;obtain⟨p,q,k,J,rfl,_,_⟩:=D;have F:DataW.TrodAll enc Tryz.prog W 0 (λ_=>true) true Tryz.f4.params.toList a.toList O p:=k;rw [Tryz.params4]at F c;obtain⟨V,N,R,M,u,s,rfl,rfl,rfl,A,E⟩:=trodAll_two F;obtain⟨_,_,_,_,L,_,rfl,_,_,_,_,_⟩:=trodVars_one J
 clear k d
 have f:∀x∈u++s,x.block<W.heap.size:=λx m=>by simpa using l.lt x (List.mem_append_left _ m)
 have g:∀x∈u,x.block<W.heap.size:=λx m=>f x (List.mem_append_left _ m)
 have n:∀x∈s,x.block<W.heap.size:=λx m=>f x (List.mem_append_right _ m)
 obtain⟨G,T,B⟩:=Go.TX.Kh Tryz.underlying22 Tryz.underlying5 Rb (c 0 22 V rfl rfl) A g;obtain⟨I,U,hc⟩:=Go.TX.Kh Tryz.underlying22 Tryz.underlying5 Rb (c 1 22 N rfl rfl) E n;have Q:=Go.TX.F.avo G I B hc;have K:=Go.TX.F.avp G I B hc;refine(Go.TX.aAz Go.TX.F.alW.ok T U (Rc P) Q).mono λe Y ⟨y,r⟩=> ?_
 have y:e= .returned (.bool true):=y.trans (congrArg (λz:Bool×Unit=>Ending.returned (.bool z.1)) K);refine⟨_,y,[R,M],[L],(u++s)++q,[],u++s,q,l,trodAll_mk1 (shut_bool Tryz.underlying4 true),?_,r.trodVars NZ (by kernel_rfl) J,r.frame _,λh=>by cases h⟩;exact trodAll_mk2 (Below.trod NZ (by kernel_rfl) (of_decide_eq_true (by kernel_rfl)) A r g) (Below.trod NZ (by kernel_rfl) (of_decide_eq_true (by kernel_rfl)) E r n)
end Go.Proofs.YtkilhdbfkcffcaaGreatDoor
