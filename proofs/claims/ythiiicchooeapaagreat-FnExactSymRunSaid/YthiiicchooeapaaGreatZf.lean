/- Part 6 of a proof: what the last part needs. No condition. -/
import Derived.Test.YthiiicchooeapaaGreatZe
import Derived.Test.YthiiicchooeapaaGreatRows
import Derived.Carry
set_option maxHeartbeats 1000000
set_option linter.all false
set_option linter.unusedSectionVars false
set_option linter.unusedVariables false
set_option linter.unusedSimpArgs false
namespace Go.Proofs.YthiiicchooeapaaGreat
open Go.ChangeShapes Go.WideShapes Go.ChangeAt Go.RowKit
def amS:ownKnob Tryz.prog.godebug=Option.none:=by kernel_rfl
def ae7:laidOutB Tryz.prog=true:=by kernel_rfl
set_option maxRecDepth 100000 in
def lifted(os:Os)(started:os.Started)(H:Type)(enc:TypeId×Value->H):
  ReturnsInHanded {} Tryz.checked os 4 .any (Rows.fnExactSymRunSpec.pre6 enc Tryz.prog Tryz.f4 Rows.fnExactSymRunRow.domain false) (Rows.fnExactSymRunSpec.post enc Tryz.prog Tryz.f4 false true false false):=by
 refine returnsInHanded_of_change (C:=Tryz.checked) amS started (by kernel_rfl) Tryz.func4
  (ChangeSpec.witness6 (enc:=enc) (C:=Tryz.checked) false ⟨#[], #[.agg #[.slice none 0 0],.agg #[.int .i64 0,.int .i64 0,.slice none 0 0,.int .i64 0,.int .i64 0,.int .i64 0,.int .i64 0]],[]⟩ 8 (by kernel_rfl) (by kernel_rfl) (by kernel_rfl) (by kernel_rfl)) ?_
 intro W base args ds gs before hval0 hW _ _;have hval:∀(j:Nat) t v,Tryz.f4.params[j]? =some t->args[j]? =some v->Value.okWide Tryz.prog W .any base t v:=hval0;have hW':=hW;obtain⟨p,q,hA0,hV,rfl,_,_⟩:=hW;have hA:DataW.TrodAll enc Tryz.prog W 0 (λ_=>true) true Tryz.f4.params.toList args.toList ds p:=hA0;rw [Tryz.params4]at hA hval;obtain⟨v0,v1,d0,d1,p0,p1,rfl,rfl,rfl,h0,h1⟩:=trodAll_two hA;obtain⟨rfl,rfl⟩:=trodVars_none hV
 clear hA0 hval0
 simp only [List.append_nil]at hW';have ak5:Go.TX.EO enc Tryz.prog W .mono Go.TX.OG 126:=Go.TX.ac9 Tryz.underlying126 (by kernel_rfl) (.cons rfl (by kernel_rfl) (Go.TX.ahv Tryz.underlying3)<| .cons rfl (by kernel_rfl) (Go.TX.amf Tryz.underlying124 Tryz.underlying3 (by kernel_rfl))<| .nil);have ab3:=Go.TX.UD Tryz.underlying25 (by kernel_rfl) (by decide) ak5;have ae8:=Go.TX.ahw Tryz.underlying27 (by kernel_rfl) ⟨rfl,rfl⟩ (by kernel_rfl) ab3;have am4:Go.TX.EO enc Tryz.prog W .poly Go.TX.PG 27:=Go.TX.adb Tryz.underlying27 (by kernel_rfl) (.cons rfl (by kernel_rfl) ab3<| .nil);have ak6:Go.TX.EO enc Tryz.prog W .atom Go.TX.AG 122:=Go.TX.ada Tryz.underlying122 (by kernel_rfl) (.cons rfl (by kernel_rfl) (Go.TX.ahv Tryz.underlying3)<| .cons rfl (by kernel_rfl) (Go.TX.ahv Tryz.underlying3)<| .cons rfl (by kernel_rfl) ae8<| .cons rfl (by kernel_rfl) ae8<| .nil);have amT:Go.TX.EO enc Tryz.prog W .tab Go.TX.TG 24:=Go.TX.ahx Tryz.underlying24 (by kernel_rfl) (.cons rfl (by kernel_rfl) (Go.TX.UD Tryz.underlying22 (by kernel_rfl) (by decide) ak6)<| .nil);have amU:Go.TX.CO enc Tryz.prog W (.rows .iop) 45:=Go.TX.ahs Tryz.underlying45 Tryz.underlying150 (by kernel_rfl) rfl (by kernel_rfl);have amV:Go.TX.EO enc Tryz.prog W .blk Go.TX.BG 47:=Go.TX.aht Tryz.underlying47 (by kernel_rfl) (by kernel_rfl) amU;have hlt:∀x∈p0++p1,x.block<W.heap.size:=λx hx=>by simpa using hW'.lt x (by simpa using hx)
 have hl0:∀x∈p0,x.block<W.heap.size:=λx hx=>hlt x (by simp [hx])
 obtain⟨c0,rfl,_⟩:=okWide_struct Tryz.underlying24 (hval 0 24 v0 rfl rfl);obtain⟨l0,rfl⟩:∃l:List Value,c0=l.toArray:=⟨c0.toList,by simp⟩;have q0:=h0;obtain⟨f0,q0⟩:=q0;obtain⟨x0,r0,b0⟩:=amT f0 l0 _ q0 hl0;have hl1:∀x∈p1,x.block<W.heap.size:=λx hx=>hlt x (by simp [hx])
 obtain⟨c1,rfl,_⟩:=okWide_struct Tryz.underlying47 (hval 1 47 v1 rfl rfl);obtain⟨l1,rfl⟩:∃l:List Value,c1=l.toArray:=⟨c1.toList,by simp⟩;have q1:=h1;obtain⟨f1,q1⟩:=q1;obtain⟨x1,r1,b1⟩:=amV f1 l1 _ q1 hl1;refine(Go.TX.akG Go.TX.Seat.uS (.cons (Go.TX.UC (co:= .tab) rfl r0) (.cons (Go.TX.UC (co:= .blk) rfl r1) .nil)) (λg d h=>by cases h) ⟨x0,x1,rfl,b0,b1⟩).mono λe W' ⟨he,hw⟩=> ?_
 refine⟨_,he,[d0,d1],[],p0++p1,[],p0++p1,[],hW',trodAll_mk1 (shut_bool Tryz.underlying4 true),?_,rfl,hw.frame _,λh=>by cases h⟩;exact trodAll_mk2 (Below.trod ae7 (by kernel_rfl) (of_decide_eq_true (by kernel_rfl)) h0 hw hl0) (Below.trod ae7 (by kernel_rfl) (of_decide_eq_true (by kernel_rfl)) h1 hw hl1)
end Go.Proofs.YthiiicchooeapaaGreat
