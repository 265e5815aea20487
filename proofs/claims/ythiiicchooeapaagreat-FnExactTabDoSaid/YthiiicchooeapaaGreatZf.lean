/- Part 6 of a proof: what the last part needs. No condition. -/
import Derived.Test.YthiiicchooeapaaGreatZe
import Derived.Test.YthiiicchooeapaaGreatRows
import Derived.Carry
set_option maxHeartbeats 1000000
set_option linter.all false
set_option linter.unusedSectionVars false
set_option linter.unusedVariables false
set_option linter.unusedSimpArgs false
namespace Go.Proofs.YthiiicchooeapaaGreat
open Go.ChangeShapes Go.WideShapes Go.ChangeAt Go.RowKit
def ajZ:ownKnob Tryz.prog.godebug=Option.none:=by kernel_rfl
def SH:laidOutB Tryz.prog=true:=by kernel_rfl
set_option maxRecDepth 100000 in
def lifted(os:Os)(started:os.Started)(H:Type)(enc:TypeId×Value->H):
  ReturnsInHanded {} Tryz.checked os 3 .any (Rows.fnExactTabDoSpec.pre6 enc Tryz.prog Tryz.f3 Rows.fnExactTabDoRow.domain false) (Rows.fnExactTabDoSpec.post enc Tryz.prog Tryz.f3 false true false false):=by
 refine returnsInHanded_of_change (C:=Tryz.checked) ajZ started (by kernel_rfl) Tryz.func3
  (ChangeSpec.witness6 (enc:=enc) (C:=Tryz.checked) false ⟨#[], #[.agg #[.slice none 0 0],.int .i64 0,.agg #[.slice none 0 0],.agg #[.slice none 0 0]],[]⟩ 8 (by kernel_rfl) (by kernel_rfl) (by kernel_rfl) (by kernel_rfl)) ?_
 intro W base args ds gs before hval0 hW _ _;have hval:∀(j:Nat) t v,Tryz.f3.params[j]? =some t->args[j]? =some v->Value.okWide Tryz.prog W .any base t v:=hval0;have hW':=hW;obtain⟨p,q,hA0,hV,rfl,_,_⟩:=hW;have hA:DataW.TrodAll enc Tryz.prog W 0 (λ_=>true) true Tryz.f3.params.toList args.toList ds p:=hA0;rw [Tryz.params3]at hA hval;obtain⟨v0,v1,v2,v3,d0,d1,d2,d3,p0,p1,p2,p3,rfl,rfl,rfl,h0,h1,h2,h3⟩:=trodAll_four hA;obtain⟨rfl,rfl⟩:=trodVars_none hV
 clear hA0 hval0
 simp only [List.append_nil]at hW';have aiT:Go.TX.EO enc Tryz.prog W .mono Go.TX.OG 126:=Go.TX.abM Tryz.underlying126 (by kernel_rfl) (.cons rfl (by kernel_rfl) (Go.TX.afQ Tryz.underlying3)<| .cons rfl (by kernel_rfl) (Go.TX.ajR Tryz.underlying124 Tryz.underlying3 (by kernel_rfl))<| .nil);have aah:=Go.TX.SA Tryz.underlying25 (by kernel_rfl) (by decide) aiT;have adx:=Go.TX.afR Tryz.underlying27 (by kernel_rfl) ⟨rfl,rfl⟩ (by kernel_rfl) aah;have ady:Go.TX.EO enc Tryz.prog W .poly Go.TX.PG 27:=Go.TX.abO Tryz.underlying27 (by kernel_rfl) (.cons rfl (by kernel_rfl) aah<| .nil);have aiU:Go.TX.EO enc Tryz.prog W .atom Go.TX.AG 122:=Go.TX.abN Tryz.underlying122 (by kernel_rfl) (.cons rfl (by kernel_rfl) (Go.TX.afQ Tryz.underlying3)<| .cons rfl (by kernel_rfl) (Go.TX.afQ Tryz.underlying3)<| .cons rfl (by kernel_rfl) adx<| .cons rfl (by kernel_rfl) adx<| .nil);have aj0:Go.TX.EO enc Tryz.prog W .tab Go.TX.TG 24:=Go.TX.afS Tryz.underlying24 (by kernel_rfl) (.cons rfl (by kernel_rfl) (Go.TX.SA Tryz.underlying22 (by kernel_rfl) (by decide) aiU)<| .nil);have hlt:∀x∈p0++p1++p2++p3,x.block<W.heap.size:=λx hx=>by simpa using hW'.lt x (by simpa using hx)
 have hl0:∀x∈p0,x.block<W.heap.size:=λx hx=>hlt x (by simp [hx])
 obtain⟨c0,rfl,_⟩:=okWide_struct Tryz.underlying24 (hval 0 24 v0 rfl rfl);obtain⟨l0,rfl⟩:∃l:List Value,c0=l.toArray:=⟨c0.toList,by simp⟩;have q0:=h0;obtain⟨f0,q0⟩:=q0;obtain⟨x0,r0,b0⟩:=aj0 f0 l0 _ q0 hl0;obtain⟨n1,rfl⟩:=okWide_int Tryz.underlying3 (hval 1 3 v1 rfl rfl);have hl2:∀x∈p2,x.block<W.heap.size:=λx hx=>hlt x (by simp [hx])
 obtain⟨c2,rfl,_⟩:=okWide_struct Tryz.underlying27 (hval 2 27 v2 rfl rfl);obtain⟨l2,rfl⟩:∃l:List Value,c2=l.toArray:=⟨c2.toList,by simp⟩;have q2:=h2;obtain⟨f2,q2⟩:=q2;obtain⟨x2,r2,b2⟩:=ady f2 l2 _ q2 hl2;have hl3:∀x∈p3,x.block<W.heap.size:=λx hx=>hlt x (by simp [hx])
 obtain⟨c3,rfl,_⟩:=okWide_struct Tryz.underlying27 (hval 3 27 v3 rfl rfl);obtain⟨l3,rfl⟩:∃l:List Value,c3=l.toArray:=⟨c3.toList,by simp⟩;have q3:=h3;obtain⟨f3,q3⟩:=q3;obtain⟨x3,r3,b3⟩:=ady f3 l3 _ q3 hl3;refine(Go.TX.aiz Go.TX.Seat.vR (.cons (Go.TX.J6 (co:= .tab) rfl r0) (.cons (.c _ _ (.d false _ _ (.int .i64 n1))) (.cons (Go.TX.J6 (co:= .poly) rfl r2) (.cons (Go.TX.J6 (co:= .poly) rfl r3) .nil)))) (λg d h=>by cases h) ⟨x0,n1,x2,x3,rfl,b0,b2,b3⟩).mono λe W' ⟨he,hw⟩=> ?_
 refine⟨_,he,[d0,d1,d2,d3],[],p0++p1++p2++p3,[],p0++p1++p2++p3,[],hW',trodAll_mk1 (shut_bool Tryz.underlying4 true),?_,rfl,hw.frame _,λh=>by cases h⟩;rw [List.append_assoc,List.append_assoc];exact trodAll_mk4 (Below.trod SH (by kernel_rfl) (of_decide_eq_true (by kernel_rfl)) h0 hw hl0) (Below.trod SH (by kernel_rfl) (of_decide_eq_true (by kernel_rfl)) h1 hw (λx hx=>hlt x (by simp [hx]))) (Below.trod SH (by kernel_rfl) (of_decide_eq_true (by kernel_rfl)) h2 hw hl2) (Below.trod SH (by kernel_rfl) (of_decide_eq_true (by kernel_rfl)) h3 hw hl3)
end Go.Proofs.YthiiicchooeapaaGreat
