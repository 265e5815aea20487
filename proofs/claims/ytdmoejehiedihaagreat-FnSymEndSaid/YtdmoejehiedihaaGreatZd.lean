/- Part 4 of a proof: what the last part needs. No condition. -/
import Derived.Test.YtdmoejehiedihaaGreatZc
import Derived.Test.YtdmoejehiedihaaGreatProg
import Derived.KernelRfl
set_option linter.all false
set_option linter.unusedSectionVars false
set_option linter.unusedVariables false
set_option linter.unusedSimpArgs false
namespace Go.TX.Seat
open Go Go.AE Go.TX Go.Proofs
set_option maxRecDepth 100000
def ty:TypeId→Option TY
 | 2=>some ⟨(.int .i64),1,8,[.d true (.int .i64 0)]⟩
 | 3=>some ⟨(.int .i64),1,8,[.d true (.int .i64 0)]⟩
 | 4=>some ⟨.bool,1,1,[.d true (.bool false)]⟩
 | 5=>some ⟨(.int .u8),1,1,[.d true (.int .u8 0)]⟩
 | 6=>some ⟨(.int .u8),1,1,[.d true (.int .u8 0)]⟩
 | 7=>some ⟨(.struct [(0,2),(1,3),(2,4),(3,6)]),4,24,[.d true (.int .i64 0),.d true (.int .i64 0),.d true (.bool false),.d true (.int .u8 0)]⟩
 | 8=>some ⟨(.struct [(0,2),(1,3),(2,4),(3,6)]),4,24,[.d true (.int .i64 0),.d true (.int .i64 0),.d true (.bool false),.d true (.int .u8 0)]⟩
 | 9=>some ⟨.scalar,1,16,[.d true (.str ⟨#[]⟩)]⟩
 | 10=>some ⟨.scalar,1,16,[.d true (.str ⟨#[]⟩)]⟩
 | 11=>some ⟨.scalar,1,16,[.d true (.str ⟨#[]⟩)]⟩
 | 12=>some ⟨(.int .u64),1,8,[.d true (.int .u64 0)]⟩
 | 13=>some ⟨(.struct [(0,9),(1,12)]),2,24,[.d true (.str ⟨#[]⟩),.d true (.int .u64 0)]⟩
 | 14=>some ⟨(.struct [(0,9),(1,12)]),2,24,[.d true (.str ⟨#[]⟩),.d true (.int .u64 0)]⟩
 | 15=>some ⟨.scalar,1,8,[.np]⟩
 | 16=>some ⟨.scalar,1,8,[.np]⟩
 | 17=>some ⟨.scalar,1,8,[.np]⟩
 | 18=>some ⟨(.struct [(0,17)]),1,8,[.np]⟩
 | 19=>some ⟨(.struct [(0,17)]),1,8,[.np]⟩
 | 21=>some ⟨(.int .i32),1,4,[.d true (.int .i32 0)]⟩
 | 22=>some ⟨(.slice 5),1,24,[.nil]⟩
 | 23=>some ⟨(.slice 70),1,24,[.nil]⟩
 | 24=>some ⟨(.slice 27),1,24,[.nil]⟩
 | 25=>some ⟨(.slice 76),1,24,[.nil]⟩
 | 26=>some ⟨(.struct [(0,25)]),1,24,[.nil]⟩
 | 27=>some ⟨(.struct [(0,25)]),1,24,[.nil]⟩
 | 28=>some ⟨(.struct [(0,23),(1,24),(2,3),(3,27),(4,27),(5,3)]),6,112,[.nil,.nil,.d true (.int .i64 0),.nil,.nil,.d true (.int .i64 0)]⟩
 | 29=>some ⟨(.struct [(0,23),(1,24),(2,3),(3,27),(4,27),(5,3)]),6,112,[.nil,.nil,.d true (.int .i64 0),.nil,.nil,.d true (.int .i64 0)]⟩
 | 42=>some ⟨(.slice 86),1,24,[.nil]⟩
 | 43=>some ⟨(.struct [(0,3),(1,3),(2,42),(3,3),(4,3),(5,3),(6,3)]),7,72,[.d true (.int .i64 0),.d true (.int .i64 0),.nil,.d true (.int .i64 0),.d true (.int .i64 0),.d true (.int .i64 0),.d true (.int .i64 0)]⟩
 | 44=>some ⟨(.struct [(0,3),(1,3),(2,42),(3,3),(4,3),(5,3),(6,3)]),7,72,[.d true (.int .i64 0),.d true (.int .i64 0),.nil,.d true (.int .i64 0),.d true (.int .i64 0),.d true (.int .i64 0),.d true (.int .i64 0)]⟩
 | 52=>some ⟨.scalar,1,8,[.np]⟩
 | 59=>some ⟨(.slice 96),1,24,[.nil]⟩
 | 60=>some ⟨(.struct [(0,59)]),1,24,[.nil]⟩
 | 61=>some ⟨(.struct [(0,59)]),1,24,[.nil]⟩
 | 69=>some ⟨(.struct [(0,3),(1,3),(2,27),(3,27),(4,24)]),5,88,[.d true (.int .i64 0),.d true (.int .i64 0),.nil,.nil,.nil]⟩
 | 70=>some ⟨(.struct [(0,3),(1,3),(2,27),(3,27),(4,24)]),5,88,[.d true (.int .i64 0),.d true (.int .i64 0),.nil,.nil,.nil]⟩
 | 74=>some ⟨(.slice 3),1,24,[.nil]⟩
 | 75=>some ⟨(.struct [(0,3),(1,74)]),2,32,[.d true (.int .i64 0),.nil]⟩
 | 76=>some ⟨(.struct [(0,3),(1,74)]),2,32,[.d true (.int .i64 0),.nil]⟩
 | 83=>some ⟨(.int .u64),1,8,[.d true (.int .u64 0)]⟩
 | 85=>some ⟨(.struct [(0,3),(1,3),(2,3),(3,3),(4,3)]),5,40,[.d true (.int .i64 0),.d true (.int .i64 0),.d true (.int .i64 0),.d true (.int .i64 0),.d true (.int .i64 0)]⟩
 | 86=>some ⟨(.struct [(0,3),(1,3),(2,3),(3,3),(4,3)]),5,40,[.d true (.int .i64 0),.d true (.int .i64 0),.d true (.int .i64 0),.d true (.int .i64 0),.d true (.int .i64 0)]⟩
 | 89=>some ⟨(.struct [(0,22),(1,3)]),2,32,[.nil,.d true (.int .i64 0)]⟩
 | 90=>some ⟨(.struct [(0,22),(1,3)]),2,32,[.nil,.d true (.int .i64 0)]⟩
 | 95=>some ⟨(.struct [(0,3),(1,3),(2,27),(3,27)]),4,64,[.d true (.int .i64 0),.d true (.int .i64 0),.nil,.nil]⟩
 | 96=>some ⟨(.struct [(0,3),(1,3),(2,27),(3,27)]),4,64,[.d true (.int .i64 0),.d true (.int .i64 0),.nil,.nil]⟩
 | 107=>some ⟨(.slice 140),1,24,[.nil]⟩
 | 118=>some ⟨.scalar,1,8,[.np]⟩
 | 119=>some ⟨(.struct [(0,61),(1,4)]),2,32,[.nil,.d true (.bool false)]⟩
 | 120=>some ⟨(.struct [(0,61),(1,4)]),2,32,[.nil,.d true (.bool false)]⟩
 | 139=>some ⟨(.struct [(0,3),(1,3),(2,3),(3,3)]),4,32,[.d true (.int .i64 0),.d true (.int .i64 0),.d true (.int .i64 0),.d true (.int .i64 0)]⟩
 | 140=>some ⟨(.struct [(0,3),(1,3),(2,3),(3,3)]),4,32,[.d true (.int .i64 0),.d true (.int .i64 0),.d true (.int .i64 0),.d true (.int .i64 0)]⟩
 | 164=>some ⟨(.slice 4),1,24,[.nil]⟩
 | 178=>some ⟨(.slice 25),1,24,[.nil]⟩
 | 180=>some ⟨(.slice 74),1,24,[.nil]⟩
 | 186=>some ⟨(.int .i64),1,8,[.d true (.int .i64 0)]⟩
 | 193=>some ⟨(.int .u32),1,4,[.d true (.int .u32 0)]⟩
 | 195=>some ⟨(.int .u64),1,8,[.d true (.int .u64 0)]⟩
 | 198=>some ⟨(.int .u64),1,8,[.d true (.int .u64 0)]⟩
 | 202=>some ⟨.scalar,1,8,[.np]⟩
 | 204=>some ⟨.scalar,1,8,[.np]⟩
 | 208=>some ⟨(.struct [(0,17),(1,17),(2,17),(3,9)]),4,40,[.np,.np,.np,.d true (.str ⟨#[]⟩)]⟩
 | 209=>some ⟨(.struct [(0,17),(1,17),(2,17),(3,9)]),4,40,[.np,.np,.np,.d true (.str ⟨#[]⟩)]⟩
 | 214=>some ⟨(.int .u8),1,1,[.d true (.int .u8 0)]⟩
 | 215=>some ⟨(.int .u8),1,1,[.d true (.int .u8 0)]⟩
 | 217=>some ⟨.scalar,1,8,[.np]⟩
 | 218=>some ⟨(.int .i32),1,4,[.d true (.int .i32 0)]⟩
 | 219=>some ⟨(.int .i32),1,4,[.d true (.int .i32 0)]⟩
 | _=>none
theorem ok2:bV Tryz.prog 2 ⟨(.int .i64),1,8,[.d true (.int .i64 0)]⟩:=⟨⟨Tryz.t2,by kernel_rfl,rfl,rfl,_,rfl,fun c w=>aD (by rfl)⟩,Tryz.underlying2,rfl⟩
theorem ok3:bV Tryz.prog 3 ⟨(.int .i64),1,8,[.d true (.int .i64 0)]⟩:=⟨⟨Tryz.t3,by kernel_rfl,rfl,rfl,_,rfl,fun c w=>aD (by rfl)⟩,Tryz.underlying3,rfl⟩
theorem ok4:bV Tryz.prog 4 ⟨.bool,1,1,[.d true (.bool false)]⟩:=⟨⟨Tryz.t4,by kernel_rfl,rfl,rfl,_,rfl,fun c w=>aD (by rfl)⟩,Tryz.underlying4,rfl⟩
theorem ok5:bV Tryz.prog 5 ⟨(.int .u8),1,1,[.d true (.int .u8 0)]⟩:=⟨⟨Tryz.t5,by kernel_rfl,rfl,rfl,_,rfl,fun c w=>aD (by rfl)⟩,Tryz.underlying5,rfl⟩
theorem ok6:bV Tryz.prog 6 ⟨(.int .u8),1,1,[.d true (.int .u8 0)]⟩:=⟨⟨Tryz.t6,by kernel_rfl,rfl,rfl,_,rfl,fun c w=>aD (by rfl)⟩,Tryz.underlying6,rfl⟩
theorem ok7:bV Tryz.prog 7 ⟨(.struct [(0,2),(1,3),(2,4),(3,6)]),4,24,[.d true (.int .i64 0),.d true (.int .i64 0),.d true (.bool false),.d true (.int .u8 0)]⟩:=⟨⟨Tryz.t7,by kernel_rfl,rfl,rfl,_,rfl,fun c w=>aD (by rfl)⟩,⟨_,Tryz.underlying7,by rfl⟩,rfl⟩
theorem ok8:bV Tryz.prog 8 ⟨(.struct [(0,2),(1,3),(2,4),(3,6)]),4,24,[.d true (.int .i64 0),.d true (.int .i64 0),.d true (.bool false),.d true (.int .u8 0)]⟩:=⟨⟨Tryz.t8,by kernel_rfl,rfl,rfl,_,rfl,fun c w=>aD (by rfl)⟩,⟨_,Tryz.underlying8,by rfl⟩,rfl⟩
theorem ok9:bV Tryz.prog 9 ⟨.scalar,1,16,[.d true (.str ⟨#[]⟩)]⟩:=⟨⟨Tryz.t9,by kernel_rfl,rfl,rfl,_,rfl,fun c w=>aD (by rfl)⟩,⟨_,Tryz.underlying9,(fun _ h=>by cases h),(fun _ _ h=>by cases h)⟩,rfl⟩
theorem alF:bV Tryz.prog 10 ⟨.scalar,1,16,[.d true (.str ⟨#[]⟩)]⟩:=⟨⟨Tryz.t10,by kernel_rfl,rfl,rfl,_,rfl,fun c w=>aD (by rfl)⟩,⟨_,Tryz.underlying10,(fun _ h=>by cases h),(fun _ _ h=>by cases h)⟩,rfl⟩
theorem alG:bV Tryz.prog 11 ⟨.scalar,1,16,[.d true (.str ⟨#[]⟩)]⟩:=⟨⟨Tryz.t11,by kernel_rfl,rfl,rfl,_,rfl,fun c w=>aD (by rfl)⟩,⟨_,Tryz.underlying11,(fun _ h=>by cases h),(fun _ _ h=>by cases h)⟩,rfl⟩
theorem alH:bV Tryz.prog 12 ⟨(.int .u64),1,8,[.d true (.int .u64 0)]⟩:=⟨⟨Tryz.t12,by kernel_rfl,rfl,rfl,_,rfl,fun c w=>aD (by rfl)⟩,Tryz.underlying12,rfl⟩
theorem alI:bV Tryz.prog 13 ⟨(.struct [(0,9),(1,12)]),2,24,[.d true (.str ⟨#[]⟩),.d true (.int .u64 0)]⟩:=⟨⟨Tryz.t13,by kernel_rfl,rfl,rfl,_,rfl,fun c w=>aD (by rfl)⟩,⟨_,Tryz.underlying13,by rfl⟩,rfl⟩
theorem alJ:bV Tryz.prog 14 ⟨(.struct [(0,9),(1,12)]),2,24,[.d true (.str ⟨#[]⟩),.d true (.int .u64 0)]⟩:=⟨⟨Tryz.t14,by kernel_rfl,rfl,rfl,_,rfl,fun c w=>aD (by rfl)⟩,⟨_,Tryz.underlying14,by rfl⟩,rfl⟩
theorem alK:bV Tryz.prog 15 ⟨.scalar,1,8,[.np]⟩:=⟨⟨Tryz.t15,by kernel_rfl,rfl,rfl,_,rfl,fun c w=>aD (by rfl)⟩,⟨_,Tryz.underlying15,(fun _ h=>by cases h),(fun _ _ h=>by cases h)⟩,rfl⟩
theorem ok16:bV Tryz.prog 16 ⟨.scalar,1,8,[.np]⟩:=⟨⟨Tryz.t16,by kernel_rfl,rfl,rfl,_,rfl,fun c w=>aD (by rfl)⟩,⟨_,Tryz.underlying16,(fun _ h=>by cases h),(fun _ _ h=>by cases h)⟩,rfl⟩
theorem alL:bV Tryz.prog 17 ⟨.scalar,1,8,[.np]⟩:=⟨⟨Tryz.t17,by kernel_rfl,rfl,rfl,_,rfl,fun c w=>aD (by rfl)⟩,⟨_,Tryz.underlying17,(fun _ h=>by cases h),(fun _ _ h=>by cases h)⟩,rfl⟩
theorem alM:bV Tryz.prog 18 ⟨(.struct [(0,17)]),1,8,[.np]⟩:=⟨⟨Tryz.t18,by kernel_rfl,rfl,rfl,_,rfl,fun c w=>aD (by rfl)⟩,⟨_,Tryz.underlying18,by rfl⟩,rfl⟩
theorem alN:bV Tryz.prog 19 ⟨(.struct [(0,17)]),1,8,[.np]⟩:=⟨⟨Tryz.t19,by kernel_rfl,rfl,rfl,_,rfl,fun c w=>aD (by rfl)⟩,⟨_,Tryz.underlying19,by rfl⟩,rfl⟩
theorem alO:bV Tryz.prog 21 ⟨(.int .i32),1,4,[.d true (.int .i32 0)]⟩:=⟨⟨Tryz.t21,by kernel_rfl,rfl,rfl,_,rfl,fun c w=>aD (by rfl)⟩,Tryz.underlying21,rfl⟩
theorem alP:bV Tryz.prog 22 ⟨(.slice 5),1,24,[.nil]⟩:=⟨⟨Tryz.t22,by kernel_rfl,rfl,rfl,_,rfl,fun c w=>aD (by rfl)⟩,Tryz.underlying22,rfl⟩
theorem alQ:bV Tryz.prog 23 ⟨(.slice 70),1,24,[.nil]⟩:=⟨⟨Tryz.t23,by kernel_rfl,rfl,rfl,_,rfl,fun c w=>aD (by rfl)⟩,Tryz.underlying23,rfl⟩
theorem alR:bV Tryz.prog 24 ⟨(.slice 27),1,24,[.nil]⟩:=⟨⟨Tryz.t24,by kernel_rfl,rfl,rfl,_,rfl,fun c w=>aD (by rfl)⟩,Tryz.underlying24,rfl⟩
theorem alS:bV Tryz.prog 25 ⟨(.slice 76),1,24,[.nil]⟩:=⟨⟨Tryz.t25,by kernel_rfl,rfl,rfl,_,rfl,fun c w=>aD (by rfl)⟩,Tryz.underlying25,rfl⟩
theorem alT:bV Tryz.prog 26 ⟨(.struct [(0,25)]),1,24,[.nil]⟩:=⟨⟨Tryz.t26,by kernel_rfl,rfl,rfl,_,rfl,fun c w=>aD (by rfl)⟩,⟨_,Tryz.underlying26,by rfl⟩,rfl⟩
theorem alU:bV Tryz.prog 27 ⟨(.struct [(0,25)]),1,24,[.nil]⟩:=⟨⟨Tryz.t27,by kernel_rfl,rfl,rfl,_,rfl,fun c w=>aD (by rfl)⟩,⟨_,Tryz.underlying27,by rfl⟩,rfl⟩
theorem alV:bV Tryz.prog 28 ⟨(.struct [(0,23),(1,24),(2,3),(3,27),(4,27),(5,3)]),6,112,[.nil,.nil,.d true (.int .i64 0),.nil,.nil,.d true (.int .i64 0)]⟩:=⟨⟨Tryz.t28,by kernel_rfl,rfl,rfl,_,rfl,fun c w=>aD (by rfl)⟩,⟨_,Tryz.underlying28,by rfl⟩,rfl⟩
theorem alW:bV Tryz.prog 29 ⟨(.struct [(0,23),(1,24),(2,3),(3,27),(4,27),(5,3)]),6,112,[.nil,.nil,.d true (.int .i64 0),.nil,.nil,.d true (.int .i64 0)]⟩:=⟨⟨Tryz.t29,by kernel_rfl,rfl,rfl,_,rfl,fun c w=>aD (by rfl)⟩,⟨_,Tryz.underlying29,by rfl⟩,rfl⟩
theorem alX:bV Tryz.prog 42 ⟨(.slice 86),1,24,[.nil]⟩:=⟨⟨Tryz.t42,by kernel_rfl,rfl,rfl,_,rfl,fun c w=>aD (by rfl)⟩,Tryz.underlying42,rfl⟩
theorem alY:bV Tryz.prog 43 ⟨(.struct [(0,3),(1,3),(2,42),(3,3),(4,3),(5,3),(6,3)]),7,72,[.d true (.int .i64 0),.d true (.int .i64 0),.nil,.d true (.int .i64 0),.d true (.int .i64 0),.d true (.int .i64 0),.d true (.int .i64 0)]⟩:=⟨⟨Tryz.t43,by kernel_rfl,rfl,rfl,_,rfl,fun c w=>aD (by rfl)⟩,⟨_,Tryz.underlying43,by rfl⟩,rfl⟩
theorem alZ:bV Tryz.prog 44 ⟨(.struct [(0,3),(1,3),(2,42),(3,3),(4,3),(5,3),(6,3)]),7,72,[.d true (.int .i64 0),.d true (.int .i64 0),.nil,.d true (.int .i64 0),.d true (.int .i64 0),.d true (.int .i64 0),.d true (.int .i64 0)]⟩:=⟨⟨Tryz.t44,by kernel_rfl,rfl,rfl,_,rfl,fun c w=>aD (by rfl)⟩,⟨_,Tryz.underlying44,by rfl⟩,rfl⟩
theorem al0:bV Tryz.prog 52 ⟨.scalar,1,8,[.np]⟩:=⟨⟨Tryz.t52,by kernel_rfl,rfl,rfl,_,rfl,fun c w=>aD (by rfl)⟩,⟨_,Tryz.underlying52,(fun _ h=>by cases h),(fun _ _ h=>by cases h)⟩,rfl⟩
theorem al1:bV Tryz.prog 59 ⟨(.slice 96),1,24,[.nil]⟩:=⟨⟨Tryz.t59,by kernel_rfl,rfl,rfl,_,rfl,fun c w=>aD (by rfl)⟩,Tryz.underlying59,rfl⟩
theorem al2:bV Tryz.prog 60 ⟨(.struct [(0,59)]),1,24,[.nil]⟩:=⟨⟨Tryz.t60,by kernel_rfl,rfl,rfl,_,rfl,fun c w=>aD (by rfl)⟩,⟨_,Tryz.underlying60,by rfl⟩,rfl⟩
theorem al3:bV Tryz.prog 61 ⟨(.struct [(0,59)]),1,24,[.nil]⟩:=⟨⟨Tryz.t61,by kernel_rfl,rfl,rfl,_,rfl,fun c w=>aD (by rfl)⟩,⟨_,Tryz.underlying61,by rfl⟩,rfl⟩
theorem al4:bV Tryz.prog 69 ⟨(.struct [(0,3),(1,3),(2,27),(3,27),(4,24)]),5,88,[.d true (.int .i64 0),.d true (.int .i64 0),.nil,.nil,.nil]⟩:=⟨⟨Tryz.t69,by kernel_rfl,rfl,rfl,_,rfl,fun c w=>aD (by rfl)⟩,⟨_,Tryz.underlying69,by rfl⟩,rfl⟩
theorem al5:bV Tryz.prog 70 ⟨(.struct [(0,3),(1,3),(2,27),(3,27),(4,24)]),5,88,[.d true (.int .i64 0),.d true (.int .i64 0),.nil,.nil,.nil]⟩:=⟨⟨Tryz.t70,by kernel_rfl,rfl,rfl,_,rfl,fun c w=>aD (by rfl)⟩,⟨_,Tryz.underlying70,by rfl⟩,rfl⟩
theorem al6:bV Tryz.prog 74 ⟨(.slice 3),1,24,[.nil]⟩:=⟨⟨Tryz.t74,by kernel_rfl,rfl,rfl,_,rfl,fun c w=>aD (by rfl)⟩,Tryz.underlying74,rfl⟩
theorem al7:bV Tryz.prog 75 ⟨(.struct [(0,3),(1,74)]),2,32,[.d true (.int .i64 0),.nil]⟩:=⟨⟨Tryz.t75,by kernel_rfl,rfl,rfl,_,rfl,fun c w=>aD (by rfl)⟩,⟨_,Tryz.underlying75,by rfl⟩,rfl⟩
theorem al8:bV Tryz.prog 76 ⟨(.struct [(0,3),(1,74)]),2,32,[.d true (.int .i64 0),.nil]⟩:=⟨⟨Tryz.t76,by kernel_rfl,rfl,rfl,_,rfl,fun c w=>aD (by rfl)⟩,⟨_,Tryz.underlying76,by rfl⟩,rfl⟩
theorem al9:bV Tryz.prog 83 ⟨(.int .u64),1,8,[.d true (.int .u64 0)]⟩:=⟨⟨Tryz.t83,by kernel_rfl,rfl,rfl,_,rfl,fun c w=>aD (by rfl)⟩,Tryz.underlying83,rfl⟩
theorem ama:bV Tryz.prog 85 ⟨(.struct [(0,3),(1,3),(2,3),(3,3),(4,3)]),5,40,[.d true (.int .i64 0),.d true (.int .i64 0),.d true (.int .i64 0),.d true (.int .i64 0),.d true (.int .i64 0)]⟩:=⟨⟨Tryz.t85,by kernel_rfl,rfl,rfl,_,rfl,fun c w=>aD (by rfl)⟩,⟨_,Tryz.underlying85,by rfl⟩,rfl⟩
theorem amb:bV Tryz.prog 86 ⟨(.struct [(0,3),(1,3),(2,3),(3,3),(4,3)]),5,40,[.d true (.int .i64 0),.d true (.int .i64 0),.d true (.int .i64 0),.d true (.int .i64 0),.d true (.int .i64 0)]⟩:=⟨⟨Tryz.t86,by kernel_rfl,rfl,rfl,_,rfl,fun c w=>aD (by rfl)⟩,⟨_,Tryz.underlying86,by rfl⟩,rfl⟩
theorem amc:bV Tryz.prog 89 ⟨(.struct [(0,22),(1,3)]),2,32,[.nil,.d true (.int .i64 0)]⟩:=⟨⟨Tryz.t89,by kernel_rfl,rfl,rfl,_,rfl,fun c w=>aD (by rfl)⟩,⟨_,Tryz.underlying89,by rfl⟩,rfl⟩
theorem amd:bV Tryz.prog 90 ⟨(.struct [(0,22),(1,3)]),2,32,[.nil,.d true (.int .i64 0)]⟩:=⟨⟨Tryz.t90,by kernel_rfl,rfl,rfl,_,rfl,fun c w=>aD (by rfl)⟩,⟨_,Tryz.underlying90,by rfl⟩,rfl⟩
theorem ame:bV Tryz.prog 95 ⟨(.struct [(0,3),(1,3),(2,27),(3,27)]),4,64,[.d true (.int .i64 0),.d true (.int .i64 0),.nil,.nil]⟩:=⟨⟨Tryz.t95,by kernel_rfl,rfl,rfl,_,rfl,fun c w=>aD (by rfl)⟩,⟨_,Tryz.underlying95,by rfl⟩,rfl⟩
theorem amf:bV Tryz.prog 96 ⟨(.struct [(0,3),(1,3),(2,27),(3,27)]),4,64,[.d true (.int .i64 0),.d true (.int .i64 0),.nil,.nil]⟩:=⟨⟨Tryz.t96,by kernel_rfl,rfl,rfl,_,rfl,fun c w=>aD (by rfl)⟩,⟨_,Tryz.underlying96,by rfl⟩,rfl⟩
theorem aiZ:bV Tryz.prog 107 ⟨(.slice 140),1,24,[.nil]⟩:=⟨⟨Tryz.t107,by kernel_rfl,rfl,rfl,_,rfl,fun c w=>aD (by rfl)⟩,Tryz.underlying107,rfl⟩
theorem ai0:bV Tryz.prog 118 ⟨.scalar,1,8,[.np]⟩:=⟨⟨Tryz.t118,by kernel_rfl,rfl,rfl,_,rfl,fun c w=>aD (by rfl)⟩,⟨_,Tryz.underlying118,(fun _ h=>by cases h),(fun _ _ h=>by cases h)⟩,rfl⟩
theorem ai1:bV Tryz.prog 119 ⟨(.struct [(0,61),(1,4)]),2,32,[.nil,.d true (.bool false)]⟩:=⟨⟨Tryz.t119,by kernel_rfl,rfl,rfl,_,rfl,fun c w=>aD (by rfl)⟩,⟨_,Tryz.underlying119,by rfl⟩,rfl⟩
theorem ai2:bV Tryz.prog 120 ⟨(.struct [(0,61),(1,4)]),2,32,[.nil,.d true (.bool false)]⟩:=⟨⟨Tryz.t120,by kernel_rfl,rfl,rfl,_,rfl,fun c w=>aD (by rfl)⟩,⟨_,Tryz.underlying120,by rfl⟩,rfl⟩
theorem ai3:bV Tryz.prog 139 ⟨(.struct [(0,3),(1,3),(2,3),(3,3)]),4,32,[.d true (.int .i64 0),.d true (.int .i64 0),.d true (.int .i64 0),.d true (.int .i64 0)]⟩:=⟨⟨Tryz.t139,by kernel_rfl,rfl,rfl,_,rfl,fun c w=>aD (by rfl)⟩,⟨_,Tryz.underlying139,by rfl⟩,rfl⟩
theorem ai4:bV Tryz.prog 140 ⟨(.struct [(0,3),(1,3),(2,3),(3,3)]),4,32,[.d true (.int .i64 0),.d true (.int .i64 0),.d true (.int .i64 0),.d true (.int .i64 0)]⟩:=⟨⟨Tryz.t140,by kernel_rfl,rfl,rfl,_,rfl,fun c w=>aD (by rfl)⟩,⟨_,Tryz.underlying140,by rfl⟩,rfl⟩
theorem ai5:bV Tryz.prog 164 ⟨(.slice 4),1,24,[.nil]⟩:=⟨⟨Tryz.t164,by kernel_rfl,rfl,rfl,_,rfl,fun c w=>aD (by rfl)⟩,Tryz.underlying164,rfl⟩
theorem ai6:bV Tryz.prog 178 ⟨(.slice 25),1,24,[.nil]⟩:=⟨⟨Tryz.t178,by kernel_rfl,rfl,rfl,_,rfl,fun c w=>aD (by rfl)⟩,Tryz.underlying178,rfl⟩
theorem ai7:bV Tryz.prog 180 ⟨(.slice 74),1,24,[.nil]⟩:=⟨⟨Tryz.t180,by kernel_rfl,rfl,rfl,_,rfl,fun c w=>aD (by rfl)⟩,Tryz.underlying180,rfl⟩
theorem ai8:bV Tryz.prog 186 ⟨(.int .i64),1,8,[.d true (.int .i64 0)]⟩:=⟨⟨Tryz.t186,by kernel_rfl,rfl,rfl,_,rfl,fun c w=>aD (by rfl)⟩,Tryz.underlying186,rfl⟩
theorem ai9:bV Tryz.prog 193 ⟨(.int .u32),1,4,[.d true (.int .u32 0)]⟩:=⟨⟨Tryz.t193,by kernel_rfl,rfl,rfl,_,rfl,fun c w=>aD (by rfl)⟩,Tryz.underlying193,rfl⟩
theorem aja:bV Tryz.prog 195 ⟨(.int .u64),1,8,[.d true (.int .u64 0)]⟩:=⟨⟨Tryz.t195,by kernel_rfl,rfl,rfl,_,rfl,fun c w=>aD (by rfl)⟩,Tryz.underlying195,rfl⟩
theorem ajb:bV Tryz.prog 198 ⟨(.int .u64),1,8,[.d true (.int .u64 0)]⟩:=⟨⟨Tryz.t198,by kernel_rfl,rfl,rfl,_,rfl,fun c w=>aD (by rfl)⟩,Tryz.underlying198,rfl⟩
theorem ajc:bV Tryz.prog 202 ⟨.scalar,1,8,[.np]⟩:=⟨⟨Tryz.t202,by kernel_rfl,rfl,rfl,_,rfl,fun c w=>aD (by rfl)⟩,⟨_,Tryz.underlying202,(fun _ h=>by cases h),(fun _ _ h=>by cases h)⟩,rfl⟩
theorem ajd:bV Tryz.prog 204 ⟨.scalar,1,8,[.np]⟩:=⟨⟨Tryz.t204,by kernel_rfl,rfl,rfl,_,rfl,fun c w=>aD (by rfl)⟩,⟨_,Tryz.underlying204,(fun _ h=>by cases h),(fun _ _ h=>by cases h)⟩,rfl⟩
theorem aje:bV Tryz.prog 208 ⟨(.struct [(0,17),(1,17),(2,17),(3,9)]),4,40,[.np,.np,.np,.d true (.str ⟨#[]⟩)]⟩:=⟨⟨Tryz.t208,by kernel_rfl,rfl,rfl,_,rfl,fun c w=>aD (by rfl)⟩,⟨_,Tryz.underlying208,by rfl⟩,rfl⟩
theorem ajf:bV Tryz.prog 209 ⟨(.struct [(0,17),(1,17),(2,17),(3,9)]),4,40,[.np,.np,.np,.d true (.str ⟨#[]⟩)]⟩:=⟨⟨Tryz.t209,by kernel_rfl,rfl,rfl,_,rfl,fun c w=>aD (by rfl)⟩,⟨_,Tryz.underlying209,by rfl⟩,rfl⟩
theorem ajg:bV Tryz.prog 214 ⟨(.int .u8),1,1,[.d true (.int .u8 0)]⟩:=⟨⟨Tryz.t214,by kernel_rfl,rfl,rfl,_,rfl,fun c w=>aD (by rfl)⟩,Tryz.underlying214,rfl⟩
theorem ajh:bV Tryz.prog 215 ⟨(.int .u8),1,1,[.d true (.int .u8 0)]⟩:=⟨⟨Tryz.t215,by kernel_rfl,rfl,rfl,_,rfl,fun c w=>aD (by rfl)⟩,Tryz.underlying215,rfl⟩
theorem aji:bV Tryz.prog 217 ⟨.scalar,1,8,[.np]⟩:=⟨⟨Tryz.t217,by kernel_rfl,rfl,rfl,_,rfl,fun c w=>aD (by rfl)⟩,⟨_,Tryz.underlying217,(fun _ h=>by cases h),(fun _ _ h=>by cases h)⟩,rfl⟩
theorem ajj:bV Tryz.prog 218 ⟨(.int .i32),1,4,[.d true (.int .i32 0)]⟩:=⟨⟨Tryz.t218,by kernel_rfl,rfl,rfl,_,rfl,fun c w=>aD (by rfl)⟩,Tryz.underlying218,rfl⟩
theorem ajk:bV Tryz.prog 219 ⟨(.int .i32),1,4,[.d true (.int .i32 0)]⟩:=⟨⟨Tryz.t219,by kernel_rfl,rfl,rfl,_,rfl,fun c w=>aD (by rfl)⟩,Tryz.underlying219,rfl⟩
theorem amg:∀t y,ty t=some y→bV Tryz.prog t y:=by
 intro t y h
 unfold ty at h
 split at h<;>first | (cases h;done) | skip
 ·cases h;exact ok2
 ·cases h;exact ok3
 ·cases h;exact ok4
 ·cases h;exact ok5
 ·cases h;exact ok6
 ·cases h;exact ok7
 ·cases h;exact ok8
 ·cases h;exact ok9
 ·cases h;exact alF
 ·cases h;exact alG
 ·cases h;exact alH
 ·cases h;exact alI
 ·cases h;exact alJ
 ·cases h;exact alK
 ·cases h;exact ok16
 ·cases h;exact alL
 ·cases h;exact alM
 ·cases h;exact alN
 ·cases h;exact alO
 ·cases h;exact alP
 ·cases h;exact alQ
 ·cases h;exact alR
 ·cases h;exact alS
 ·cases h;exact alT
 ·cases h;exact alU
 ·cases h;exact alV
 ·cases h;exact alW
 ·cases h;exact alX
 ·cases h;exact alY
 ·cases h;exact alZ
 ·cases h;exact al0
 ·cases h;exact al1
 ·cases h;exact al2
 ·cases h;exact al3
 ·cases h;exact al4
 ·cases h;exact al5
 ·cases h;exact al6
 ·cases h;exact al7
 ·cases h;exact al8
 ·cases h;exact al9
 ·cases h;exact ama
 ·cases h;exact amb
 ·cases h;exact amc
 ·cases h;exact amd
 ·cases h;exact ame
 ·cases h;exact amf
 ·cases h;exact aiZ
 ·cases h;exact ai0
 ·cases h;exact ai1
 ·cases h;exact ai2
 ·cases h;exact ai3
 ·cases h;exact ai4
 ·cases h;exact ai5
 ·cases h;exact ai6
 ·cases h;exact ai7
 ·cases h;exact ai8
 ·cases h;exact ai9
 ·cases h;exact aja
 ·cases h;exact ajb
 ·cases h;exact ajc
 ·cases h;exact ajd
 ·cases h;exact aje
 ·cases h;exact ajf
 ·cases h;exact ajg
 ·cases h;exact ajh
 ·cases h;exact aji
 ·cases h;exact ajj
 ·cases h;exact ajk
def co:TypeId→Option Co
 | 3=>some .i64
 | 4=>some .bool
 | 5=>some .u8
 | 9=>some .str
 | 25=>some .poly
 | 27=>some .poly
 | 29=>some .sym
 | 44=>some .blk
 | 61=>some .tab
 | 70=>some .ev
 | 74=>some .ints
 | 76=>some .mono
 | 86=>some .iop
 | 96=>some .atom
 | 140=>some .ins
 | _=>none
def ieq:TypeId→Option Co
 | 86=>some .iop
 | 140=>some .ins
 | _=>none
def X:XT:={ty:=ty,co:=co,glob:=fun g=>none,ieq:=ieq}
noncomputable def E:Tab:={P:=Tryz.prog,ty:=ty,glob:=fun g=>none,ieq:=fun t=>(ieq t).map fun c=>c.size}
end Go.TX.Seat
namespace Go.TX.Seat
open Go Go.AE Go.TX Go.TX.F Go.Proofs
set_option maxRecDepth 100000
theorem ade (A:Alg): @Ru aL.z X E A [] (.seq .u (.seq (.seq .u (.cut ⟨[(0,.c (.rows true .u8))],[]⟩ (.cond .u .u))) .u)) Dj Tryz.f20 [] (NY A):=fun _=>by kernel_rfl
theorem adf (A:Alg): @Ru aL.z X E A [(7,[(0,([0],[])),(1,([47],[])),(2,([48],[])),(3,([49],[])),(4,([5],[])),(5,([0],[])),(6,([52],[])),(7,([53],[])),(8,([54],[])),(9,([55],[])),(10,([51,56],[])),(11,([50,57],[])),(12,([58],[])),(13,([59],[])),(14,([60],[])),(15,([0],[])),(16,([62],[])),(17,([63],[])),(18,([64],[])),(19,([5],[])),(20,([66],[])),(21,([67],[])),(22,([0],[])),(23,([69],[])),(24,([70],[])),(25,([71],[])),(26,([72],[])),(27,([68,73],[])),(28,([65,74],[])),(29,([75],[])),(30,([76],[])),(31,([77],[])),(32,([61,78],[])),(33,([5],[])),(34,([80],[])),(35,([79,81],[])),(36,([5],[])),(37,([0],[])),(38,([84],[])),(39,([85],[])),(40,([86],[])),(41,([87],[])),(42,([83,88],[])),(43,([89],[])),(44,([82,90],[])),(45,([91],[]))])] .u cO Tryz.f22 [] (NZ A):=fun _=>by kernel_rfl
theorem adg (A:Alg): @Ru aL.z X E A [] .u bS Tryz.f48 [] (N7 A):=fun _=>by kernel_rfl
theorem adh (A:Alg) (aU:Ct A.ah bS): @Ru aL.z X E A [] .u iw Tryz.f23 [(48,⟨_,aU⟩)] (N8 A aU.pre aU.fn):=fun _=>by kernel_rfl
theorem adi (A:Alg) (aY:Ct A.ah cO): @Ru aL.z X E A [] .u lM Tryz.f24 [(22,⟨_,aY⟩)] (N9 A aY.pre aY.fn):=fun _=>by kernel_rfl
theorem adj (A:Alg) (aU:Ct A.ah bS): @Ru aL.z X E A [(6,[(0,([1],[])),(1,([21],[])),(2,([3],[])),(3,([22,23],[])),(4,([24],[])),(5,([25],[])),(6,([26],[])),(7,([27],[])),(8,([3,28],[])),(9,([28,29],[])),(10,([28,30],[])),(11,([1,31],[])),(12,([31,32],[])),(13,([3,31],[])),(14,([31,34],[])),(15,([31,33,35],[])),(16,([31,36],[])),(17,([1,31],[])),(18,([31,38],[])),(19,([3,31],[])),(20,([31,39,40],[])),(21,([31,41],[])),(22,([31,37,42],[])),(23,([28,31,43],[])),(24,([28,44],[]))])] (.seq .u (.seq .u (.seq (.seq .u (.block (.loop ⟨[(1,.c (.pb 0 2 0)),(3,.c (.int .i64))],[.box (.sv false .mono)]⟩ .u))) .u))) Dk Tryz.f37 [(48,⟨_,aU⟩)] (Oa A aU.pre aU.fn):=fun _=>by kernel_rfl
theorem adk (A:Alg): @Ru aL.z X E A [(8,[(0,([0],[])),(1,([5],[])),(2,([22,23],[])),(3,([24],[])),(4,([1],[])),(5,([5],[])),(6,([26,27],[])),(7,([28],[])),(8,([25,29],[]))]),(10,[(0,([0],[])),(1,([5],[])),(2,([31,32],[])),(3,([33],[])),(4,([1],[])),(5,([5],[])),(6,([35,36],[])),(7,([37],[])),(8,([34,38],[]))])] (.seq .u (.seq .u (.seq (.seq .u (.block (.loop ⟨[(0,.c (.rows false .i64)),(1,.c (.rows false .i64)),(5,.c (.int .i64))],[]⟩ .u))) .u))) lN Tryz.f38 [] (Ob A):=fun _=>by kernel_rfl
theorem adl (A:Alg) (Ez:Ct A.ah Dk) (iX:Ct A.ah lN): @Ru aL.z X E A [(6,[(0,([1],[])),(1,([15],[])),(2,([3],[])),(3,([16,17],[])),(4,([18],[])),(5,([19],[])),(6,([20],[])),(7,([21],[])),(8,([3,22],[])),(9,([22,23],[])),(10,([22,24],[])),(11,([1,25],[])),(12,([25,26],[])),(13,([3,25],[])),(14,([25,28],[])),(15,([25,27,29],[])),(16,([25,30],[])),(17,([25,31],[])),(18,([1,25],[])),(19,([25,33],[])),(20,([3,25],[])),(21,([25,34,35],[])),(22,([25,36],[])),(23,([25,37],[])),(24,([25,32,38],[])),(25,([25,39],[])),(26,([22,25,40],[])),(27,([22,41],[]))])] (.seq .u (.seq .u (.seq (.seq .u (.block (.loop ⟨[(1,.c (.pb 0 1 0)),(3,.c (.int .i64))],[.box (.sv false .poly)]⟩ .u))) .u))) eU Tryz.f9 [(37,⟨_,Ez⟩),(38,⟨_,iX⟩)] (Oc A Ez.pre Ez.fn iX.pre iX.fn):=fun _=>by kernel_rfl
theorem adn (A:Alg): @Ru aL.z X E A [] (.seq .u (.seq .u (.seq (.seq .u (.cut ⟨[(3,.c (.int .i64))],[]⟩ (.cond .u .u))) .u))) jD Tryz.f105 [] (Od A):=fun _=>by kernel_rfl
theorem ado (A:Alg) (iX:Ct A.ah lN) (gu:Ct A.ah jD): @Ru aL.z X E A [(6,[(0,([3],[])),(1,([17],[])),(2,([0],[])),(3,([7],[])),(4,([19,20],[])),(5,([21],[])),(6,([22],[])),(7,([18,23],[])),(8,([24],[]))]),(12,[(0,([0],[])),(1,([7],[])),(2,([37,38],[])),(3,([39],[])),(4,([40],[])),(5,([3],[])),(6,([42],[])),(7,([41,43],[])),(8,([44],[])),(9,([45],[]))])] (.seq .u (.seq .u (.seq .u (.seq (.seq .u (.block (.loop ⟨[(0,.c (.rows false .mono)),(3,.c (.pb 0 2 0)),(5,.c (.own 1)),(6,.c (.bool)),(7,.c (.int .i64))],[.box (.sv false .mono),.rows false .mono]⟩ (.seq .u (.seq (.block (.seq .u (.seq (.seq .u (.cut ⟨[(0,.c (.rows false .mono)),(3,.c (.pb 0 2 0)),(5,.c (.own 1)),(6,.c (.bool)),(7,.c (.int .i64)),(8,.c (.int .i64))],[.box (.sv false .mono),.rows false .mono]⟩ (.cond .u .u))) (.seq .u (.cut ⟨[(0,.c (.rows false .mono)),(3,.c (.pb 0 2 0)),(5,.c (.own 1)),(6,.c (.bool)),(7,.c (.int .i64))],[.box (.sv false .mono),.rows false .mono]⟩ (.cond (.seq .u (.seq .u (.seq .u (.cut ⟨[(0,.c (.rows false .mono)),(3,.c (.pb 0 2 0)),(5,.c (.own 1)),(6,.c (.bool)),(7,.c (.int .i64))],[.box (.sv false .mono),.rows false .mono]⟩ (.cond .u .u))))) .u)))))) .u))))) (.seq (.seq .u (.cut ⟨[(5,.c (.own 0))],[.rows false .mono]⟩ (.cond .u .u))) .u))))) sI Tryz.f106 [(38,⟨_,iX⟩),(105,⟨_,gu⟩)] (Oe A iX.pre iX.fn gu.pre gu.fn):=fun _=>by kernel_rfl
theorem adp (A:Alg): @Ru ⟨[26],[]⟩ X E A [(5,[(0,([3],[])),(1,([12],[])),(2,([0],[])),(3,([4],[])),(4,([14,15],[])),(5,([16],[])),(6,([17],[])),(7,([],[])),(8,([0],[])),(9,([4],[])),(10,([20,21],[])),(11,([22],[])),(12,([23],[])),(13,([19,24],[1,6])),(14,([18,25],[])),(15,([26],[1])),(16,([13,27],[])),(17,([3],[])),(18,([28,29],[]))])] (.seq .u (.seq .u (.seq (.seq .u (.block (.loop ⟨[(0,.c (.rows false .mono)),(2,.c (.pb 0 1 0)),(3,.c (.pb 1 1 0)),(4,.c (.int .i64))],[.box (.agg [.nil]),.box (.agg [.own 2]),.rows true .mono]⟩ .u))) .u))) dD Tryz.f32 [] (Og A):=fun _=>by kernel_rfl
theorem adq (A:Alg) (bq:Ct A.ah dD): @Ru aL.z X E A [] (.seq .u (.seq .u (.seq (.seq .u (.block (.loop ⟨[(0,.c (.rows false .mono)),(2,.c (.pb 0 1 0)),(4,.c (.int .i64))],[.box (.agg [.nil])]⟩ .u))) .u))) sJ Tryz.f107 [(32,⟨_,bq⟩)] (Oh A bq.pre bq.fn):=fun _=>by kernel_rfl
theorem adr (A:Alg) (bT:Ct A.ah eU) (nI:Ct A.ah sI) (nJ:Ct A.ah sJ): @Ru aL.z X E A [] (.seq .u (.seq .u (.seq .u (.seq (.seq .u (.block (.loop ⟨[(3,.c (.pb 0 1 0)),(4,.c (.pb 1 1 0)),(6,.c (.rows false .mono)),(7,.c (.int .i64))],[.box (.sv false .poly),.box (.agg [.nil])]⟩ .u))) .u)))) lQ Tryz.f57 [(9,⟨_,bT⟩),(106,⟨_,nI⟩),(107,⟨_,nJ⟩)] (Oi A bT.pre bT.fn nI.pre nI.fn nJ.pre nJ.fn):=fun _=>by kernel_rfl
theorem ads (A:Alg) (aU:Ct A.ah bS): @Ru aL.z X E A [] .u iy Tryz.f58 [(48,⟨_,aU⟩)] (Oq A aU.pre aU.fn):=fun _=>by kernel_rfl
theorem adt (A:Alg): @Ru aL.z X E A [(6,[(0,([6],[])),(1,([0],[])),(2,([16],[])),(3,([15,17],[])),(4,([18],[])),(5,([0,19],[])),(6,([6,19],[])),(7,([19,20,21],[])),(8,([19,22],[])),(9,([1,19],[])),(10,([7,19],[])),(11,([19,24,25],[])),(12,([19,26],[])),(13,([19,23,27],[])),(14,([19,28],[]))])] (.seq .u (.seq .u (.seq .u (.seq (.seq .u (.block (.loop ⟨[(0,.c (.rows false .i64)),(1,.c (.rows false .i64)),(5,.c (.own 0)),(6,.c (.int .i64)),(7,.c (.int .i64))],[.rows true .i64]⟩ (.seq .u (.seq (.block (.seq (.block (.loop ⟨[(0,.c (.rows false .i64)),(1,.c (.rows false .i64)),(5,.c (.own 0)),(6,.c (.int .i64)),(7,.c (.int .i64))],[.rows true .i64]⟩ .u)) .u)) .u))))) .u)))) Dl Tryz.f169 [] (Ou A):=fun _=>by kernel_rfl
theorem adu (A:Alg) (bT:Ct A.ah eU) (gu:Ct A.ah jD) (nI:Ct A.ah sI) (EA:Ct A.ah Dl) (nJ:Ct A.ah sJ): @Ru aL.z X E A [(10,[(0,([2],[])),(1,([34],[])),(2,([7],[])),(3,([35,36],[])),(4,([37],[])),(5,([38],[])),(6,([3],[])),(7,([40],[])),(8,([8],[])),(9,([41,42],[])),(10,([43],[])),(11,([44],[])),(12,([39,45],[])),(13,([46],[])),(14,([47],[]))]),(12,[(0,([6],[])),(1,([9],[])),(2,([2],[])),(3,([52],[])),(4,([7],[])),(5,([53,54],[])),(6,([55],[])),(7,([56],[])),(8,([3],[])),(9,([58],[])),(10,([8],[])),(11,([59,60],[])),(12,([61],[])),(13,([62],[])),(14,([57,63],[])),(15,([51,64],[])),(16,([50,65],[])),(17,([66],[]))])] (.seq .u (.seq .u (.seq .u (.seq (.seq .u (.block (.loop ⟨[(2,.c (.pb 0 1 0)),(3,.c (.pb 1 1 0)),(4,.c (.pb 2 1 0)),(6,.c (.own 3)),(7,.c (.int .i64))],[.box (.sv false .poly),.box (.sv false .poly),.box (.agg [.nil]),.rows false .mono]⟩ (.seq .u (.seq (.block (.seq .u (.block (.loop ⟨[(2,.c (.pb 0 1 0)),(3,.c (.pb 1 1 0)),(4,.c (.pb 2 1 0)),(6,.c (.own 3)),(7,.c (.int .i64)),(8,.c (.int .i64))],[.box (.sv false .poly),.box (.sv false .poly),.box (.agg [.nil]),.rows false .mono]⟩ (.seq .u (.seq (.block (.seq .u (.seq .u (.cut ⟨[(2,.c (.pb 0 1 0)),(3,.c (.pb 1 1 0)),(4,.c (.pb 2 1 0)),(6,.c (.own 3)),(7,.c (.int .i64)),(8,.c (.int .i64))],[.box (.sv false .poly),.box (.sv false .poly),.box (.agg [.nil]),.rows false .mono]⟩ (.cond .u .u))))) .u)))))) .u))))) .u)))) sK Tryz.f138 [(9,⟨_,bT⟩),(105,⟨_,gu⟩),(106,⟨_,nI⟩),(169,⟨_,EA⟩),(107,⟨_,nJ⟩)] (Ov A bT.pre bT.fn gu.pre gu.fn nI.pre nI.fn EA.pre EA.fn nJ.pre nJ.fn):=fun _=>by kernel_rfl
theorem adw (A:Alg) (aY:Ct A.ah cO) (dX:Ct A.ah iy) (nK:Ct A.ah sK) (iY:Ct A.ah lQ) (dY:Ct A.ah iw) (iZ:Ct A.ah lM): @Ru aL.z X E A [(9,[(0,([7],[])),(1,([0],[])),(2,([1],[])),(3,([49,50],[0])),(4,([51],[0])),(5,([48,52],[])),(6,([53],[])),(7,([47],[])),(8,([47],[])),(9,([],[])),(10,([9,54],[])),(11,([55],[]))])] (.seq .u (.seq .u (.seq (.seq .u (.block (.loop ⟨[(0,.c (.pb 0 2 0)),(1,.c (.int .i64)),(4,.c (.pb 1 1 0)),(5,.c (.pb 2 1 0)),(6,.c (.int .i64))],[.box (.agg [.rows true .u8,.int .i64]),.box (.agg [.nil]),.box (.agg [.own 3]),.rows true .mono]⟩ (.seq .u (.seq (.block (.seq .u (.seq (.seq .u (.block (.loop ⟨[(0,.c (.pb 0 2 0)),(1,.c (.int .i64)),(4,.c (.pb 1 1 0)),(5,.c (.pb 2 1 0)),(6,.c (.int .i64)),(7,.c (.pb 3 1 0)),(8,.c (.int .i64))],[.box (.agg [.rows true .u8,.int .i64]),.box (.agg [.nil]),.box (.agg [.own 4]),.box (.agg [.own 5]),.rows true .mono,.rows true .mono]⟩ (.seq .u (.seq (.block (.seq .u (.seq .u (.cut ⟨[(0,.c (.pb 0 2 0)),(1,.c (.int .i64)),(4,.c (.pb 1 1 0)),(5,.c (.pb 2 1 0)),(6,.c (.int .i64)),(7,.c (.pb 3 1 0)),(8,.c (.int .i64))],[.box (.agg [.rows true .u8,.int .i64]),.box (.agg [.nil]),.box (.agg [.own 4]),.box (.agg [.own 5]),.rows true .mono,.rows true .mono]⟩ (.cond .u .u))))) .u))))) (.seq .u (.seq .u (.cut ⟨[(0,.c (.pb 0 2 0)),(1,.c (.int .i64)),(4,.c (.pb 1 1 0)),(5,.c (.pb 2 1 0)),(6,.c (.int .i64))],[.box (.agg [.rows true .u8,.int .i64]),.box (.agg [.nil]),.box (.agg [.own 3]),.rows true .mono]⟩ (.cond .u .u))))))) .u))))) .u))) Dm Tryz.f103 [(22,⟨_,aY⟩),(58,⟨_,dX⟩),(138,⟨_,nK⟩),(57,⟨_,iY⟩),(23,⟨_,dY⟩),(24,⟨_,iZ⟩)] (Ow A aY.pre aY.fn dX.pre dX.fn nK.pre nK.fn iY.pre iY.fn dY.pre dY.fn iZ.pre iZ.fn):=fun _=>by kernel_rfl
theorem adx (A:Alg) (aY:Ct A.ah cO): @Ru aL.z X E A [] .u Dn Tryz.f104 [(22,⟨_,aY⟩)] (Oz A aY.pre aY.fn):=fun _=>by kernel_rfl
theorem ady (A:Alg) (EB:Ct A.ah Dn) (aY:Ct A.ah cO) (EC:Ct A.ah Dm): @Ru aL.z X E A [] (.seq .u (.seq .u (.seq (.seq .u (.cut ⟨[(4,.c (.pb 1 1 0)),(5,.c (.pb 2 1 0))],[.box (.agg [.rows true .u8,.int .i64]),.box (.agg [.nil]),.box (.agg [.own 3]),.rows true .mono]⟩ (.cond (.seq .u (.block (.loop ⟨[(4,.c (.pb 1 1 0)),(5,.c (.pb 2 1 0))],[.box (.agg [.rows true .u8,.int .i64]),.box (.agg [.nil]),.box (.agg [.own 3]),.rows true .mono]⟩ .u))) .u))) .u))) Dp Tryz.f55 [(104,⟨_,EB⟩),(22,⟨_,aY⟩),(103,⟨_,EC⟩)] (OA A EB.pre EB.fn aY.pre aY.fn EC.pre EC.fn):=fun _=>by kernel_rfl
theorem adz (A:Alg): @Ru aL.z X E A [] .u jE Tryz.f87 [] (OB A):=fun _=>by kernel_rfl
theorem adA (A:Alg) (bT:Ct A.ah eU) (gu:Ct A.ah jD) (bq:Ct A.ah dD) (gy:Ct A.ah jE): @Ru aL.z X E A [] (.seq .u (.seq .u (.seq .u (.seq (.seq .u (.block (.loop ⟨[(1,.c (.int .i64)),(2,.c (.pb 0 1 0)),(4,.c (.pb 1 1 0)),(5,.c (.own 2)),(6,.c (.int .i64))],[.box (.sv false .poly),.box (.agg [.nil]),.rows false .mono]⟩ (.seq .u (.seq (.block (.seq .u (.seq .u (.cut ⟨[(1,.c (.int .i64)),(2,.c (.pb 0 1 0)),(4,.c (.pb 1 1 0)),(5,.c (.own 2)),(6,.c (.int .i64))],[.box (.sv false .poly),.box (.agg [.nil]),.rows false .mono]⟩ (.cond .u .u))))) .u))))) .u)))) sM Tryz.f56 [(9,⟨_,bT⟩),(105,⟨_,gu⟩),(32,⟨_,bq⟩),(87,⟨_,gy⟩)] (OC A bT.pre bT.fn gu.pre gu.fn bq.pre bq.fn gy.pre gy.fn):=fun _=>by kernel_rfl
theorem adB (A:Alg) (iY:Ct A.ah lQ) (dY:Ct A.ah iw) (nL:Ct A.ah sM) (aY:Ct A.ah cO) (iZ:Ct A.ah lM) (ED:Ct A.ah Dp): @Ru aL.z X E A [(5,[(0,([6],[])),(1,([6],[])),(2,([4,20],[1])),(3,([5,21],[]))]),(7,[(0,([6],[])),(1,([6],[])),(2,([25],[0])),(3,([4,24],[])),(4,([5,26],[]))]),(11,[(0,([6],[])),(1,([8],[])),(2,([4,39],[1])),(3,([5,40],[]))]),(12,[(0,([6],[])),(1,([7],[])),(2,([4,41],[1])),(3,([5,42],[]))])] (.seq .u (.seq .u (.seq .u (.seq (.seq .u (.block (.seq .u (.cond .u (.seq .u (.cond .u (.seq .u (.cut ⟨[(4,.c (.pb 1 1 0)),(5,.c (.pb 2 1 0)),(6,.c (.pb 3 1 0)),(7,.c (.pb 4 1 0))],[.box (.agg [.rows true .u8,.int .i64]),.box (.agg [.nil]),.box (.agg [.nil]),.box (.sv true .poly),.box (.sv true .poly)]⟩ (.cond .u .u))))))))) .u)))) Dq Tryz.f21 [(57,⟨_,iY⟩),(23,⟨_,dY⟩),(56,⟨_,nL⟩),(22,⟨_,aY⟩),(24,⟨_,iZ⟩),(55,⟨_,ED⟩)] (OD A iY.pre iY.fn dY.pre dY.fn nL.pre nL.fn aY.pre aY.fn iZ.pre iZ.fn ED.pre ED.fn):=fun _=>by kernel_rfl
theorem adC (A:Alg) (dX:Ct A.ah iy): @Ru aL.z X E A [] (.seq .u (.seq .u (.seq .u (.seq (.seq .u (.block (.loop ⟨[(0,.c (.pb 0 1 0)),(2,.c (.pb 1 1 0)),(3,.c (.own 2)),(4,.c (.int .i64))],[.box (.agg [.nil]),.box (.agg [.own 3]),.rows true .poly,.rows true .atom]⟩ .u))) .u)))) sN Tryz.f25 [(58,⟨_,dX⟩)] (OE A dX.pre dX.fn):=fun _=>by kernel_rfl
theorem adD (A:Alg) (bq:Ct A.ah dD): @Ru aL.z X E A [] (.seq .u (.seq .u (.seq (.seq .u (.block (.loop ⟨[(0,.c (.rows false .poly)),(3,.c (.own 0)),(4,.c (.int .i64))],[.rows true .poly]⟩ .u))) .u))) lS Tryz.f33 [(32,⟨_,bq⟩)] (OG A bq.pre bq.fn):=fun _=>by kernel_rfl
theorem adE (A:Alg) (bT:Ct A.ah eU): @Ru aL.z X E A [] .u lT Tryz.f34 [(9,⟨_,bT⟩)] (OH A bT.pre bT.fn):=fun _=>by kernel_rfl
theorem adF (A:Alg): @Ru aL.z X E A [] .u sO Tryz.f35 [] (OI A):=fun _=>by kernel_rfl
theorem adG (A:Alg) (iX:Ct A.ah lN): @Ru aL.z X E A [(8,[(0,([2],[])),(1,([28],[])),(2,([5],[])),(3,([29,30],[])),(4,([31],[])),(5,([32],[])),(6,([3],[])),(7,([34],[])),(8,([5],[])),(9,([35,36],[])),(10,([37],[])),(11,([38],[])),(12,([33,39],[])),(13,([40],[]))]),(11,[(0,([2],[])),(1,([44],[])),(2,([5],[])),(3,([45,46],[])),(4,([47],[])),(5,([48],[])),(6,([3],[])),(7,([50],[])),(8,([5],[])),(9,([51,52],[])),(10,([53],[])),(11,([54],[])),(12,([49,55],[]))]),(12,[(0,([2],[])),(1,([57],[])),(2,([5],[])),(3,([58,59],[])),(4,([60],[])),(5,([61],[])),(6,([3],[])),(7,([63],[])),(8,([5],[])),(9,([64,65],[])),(10,([66],[])),(11,([67],[])),(12,([62,68],[]))])] (.seq .u (.seq .u (.seq (.seq .u (.block (.loop ⟨[(2,.c (.pb 0 1 0)),(3,.c (.pb 1 1 0)),(5,.c (.int .i64))],[.box (.sv false .poly),.box (.sv false .poly)]⟩ .u))) .u))) jF Tryz.f79 [(38,⟨_,iX⟩)] (OJ A iX.pre iX.fn):=fun _=>by kernel_rfl
theorem adH (A:Alg) (jc:Ct A.ah lT) (gB:Ct A.ah jF) (nM:Ct A.ah sO): @Ru aL.z X E A [] (.seq .u (.seq .u (.seq .u (.seq .u (.seq (.block (.seq (.seq .u (.cut ⟨[(1,.c (.int .i64)),(2,.c (.pb 0 6 0)),(4,.c (.pb 1 6 0)),(6,.c (.bool)),(8,.c (.bool)),(9,.c (.bool)),(29,.c (.bool))],[.box (.sv false .sym),.box (.agg [.nil,.nil,.int .i64,.nil,.nil,.int .i64])]⟩ (.cond .u .u))) (.cond .u (.seq (.seq .u (.cut ⟨[(1,.c (.int .i64)),(2,.c (.pb 0 6 0)),(4,.c (.pb 1 6 0)),(54,.c (.bool))],[.box (.sv false .sym),.box (.agg [.nil,.nil,.int .i64,.nil,.nil,.int .i64])]⟩ (.cond .u .u))) .u)))) (.seq (.seq .u (.cut ⟨[(2,.c (.pb 0 6 0)),(4,.c (.pb 1 6 0))],[.box (.sv false .sym),.box (.agg [.nil,.nil,.int .i64,.nil,.nil,.int .i64])]⟩ (.cond .u .u))) .u)))))) Dr Tryz.f36 [(34,⟨_,jc⟩),(79,⟨_,gB⟩),(35,⟨_,nM⟩)] (OL A jc.pre jc.fn gB.pre gB.fn nM.pre nM.fn):=fun _=>by kernel_rfl
theorem adI (A:Alg) (jc:Ct A.ah lT) (bT:Ct A.ah eU) (bq:Ct A.ah dD) (nM:Ct A.ah sO) (EF:Ct A.ah Dr) (jd:Ct A.ah lS): @Ru ⟨[53],[]⟩ X E A [(9,[(0,([5],[])),(1,([36],[])),(2,([7],[])),(3,([38],[])),(4,([7],[])),(5,([40],[])),(6,([7],[])),(7,([42],[])),(8,([43],[])),(10,([7],[])),(11,([46],[])),(12,([47],[])),(14,([7],[])),(15,([50],[])),(9,([44],[1,3,5,12,15])),(13,([48],[1,3,5,15])),(16,([51],[1,3,5])),(17,([39,41,45,49,52],[])),(18,([53],[1])),(19,([37,54],[])),(20,([5],[])),(21,([55,56],[]))])] (.seq .u (.seq .u (.seq .u (.seq .u (.seq (.seq .u (.block (.loop ⟨[(1,.c (.int .i64)),(2,.c (.pb 0 6 0)),(4,.c (.pb 1 6 0)),(5,.c (.pb 2 6 0)),(6,.c (.int .i64))],[.box (.sv false .sym),.box (.agg [.nil,.nil,.int .i64,.nil,.nil,.int .i64]),.box (.agg [.own 3,.rows false .poly,.int .i64,.rows false .mono,.rows false .mono,.int .i64]),.rows true .ev]⟩ .u))) (.seq .u (.seq .u (.seq .u (.seq (.seq .u (.block (.seq .u (.cut ⟨[(4,.c (.pb 0 6 0)),(5,.c (.pb 1 6 0))],[.box (.agg [.nil,.nil,.int .i64,.nil,.nil,.int .i64]),.box (.agg [.own 2,.own 3,.int .i64,.own 4,.own 5,.int .i64]),.rows true .ev,.rows true .poly,.rows true .mono,.rows true .mono]⟩ (.cond .u (.seq (.seq .u (.cut ⟨[(1,.c (.int .i64)),(4,.c (.pb 0 6 0)),(5,.c (.pb 1 6 0)),(85,.c (.bool))],[.box (.agg [.nil,.nil,.int .i64,.nil,.nil,.int .i64]),.box (.agg [.own 2,.own 3,.int .i64,.own 4,.own 5,.int .i64]),.rows true .ev,.rows true .poly,.rows true .mono,.rows true .mono]⟩ (.cond .u .u))) .u)))))) .u))))))))) sP Tryz.f8 [(34,⟨_,jc⟩),(9,⟨_,bT⟩),(32,⟨_,bq⟩),(35,⟨_,nM⟩),(36,⟨_,EF⟩),(33,⟨_,jd⟩)] (OM A jc.pre jc.fn bT.pre bT.fn bq.pre bq.fn nM.pre nM.fn EF.pre EF.fn jd.pre jd.fn):=fun _=>by kernel_rfl
theorem adJ (A:Alg) (aU:Ct A.ah bS): @Ru aL.z X E A [] .u Dt Tryz.f130 [(48,⟨_,aU⟩)] (OO A aU.pre aU.fn):=fun _=>by kernel_rfl
theorem adK (A:Alg) (EG:Ct A.ah Dt): @Ru aL.z X E A [] .u sQ Tryz.f88 [(130,⟨_,EG⟩)] (OP A EG.pre EG.fn):=fun _=>by kernel_rfl
theorem adL (A:Alg) (gy:Ct A.ah jE) (aU:Ct A.ah bS) (nN:Ct A.ah sQ): @Ru aL.z X E A [] (.seq .u (.seq .u (.seq (.seq .u (.block (.seq .u (.cond .u (.seq .u (.cond .u (.seq .u (.cond .u (.seq (.seq .u (.cut ⟨[(0,.c (.rows false .iop)),(1,.c (.int .i64)),(2,.c (.int .i64)),(7,.c (.pb 0 5 0)),(13,.c (.int .i64)),(78,.c (.bool))],[.box (.sv false .iop)]⟩ (.cond .u .u))) .u))))))))) .u))) Du Tryz.f49 [(87,⟨_,gy⟩),(48,⟨_,aU⟩),(88,⟨_,nN⟩)] (OQ A gy.pre gy.fn aU.pre aU.fn nN.pre nN.fn):=fun _=>by kernel_rfl
theorem adM (A:Alg) (gy:Ct A.ah jE) (nN:Ct A.ah sQ): @Ru aL.z X E A [] (.seq .u (.seq .u (.seq (.seq .u (.block (.seq .u (.cond .u (.seq .u (.cond .u (.seq (.seq .u (.cut ⟨[(1,.c (.pb 0 7 0)),(3,.c (.int .i64)),(42,.c (.bool))],[.box (.sv false .blk)]⟩ (.cond .u .u))) .u))))))) .u))) Dv Tryz.f50 [(87,⟨_,gy⟩),(88,⟨_,nN⟩)] (OT A gy.pre gy.fn nN.pre nN.fn):=fun _=>by kernel_rfl
theorem adN (A:Alg) (aU:Ct A.ah bS) (EH:Ct A.ah Dv) (EI:Ct A.ah Du): @Ru aL.z X E A [] (.seq .u (.seq .u (.seq (.seq .u (.block (.loop ⟨[(1,.c (.pb 0 7 0)),(3,.c (.int .i64))],[.box (.sv false .blk)]⟩ .u))) .u))) gq Tryz.f18 [(48,⟨_,aU⟩),(50,⟨_,EH⟩),(49,⟨_,EI⟩)] (OU A aU.pre aU.fn EH.pre EH.fn EI.pre EI.fn):=fun _=>by kernel_rfl
theorem adO (A:Alg): @Ru aL.z X E A [] .u Dw Tryz.f139 [] (OV A):=fun _=>by kernel_rfl
theorem adP (A:Alg): @Ru aL.z X E A [] (.seq .u (.seq (.seq .u (.block (.loop ⟨[(1,.c (.int .i64)),(2,.c (.pb 0 1 0)),(5,.c (.int .i64))],[.box (.sv false .poly)]⟩ (.seq .u (.seq (.block (.seq .u (.block (.loop ⟨[(1,.c (.int .i64)),(2,.c (.pb 0 1 0)),(5,.c (.int .i64)),(6,.c (.int .i64))],[.box (.sv false .poly)]⟩ .u)))) .u))))) .u)) Dx Tryz.f140 [] (OW A):=fun _=>by kernel_rfl
theorem adQ (A:Alg) (aU:Ct A.ah bS) (bT:Ct A.ah eU) (EJ:Ct A.ah Dx) (EK:Ct A.ah Dw): @Ru aL.z X E A [] (.seq .u (.seq (.seq .u (.block (.seq .u (.cond .u (.seq (.seq .u (.cut ⟨[(1,.c (.int .i64)),(2,.c (.pb 0 4 0)),(6,.c (.int .i64)),(16,.c (.bool))],[.box (.sv false .atom)]⟩ (.cond .u .u))) .u))))) .u)) sS Tryz.f108 [(48,⟨_,aU⟩),(9,⟨_,bT⟩),(140,⟨_,EJ⟩),(139,⟨_,EK⟩)] (OX A aU.pre aU.fn bT.pre bT.fn EJ.pre EJ.fn EK.pre EK.fn):=fun _=>by kernel_rfl
theorem adR (A:Alg) (gB:Ct A.ah jF): @Ru aL.z X E A [] .u sU Tryz.f109 [(79,⟨_,gB⟩)] (OY A gB.pre gB.fn):=fun _=>by kernel_rfl
theorem adS (A:Alg) (nO:Ct A.ah sS) (nP:Ct A.ah sU): @Ru aL.z X E A [(11,[(0,([1],[])),(1,([29],[])),(2,([4],[])),(3,([30,31],[])),(4,([32],[])),(5,([1],[])),(6,([34],[])),(7,([3],[])),(8,([35,36],[])),(9,([37],[])),(10,([33,38],[]))])] (.seq .u (.seq .u (.seq (.seq .u (.block (.loop ⟨[(1,.c (.pb 0 1 0)),(3,.c (.int .i64))],[.box (.sv false .tab)]⟩ (.seq .u (.seq (.block (.seq .u (.seq .u (.block (.loop ⟨[(1,.c (.pb 0 1 0)),(3,.c (.int .i64)),(4,.c (.int .i64))],[.box (.sv false .tab)]⟩ .u))))) .u))))) .u))) Dy Tryz.f59 [(108,⟨_,nO⟩),(109,⟨_,nP⟩)] (OZ A nO.pre nO.fn nP.pre nP.fn):=fun _=>by kernel_rfl
theorem adT (A:Alg) (bq:Ct A.ah dD): @Ru aL.z X E A [(1,[(0,([1],[])),(1,([3],[])),(2,([1],[])),(3,([5],[])),(4,([1],[])),(5,([7],[])),(6,([8],[])),(8,([1],[])),(9,([11],[])),(10,([12],[])),(7,([9],[1,3,10])),(11,([13],[1,3])),(12,([4,6,10,14],[])),(13,([2,15],[]))])] .u sV Tryz.f110 [(32,⟨_,bq⟩)] (O9 A bq.pre bq.fn):=fun _=>by kernel_rfl
theorem adU (A:Alg) (nQ:Ct A.ah sV): @Ru ⟨[20],[]⟩ X E A [(5,[(0,([3],[])),(1,([13],[])),(2,([1],[])),(3,([15],[])),(4,([4],[])),(5,([16,17],[])),(6,([18],[])),(7,([19],[1])),(8,([20],[1])),(9,([14,21],[])),(10,([3],[])),(11,([22,23],[]))])] (.seq .u (.seq .u (.seq (.seq .u (.block (.loop ⟨[(1,.c (.pb 0 1 0)),(2,.c (.pb 1 1 0)),(3,.c (.pb 2 1 0)),(4,.c (.int .i64))],[.box (.sv false .tab),.box (.agg [.nil]),.box (.agg [.own 3]),.rows true .atom]⟩ .u))) .u))) Dz Tryz.f60 [(110,⟨_,nQ⟩)] (Pb A nQ.pre nQ.fn):=fun _=>by kernel_rfl
theorem adV (A:Alg) (nO:Ct A.ah sS) (nP:Ct A.ah sU) (nQ:Ct A.ah sV): @Ru ⟨[38],[]⟩ X E A [(6,[(0,([2],[])),(1,([21],[])),(2,([6],[])),(3,([22,23],[])),(4,([24],[])),(5,([3],[])),(6,([25,26],[]))]),(10,[(0,([2],[])),(1,([35],[])),(2,([3],[])),(3,([37],[1])),(4,([38],[1])),(5,([36,39],[])),(6,([2],[])),(7,([40,41],[]))]),(11,[(0,([2],[])),(1,([2],[])),(2,([43],[])),(3,([44],[])),(4,([45],[])),(5,([4,42],[2])),(6,([46],[]))])] (.seq .u (.seq .u (.seq (.seq .u (.block (.loop ⟨[(2,.c (.pb 1 1 0)),(3,.c (.pb 2 4 0)),(4,.c (.pb 3 1 0)),(6,.c (.int .i64))],[.rows true .atom,.box (.agg [.own 0]),.box (.sv false .atom),.box (.agg [.nil])]⟩ .u))) .u))) lU Tryz.f61 [(108,⟨_,nO⟩),(109,⟨_,nP⟩),(110,⟨_,nQ⟩)] (Ph A nO.pre nO.fn nP.pre nP.fn nQ.pre nQ.fn):=fun _=>by kernel_rfl
theorem adW (A:Alg): @Ru aL.z X E A [] .u DC Tryz.f62 [] (Pj A):=fun _=>by kernel_rfl
theorem adX (A:Alg) (nK:Ct A.ah sK) (iY:Ct A.ah lQ) (nL:Ct A.ah sM): @Ru aL.z X E A [(5,[(0,([4],[])),(1,([5],[])),(2,([19],[0])),(3,([18,20],[])),(4,([21],[])),(5,([21],[])),(6,([6,22],[])),(7,([23],[]))])] .u DF Tryz.f111 [(138,⟨_,nK⟩),(57,⟨_,iY⟩),(56,⟨_,nL⟩)] (Pm A nK.pre nK.fn iY.pre iY.fn nL.pre nL.fn):=fun _=>by kernel_rfl
theorem adY (A:Alg) (gu:Ct A.ah jD) (gy:Ct A.ah jE): @Ru aL.z X E A [] .u sW Tryz.f141 [(105,⟨_,gu⟩),(87,⟨_,gy⟩)] (Pn A gu.pre gu.fn gy.pre gy.fn):=fun _=>by kernel_rfl
theorem adZ (A:Alg) (bq:Ct A.ah dD): @Ru aL.z X E A [] .u DJ Tryz.f142 [(32,⟨_,bq⟩)] (Po A bq.pre bq.fn):=fun _=>by kernel_rfl
theorem ad1 (A:Alg) (gB:Ct A.ah jF) (bq:Ct A.ah dD) (nS:Ct A.ah sW) (dY:Ct A.ah iw) (jc:Ct A.ah lT) (EL:Ct A.ah DJ): @Ru aL.z X E A [] .u DK Tryz.f112 [(79,⟨_,gB⟩),(32,⟨_,bq⟩),(141,⟨_,nS⟩),(23,⟨_,dY⟩),(34,⟨_,jc⟩),(142,⟨_,EL⟩)] (Pp A gB.pre gB.fn bq.pre bq.fn nS.pre nS.fn dY.pre dY.fn jc.pre jc.fn EL.pre EL.fn):=fun _=>by kernel_rfl
theorem ad2 (A:Alg) (dX:Ct A.ah iy) (gB:Ct A.ah jF) (EM:Ct A.ah DF) (EN:Ct A.ah DK) (je:Ct A.ah lU): @Ru aL.z X E A [(5,[(0,([4],[])),(1,([10],[])),(2,([8,36],[1])),(3,([9,37],[]))]),(12,[(0,([13],[])),(1,([14],[])),(2,([65],[0])),(3,([8,64],[])),(4,([9,66],[]))])] (.seq .u (.seq .u (.seq (.seq .u (.cut ⟨[(1,.c (.int .i64)),(4,.c (.pb 1 1 0)),(6,.c (.pb 2 1 0)),(7,.c (.pb 3 1 0)),(8,.c (.pb 4 1 0)),(9,.c (.pb 5 1 0)),(10,.c (.pb 6 1 0)),(11,.c (.bool))],[.rows true .atom,.box (.agg [.own 0]),.box (.sv false .poly),.box (.sv false .poly),.box (.agg [.nil]),.box (.agg [.nil]),.box (.agg [.own 7]),.rows true .mono]⟩ (.cond .u .u))) (.seq .u (.seq .u (.seq (.seq .u (.cut ⟨[(4,.c (.pb 1 1 0)),(8,.c (.pb 2 1 0)),(9,.c (.pb 3 1 0)),(12,.c (.pb 4 4 0))],[.rows true .atom,.box (.agg [.own 0]),.box (.agg [.nil]),.box (.agg [.nil]),.box (.agg [.int .i64,.int .i64,.rows false .mono,.rows false .mono])]⟩ (.cond .u .u))) .u)))))) DL Tryz.f63 [(58,⟨_,dX⟩),(79,⟨_,gB⟩),(111,⟨_,EM⟩),(112,⟨_,EN⟩),(61,⟨_,je⟩)] (Pw A dX.pre dX.fn gB.pre gB.fn EM.pre EM.fn EN.pre EN.fn je.pre je.fn):=fun _=>by kernel_rfl
theorem ad3 (A:Alg): @Ru aL.z X E A [] (.seq .u (.seq .u (.seq (.seq .u (.block (.loop ⟨[(0,.c (.rows false .ev)),(1,.c (.int .i64)),(5,.c (.int .i64)),(6,.c (.int .i64))],[]⟩ (.seq .u (.seq (.block (.seq .u (.cut ⟨[(0,.c (.rows false .ev)),(1,.c (.int .i64)),(5,.c (.int .i64)),(6,.c (.int .i64))],[]⟩ (.cond .u .u)))) .u))))) .u))) DN Tryz.f113 [] (Px A):=fun _=>by kernel_rfl
theorem ad4 (A:Alg) (dX:Ct A.ah iy) (je:Ct A.ah lU) (EO:Ct A.ah DN): @Ru aL.z X E A [(5,[(0,([9],[])),(1,([10],[])),(2,([25],[0])),(3,([6,24],[])),(4,([7,26],[]))])] (.seq .u (.seq .u (.seq (.seq .u (.cut ⟨[(3,.c (.pb 1 1 0)),(6,.c (.pb 2 1 0)),(7,.c (.pb 3 1 0)),(8,.c (.pb 4 4 0))],[.rows true .atom,.box (.agg [.own 0]),.box (.agg [.nil]),.box (.agg [.nil]),.box (.agg [.int .i64,.int .i64,.nil,.nil])]⟩ (.cond .u .u))) .u))) DR Tryz.f64 [(58,⟨_,dX⟩),(61,⟨_,je⟩),(113,⟨_,EO⟩)] (Py A dX.pre dX.fn je.pre je.fn EO.pre EO.fn):=fun _=>by kernel_rfl
theorem ad5 (A:Alg) (bq:Ct A.ah dD) (jd:Ct A.ah lS): @Ru aL.z X E A [] (.seq .u (.seq .u (.seq (.seq .u (.cut ⟨[(3,.c (.rows false .poly)),(4,.c (.pb 0 5 0)),(6,.c (.pb 1 1 0)),(8,.c (.pb 2 5 0)),(9,.c (.pb 3 5 0))],[.box (.sv false .iop),.box (.sv false .poly),.box (.agg [.int .i64,.int .i64,.nil,.nil,.nil]),.box (.agg [.int .i64,.int .i64,.own 4,.nil,.nil]),.rows true .mono]⟩ (.cond .u .u))) (.seq (.seq .u (.cut ⟨[(3,.c (.rows false .poly)),(4,.c (.pb 0 5 0)),(8,.c (.pb 1 5 0)),(9,.c (.pb 2 5 0))],[.box (.sv false .iop),.box (.agg [.int .i64,.int .i64,.nil,.nil,.nil]),.box (.agg [.int .i64,.int .i64,.own 3,.own 4,.nil]),.rows true .mono,.rows true .mono]⟩ (.cond .u .u))) (.seq (.seq .u (.cut ⟨[(8,.c (.pb 0 5 0)),(9,.c (.pb 1 5 0))],[.box (.agg [.int .i64,.int .i64,.nil,.nil,.nil]),.box (.agg [.int .i64,.int .i64,.own 2,.own 3,.own 4]),.rows true .mono,.rows true .mono,.rows true .poly]⟩ (.cond .u .u))) .u))))) DT Tryz.f65 [(32,⟨_,bq⟩),(33,⟨_,jd⟩)] (Pz A bq.pre bq.fn jd.pre jd.fn):=fun _=>by kernel_rfl
theorem ad6 (A:Alg): @Ru aL.z X E A [] .u DU Tryz.f66 [] (PD A):=fun _=>by kernel_rfl
theorem ad7 (A:Alg): @Ru aL.z X E A [] .u DV Tryz.f67 [] (PE A):=fun _=>by kernel_rfl
theorem ad8 (A:Alg) (dz:Ct A.ah gq) (dX:Ct A.ah iy) (dY:Ct A.ah iw) (nU:Ct A.ah sP) (nW:Ct A.ah sN) (EP:Ct A.ah Dy) (bq:Ct A.ah dD) (ER:Ct A.ah Dz) (ET:Ct A.ah DL) (je:Ct A.ah lU) (EU:Ct A.ah DR) (EW:Ct A.ah DT) (EZ:Ct A.ah DC) (jd:Ct A.ah lS) (E5:Ct A.ah DU) (E8:Ct A.ah DV): @Ru ⟨[116],[]⟩ X E A [(25,[(0,([7],[])),(1,([110],[])),(2,([15],[])),(3,([16],[])),(4,([17],[])),(5,([9],[])),(6,([112,113,114,115],[1])),(7,([116],[1])),(8,([111,117],[])),(9,([7],[])),(10,([118,119],[]))]),(40,[(0,([6],[])),(1,([7],[])),(2,([3],[])),(3,([175],[])),(4,([3],[])),(5,([177],[])),(6,([176,178],[])),(7,([174,179],[0])),(8,([4,173],[])),(9,([5,180],[]))])] (.seq .u (.seq .u (.seq .u (.seq .u (.seq .u (.seq (.seq .u (.block (.loop ⟨[(3,.c (.pb 0 7 0)),(4,.c (.pb 1 1 0)),(5,.c (.pb 2 6 0)),(6,.c (.pb 3 1 0)),(7,.c (.pb 4 6 0)),(9,.c (.own 5)),(10,.c (.int .i64))],[.box (.sv false .blk),.box (.agg [.nil]),.box (.agg [.nil,.nil,.int .i64,.nil,.nil,.int .i64]),.box (.agg [.own 6]),.box (.agg [.nil,.nil,.int .i64,.nil,.nil,.int .i64]),.rows true .poly,.rows true .atom]⟩ .u))) (.seq .u (.seq (.seq .u (.block (.loop ⟨[(3,.c (.pb 0 7 0)),(4,.c (.pb 1 1 0)),(5,.c (.pb 2 6 0)),(6,.c (.pb 3 1 0)),(7,.c (.pb 4 6 0)),(9,.c (.own 5)),(13,.c (.own 6)),(14,.c (.int .i64))],[.box (.sv false .blk),.box (.agg [.nil]),.box (.agg [.nil,.nil,.int .i64,.nil,.nil,.int .i64]),.box (.agg [.own 7]),.box (.agg [.own 8,.nil,.int .i64,.nil,.nil,.int .i64]),.rows false .poly,.rows false .poly,.rows true .atom,.rows true .ev]⟩ (.seq .u (.seq (.block (.seq .u (.seq .u (.seq .u (.seq .u (.seq (.seq .u (.block (.seq .u (.cut ⟨[(3,.c (.pb 0 7 0)),(4,.c (.pb 1 1 0)),(5,.c (.pb 2 6 0)),(6,.c (.pb 3 1 0)),(7,.c (.pb 4 6 0)),(9,.c (.own 5)),(13,.c (.own 6)),(14,.c (.int .i64)),(18,.c (.pb 7 1 0))],[.box (.sv false .blk),.box (.agg [.nil]),.box (.agg [.nil,.nil,.int .i64,.nil,.nil,.int .i64]),.box (.agg [.own 8]),.box (.agg [.own 9,.nil,.int .i64,.nil,.nil,.int .i64]),.rows false .poly,.rows false .poly,.box (.sv false .poly),.rows true .atom,.rows true .ev]⟩ (.cond .u (.seq .u (.cut ⟨[(3,.c (.pb 0 7 0)),(4,.c (.pb 1 1 0)),(5,.c (.pb 2 6 0)),(6,.c (.pb 3 1 0)),(7,.c (.pb 4 6 0)),(9,.c (.own 5)),(13,.c (.own 6)),(14,.c (.int .i64)),(18,.c (.pb 7 1 0))],[.box (.sv false .blk),.box (.agg [.nil]),.box (.agg [.nil,.nil,.int .i64,.nil,.nil,.int .i64]),.box (.agg [.own 8]),.box (.agg [.own 9,.nil,.int .i64,.nil,.nil,.int .i64]),.rows false .poly,.rows false .poly,.box (.sv false .poly),.rows true .atom,.rows true .ev]⟩ (.cond .u (.seq .u (.cut ⟨[(3,.c (.pb 0 7 0)),(4,.c (.pb 1 1 0)),(5,.c (.pb 2 6 0)),(6,.c (.pb 3 1 0)),(7,.c (.pb 4 6 0)),(9,.c (.own 5)),(13,.c (.own 6)),(14,.c (.int .i64)),(18,.c (.pb 7 1 0))],[.box (.sv false .blk),.box (.agg [.nil]),.box (.agg [.nil,.nil,.int .i64,.nil,.nil,.int .i64]),.box (.agg [.own 8]),.box (.agg [.own 9,.nil,.int .i64,.nil,.nil,.int .i64]),.rows false .poly,.rows false .poly,.box (.agg [.own 10]),.rows true .atom,.rows true .ev,.rows true .mono]⟩ (.cond .u (.seq .u (.cut ⟨[(3,.c (.pb 0 7 0)),(4,.c (.pb 1 1 0)),(5,.c (.pb 2 6 0)),(6,.c (.pb 3 1 0)),(7,.c (.pb 4 6 0)),(9,.c (.own 5)),(13,.c (.own 6)),(14,.c (.int .i64)),(18,.c (.pb 7 1 0))],[.box (.sv false .blk),.box (.agg [.nil]),.box (.agg [.nil,.nil,.int .i64,.nil,.nil,.int .i64]),.box (.agg [.own 8]),.box (.agg [.own 9,.nil,.int .i64,.nil,.nil,.int .i64]),.rows false .poly,.rows false .poly,.box (.agg [.own 10]),.rows true .atom,.rows true .ev,.rows true .mono]⟩ (.cond .u (.seq (.seq .u (.cut ⟨[(3,.c (.pb 0 7 0)),(4,.c (.pb 1 1 0)),(5,.c (.pb 2 6 0)),(6,.c (.pb 3 1 0)),(7,.c (.pb 4 6 0)),(9,.c (.own 5)),(13,.c (.own 6)),(14,.c (.int .i64)),(15,.c (.pb 7 5 0)),(16,.c (.pb 8 1 0)),(17,.c (.pb 9 1 0)),(18,.c (.pb 10 1 0))],[.box (.sv false .blk),.box (.agg [.nil]),.box (.agg [.nil,.nil,.int .i64,.nil,.nil,.int .i64]),.box (.agg [.own 11]),.box (.agg [.own 12,.nil,.int .i64,.nil,.nil,.int .i64]),.rows false .poly,.rows false .poly,.box (.sv false .iop),.box (.sv false .poly),.box (.sv false .poly),.box (.agg [.own 13]),.rows true .atom,.rows true .ev,.rows true .mono]⟩ (.cond .u .u))) .u))))))))))))))) .u)))))) .u))))) .u)))))))) DW Tryz.f26 [(18,⟨_,dz⟩),(58,⟨_,dX⟩),(23,⟨_,dY⟩),(8,⟨_,nU⟩),(25,⟨_,nW⟩),(59,⟨_,EP⟩),(32,⟨_,bq⟩),(60,⟨_,ER⟩),(63,⟨_,ET⟩),(61,⟨_,je⟩),(64,⟨_,EU⟩),(65,⟨_,EW⟩),(62,⟨_,EZ⟩),(33,⟨_,jd⟩),(66,⟨_,E5⟩),(67,⟨_,E8⟩)] (PG A dz.pre dz.fn dX.pre dX.fn dY.pre dY.fn nU.pre nU.fn nW.pre nW.fn EP.pre EP.fn bq.pre bq.fn ER.pre ER.fn ET.pre ET.fn je.pre je.fn EU.pre EU.fn EW.pre EW.fn EZ.pre EZ.fn jd.pre jd.fn E5.pre E5.fn E8.pre E8.fn):=fun _=>by kernel_rfl
theorem ad9 (A:Alg) (aY:Ct A.ah cO): @Ru aL.z X E A [] (.seq .u (.seq .u (.seq .u (.seq (.seq .u (.block (.seq (.seq .u (.cut ⟨[(0,.c (.pb 0 2 0)),(2,.c (.pb 1 4 0)),(3,.c (.int .i64)),(4,.c (.int .i64)),(10,.c (.int .i64)),(11,.c (.bool))],[.box (.agg [.rows true .u8,.int .i64]),.box (.agg [.int .i64,.int .i64,.int .i64,.int .i64])]⟩ (.cond .u .u))) (.cond .u (.seq .u (.cond .u (.seq (.seq .u (.cut ⟨[(0,.c (.pb 0 2 0)),(2,.c (.pb 1 4 0)),(3,.c (.int .i64)),(4,.c (.int .i64)),(10,.c (.int .i64)),(30,.c (.bool))],[.box (.agg [.rows true .u8,.int .i64]),.box (.agg [.int .i64,.int .i64,.int .i64,.int .i64])]⟩ (.cond .u (.seq .u (.cut ⟨[(0,.c (.pb 0 2 0)),(2,.c (.pb 1 4 0)),(3,.c (.int .i64)),(4,.c (.int .i64)),(10,.c (.int .i64)),(30,.c (.bool))],[.box (.agg [.rows true .u8,.int .i64]),.box (.agg [.int .i64,.int .i64,.int .i64,.int .i64])]⟩ (.cond .u .u)))))) (.cond .u (.seq .u (.cond .u (.seq (.seq .u (.cut ⟨[(0,.c (.pb 0 2 0)),(2,.c (.pb 1 4 0)),(3,.c (.int .i64)),(4,.c (.int .i64)),(10,.c (.int .i64)),(54,.c (.bool))],[.box (.agg [.rows true .u8,.int .i64]),.box (.agg [.int .i64,.int .i64,.int .i64,.int .i64])]⟩ (.cond .u .u))) .u))))))))))) .u)))) DX Tryz.f143 [(22,⟨_,aY⟩)] (PO A aY.pre aY.fn):=fun _=>by kernel_rfl
end Go.TX.Seat
namespace Go.TX.Seat
open Go Go.AE Go.TX Go.TX.F Go.Proofs
set_option maxRecDepth 100000
theorem aea (A:Alg): @Ru aL.z X E A [] (.seq .u (.seq (.seq .u (.block (.seq .u (.cond .u (.seq .u (.cond .u (.seq .u (.cond .u (.seq (.seq .u (.cut ⟨[(1,.c (.pb 0 4 0)),(4,.c (.int .i64)),(30,.c (.bool))],[.box (.sv false .ins)]⟩ (.cond .u (.seq .u (.cut ⟨[(1,.c (.pb 0 4 0)),(4,.c (.int .i64)),(30,.c (.bool))],[.box (.sv false .ins)]⟩ (.cond .u (.seq .u (.cut ⟨[(1,.c (.pb 0 4 0)),(4,.c (.int .i64)),(30,.c (.bool))],[.box (.sv false .ins)]⟩ (.cond .u (.seq .u (.cut ⟨[(1,.c (.pb 0 4 0)),(4,.c (.int .i64)),(30,.c (.bool))],[.box (.sv false .ins)]⟩ (.cond .u .u)))))))))))) (.cond .u (.seq .u (.cond .u (.seq .u (.cond .u (.seq (.seq .u (.cut ⟨[(1,.c (.pb 0 4 0)),(54,.c (.bool))],[.box (.sv false .ins)]⟩ (.cond .u .u))) .u))))))))))))))) .u)) DY Tryz.f170 [] (PS A):=fun _=>by kernel_rfl
theorem aeb (A:Alg) (aU:Ct A.ah bS) (E9:Ct A.ah DY): @Ru aL.z X E A [] .u sZ Tryz.f145 [(48,⟨_,aU⟩),(170,⟨_,E9⟩)] (PU A aU.pre aU.fn E9.pre E9.fn):=fun _=>by kernel_rfl
theorem aec (A:Alg): @Ru aL.z X E A [] .u tq Tryz.f146 [] (PW A):=fun _=>by kernel_rfl
theorem aed (A:Alg) (nX:Ct A.ah tq) (nY:Ct A.ah sZ): @Ru aL.z X E A [] .u tu Tryz.f144 [(146,⟨_,nX⟩),(145,⟨_,nY⟩)] (PX A nX.pre nX.fn nY.pre nY.fn):=fun _=>by kernel_rfl
theorem aee (A:Alg) (Fa:Ct A.ah DX) (aY:Ct A.ah cO) (nZ:Ct A.ah tu): @Ru aL.z X E A [(3,[(0,([3],[])),(1,([9],[])),(2,([3],[])),(3,([11],[])),(4,([0],[])),(5,([13],[1,3])),(6,([10,12,14],[])),(7,([2,15],[]))])] .u DZ Tryz.f114 [(143,⟨_,Fa⟩),(22,⟨_,aY⟩),(144,⟨_,nZ⟩)] (P7 A Fa.pre Fa.fn aY.pre aY.fn nZ.pre nZ.fn):=fun _=>by kernel_rfl
theorem aef (A:Alg) (Fb:Ct A.ah DZ) (aY:Ct A.ah cO): @Ru aL.z X E A [] (.seq .u (.seq .u (.seq (.seq .u (.block (.loop ⟨[(0,.c (.pb 0 2 0)),(3,.c (.own 1)),(4,.c (.int .i64))],[.box (.agg [.rows true .u8,.int .i64]),.rows true .ins]⟩ .u))) .u))) D5 Tryz.f68 [(114,⟨_,Fb⟩),(22,⟨_,aY⟩)] (Qa A Fb.pre Fb.fn aY.pre aY.fn):=fun _=>by kernel_rfl
theorem aeg (A:Alg) (nX:Ct A.ah tq) (nY:Ct A.ah sZ) (aU:Ct A.ah bS) (nZ:Ct A.ah tu): @Ru aL.z X E A [] (.seq .u (.seq .u (.seq (.seq .u (.block (.loop ⟨[(1,.c (.rows false .ins)),(5,.c (.int .i64))],[]⟩ .u))) .u))) D6 Tryz.f115 [(146,⟨_,nX⟩),(145,⟨_,nY⟩),(48,⟨_,aU⟩),(144,⟨_,nZ⟩)] (Qb A nX.pre nX.fn nY.pre nY.fn aU.pre aU.fn nZ.pre nZ.fn):=fun _=>by kernel_rfl
theorem aeh (A:Alg): @Ru aL.z X E A [(2,[(0,([2],[])),(1,([2],[])),(2,([13],[])),(3,([14],[])),(4,([15],[])),(5,([4,12],[2])),(6,([16],[]))])] .u iA Tryz.f147 [] (Qc A):=fun _=>by kernel_rfl
theorem aei (A:Alg) (dZ:Ct A.ah iA): @Ru aL.z X E A [] .u tC Tryz.f148 [(147,⟨_,dZ⟩)] (Qd A dZ.pre dZ.fn):=fun _=>by kernel_rfl
theorem aej (A:Alg) (dZ:Ct A.ah iA): @Ru aL.z X E A [] .u jG Tryz.f149 [(147,⟨_,dZ⟩)] (Qe A dZ.pre dZ.fn):=fun _=>by kernel_rfl
theorem aek (A:Alg) (gF:Ct A.ah jG) (dZ:Ct A.ah iA): @Ru aL.z X E A [] .u tF Tryz.f150 [(149,⟨_,gF⟩),(147,⟨_,dZ⟩)] (Qf A gF.pre gF.fn dZ.pre dZ.fn):=fun _=>by kernel_rfl
theorem ael (A:Alg): @Ru aL.z X E A [] (.seq .u (.seq .u (.seq (.seq .u (.block (.loop ⟨[(0,.c (.int .i64)),(3,.c (.int .i64)),(4,.c (.int .i64))],[]⟩ .u))) .u))) D7 Tryz.f151 [] (Qg A):=fun _=>by kernel_rfl
theorem aem (A:Alg) (gF:Ct A.ah jG) (dZ:Ct A.ah iA) (og:Ct A.ah tF) (oh:Ct A.ah tC): @Ru aL.z X E A [] .u D8 Tryz.f152 [(149,⟨_,gF⟩),(147,⟨_,dZ⟩),(150,⟨_,og⟩),(148,⟨_,oh⟩)] (Qh A gF.pre gF.fn dZ.pre dZ.fn og.pre og.fn oh.pre oh.fn):=fun _=>by kernel_rfl
theorem aen (A:Alg) (gF:Ct A.ah jG): @Ru aL.z X E A [] (.seq .u (.seq .u (.seq .u (.seq .u (.seq .u (.seq (.seq .u (.cut ⟨[(3,.c (.pb 1 4 0)),(4,.c (.pb 2 7 0)),(8,.c (.int .i64)),(9,.c (.pb 3 7 0)),(10,.c (.int .i64))],[.gone,.box (.sv false .ins),.box (.agg [.int .i64,.int .i64,.nil,.int .i64,.int .i64,.int .i64,.int .i64]),.box (.agg [.int .i64,.int .i64,.own 4,.int .i64,.int .i64,.int .i64,.int .i64]),.rows true .iop]⟩ (.cond .u .u))) .u)))))) D9 Tryz.f153 [(149,⟨_,gF⟩)] (Qi A gF.pre gF.fn):=fun _=>by kernel_rfl
theorem aeo (A:Alg) (gF:Ct A.ah jG) (Fe:Ct A.ah D9) (dZ:Ct A.ah iA) (Fg:Ct A.ah D8) (og:Ct A.ah tF) (oh:Ct A.ah tC) (Fh:Ct A.ah D7): @Ru aL.z X E A [(9,[(0,([3],[])),(1,([4],[])),(2,([56],[])),(3,([4],[])),(4,([58],[])),(5,([59],[0,2])),(6,([60],[])),(7,([55,57,61],[])),(8,([62],[])),(9,([54],[])),(10,([54],[])),(11,([],[])),(12,([11,63],[])),(13,([64],[]))])] (.seq .u (.seq (.seq .u (.block (.seq .u (.cond .u (.seq .u (.cond .u (.seq .u (.cond .u (.seq (.seq .u (.cut ⟨[(2,.c (.int .i64)),(3,.c (.pb 1 7 0)),(4,.c (.pb 2 4 0)),(6,.c (.pb 3 7 0)),(22,.c (.int .i64)),(70,.c (.bool))],[.rows true .iop,.box (.agg [.int .i64,.int .i64,.own 0,.int .i64,.int .i64,.int .i64,.int .i64]),.box (.sv false .ins),.box (.agg [.int .i64,.int .i64,.nil,.int .i64,.int .i64,.int .i64,.int .i64])]⟩ (.cond .u .u))) (.cond .u (.seq .u (.cond .u (.seq .u (.cond .u (.seq (.seq .u (.cut ⟨[(3,.c (.pb 1 7 0)),(4,.c (.pb 2 4 0)),(6,.c (.pb 3 7 0)),(109,.c (.bool))],[.rows true .iop,.box (.agg [.int .i64,.int .i64,.own 0,.int .i64,.int .i64,.int .i64,.int .i64]),.box (.sv false .ins),.box (.agg [.int .i64,.int .i64,.nil,.int .i64,.int .i64,.int .i64,.int .i64])]⟩ (.cond .u (.seq .u (.cut ⟨[(3,.c (.pb 1 7 0)),(4,.c (.pb 2 4 0)),(6,.c (.pb 3 7 0)),(109,.c (.bool))],[.rows true .iop,.box (.agg [.int .i64,.int .i64,.own 0,.int .i64,.int .i64,.int .i64,.int .i64]),.box (.sv false .ins),.box (.agg [.int .i64,.int .i64,.nil,.int .i64,.int .i64,.int .i64,.int .i64])]⟩ (.cond .u .u)))))) .u))))))))))))))) .u)) Ea Tryz.f116 [(149,⟨_,gF⟩),(153,⟨_,Fe⟩),(147,⟨_,dZ⟩),(152,⟨_,Fg⟩),(150,⟨_,og⟩),(148,⟨_,oh⟩),(151,⟨_,Fh⟩)] (Qj A gF.pre gF.fn Fe.pre Fe.fn dZ.pre dZ.fn Fg.pre Fg.fn og.pre og.fn oh.pre oh.fn Fh.pre Fh.fn):=fun _=>by kernel_rfl
theorem aep (A:Alg) (Fj:Ct A.ah D6) (Fp:Ct A.ah Ea): @Ru aL.z X E A [(7,[(0,([5],[])),(1,([1],[])),(2,([6],[])),(3,([27,28],[])),(4,([29],[])),(5,([6],[])),(6,([26,30,31],[])),(7,([5,32],[]))])] (.seq .u (.seq .u (.seq .u (.seq (.seq .u (.block (.loop ⟨[(1,.c (.rows false .ins)),(4,.c (.pb 0 7 0)),(5,.c (.pb 1 7 0)),(6,.c (.int .i64))],[.box (.agg [.int .i64,.int .i64,.nil,.int .i64,.int .i64,.int .i64,.int .i64]),.box (.agg [.int .i64,.int .i64,.own 2,.int .i64,.int .i64,.int .i64,.int .i64]),.rows true .iop]⟩ .u))) .u)))) Eb Tryz.f69 [(115,⟨_,Fj⟩),(116,⟨_,Fp⟩)] (Qk A Fj.pre Fj.fn Fp.pre Fp.fn):=fun _=>by kernel_rfl
theorem aer (A:Alg): @Ru aL.z X E A [] .u tH Tryz.f120 [] (Ql A):=fun _=>by kernel_rfl
theorem aes (A:Alg) (aU:Ct A.ah bS): @Ru aL.z X E A [] (.seq .u (.seq .u (.seq (.seq .u (.cut ⟨[(1,.c (.rows false .i64)),(2,.c (.pb 0 5 0)),(4,.c (.pb 1 5 0)),(5,.c (.pb 2 5 0))],[.box (.sv false .iop),.box (.agg [.int .i64,.int .i64,.int .i64,.int .i64,.int .i64]),.box (.sv true .iop)]⟩ (.cond .u .u))) (.seq (.seq .u (.cut ⟨[(4,.c (.pb 0 5 0)),(5,.c (.pb 1 5 0))],[.box (.agg [.int .i64,.int .i64,.int .i64,.int .i64,.int .i64]),.box (.sv true .iop)]⟩ (.cond .u .u))) .u)))) tJ Tryz.f121 [(48,⟨_,aU⟩)] (Qm A aU.pre aU.fn):=fun _=>by kernel_rfl
theorem aeu (A:Alg) (dz:Ct A.ah gq) (om:Ct A.ah tJ) (oq:Ct A.ah tH): @Ru aL.z X E A [] (.seq .u (.seq .u (.seq .u (.seq .u (.seq .u (.seq (.seq .u (.block (.loop ⟨[(2,.c (.pb 0 7 0)),(3,.c (.pb 1 7 0)),(4,.c (.own 2)),(5,.c (.own 3)),(6,.c (.int .i64))],[.box (.agg [.int .i64,.int .i64,.nil,.int .i64,.int .i64,.int .i64,.int .i64]),.box (.agg [.int .i64,.int .i64,.own 4,.int .i64,.int .i64,.int .i64,.int .i64]),.rows true .i64,.rows true .i64,.rows true .iop]⟩ (.seq .u (.seq (.block (.seq .u (.seq .u (.seq .u (.seq (.seq .u (.cut ⟨[(2,.c (.pb 0 7 0)),(3,.c (.pb 1 7 0)),(4,.c (.own 2)),(5,.c (.own 3)),(6,.c (.int .i64)),(7,.c (.pb 4 5 0)),(8,.c (.int .i64))],[.box (.agg [.int .i64,.int .i64,.nil,.int .i64,.int .i64,.int .i64,.int .i64]),.box (.agg [.int .i64,.int .i64,.own 5,.int .i64,.int .i64,.int .i64,.int .i64]),.rows true .i64,.rows true .i64,.box (.sv true .iop),.rows true .iop]⟩ (.cond .u .u))) (.seq (.seq .u (.cut ⟨[(2,.c (.pb 0 7 0)),(3,.c (.pb 1 7 0)),(4,.c (.own 2)),(5,.c (.own 3)),(6,.c (.int .i64)),(7,.c (.pb 4 5 0)),(8,.c (.int .i64))],[.box (.agg [.int .i64,.int .i64,.nil,.int .i64,.int .i64,.int .i64,.int .i64]),.box (.agg [.int .i64,.int .i64,.own 5,.int .i64,.int .i64,.int .i64,.int .i64]),.rows true .i64,.rows true .i64,.box (.sv true .iop),.rows true .iop]⟩ (.cond .u .u))) (.seq (.seq .u (.cut ⟨[(2,.c (.pb 0 7 0)),(3,.c (.pb 1 7 0)),(4,.c (.own 2)),(5,.c (.own 3)),(6,.c (.int .i64)),(8,.c (.int .i64))],[.box (.agg [.int .i64,.int .i64,.nil,.int .i64,.int .i64,.int .i64,.int .i64]),.box (.agg [.int .i64,.int .i64,.own 4,.int .i64,.int .i64,.int .i64,.int .i64]),.rows true .i64,.rows true .i64,.rows true .iop]⟩ (.cond .u .u))) .u))))))) .u))))) (.seq (.seq .u (.cut ⟨[(2,.c (.pb 0 7 0)),(3,.c (.pb 1 7 0)),(4,.c (.own 2))],[.box (.agg [.int .i64,.int .i64,.nil,.int .i64,.int .i64,.int .i64,.int .i64]),.box (.agg [.int .i64,.int .i64,.own 3,.int .i64,.int .i64,.int .i64,.int .i64]),.rows true .i64,.rows true .iop]⟩ (.cond .u .u))) (.seq (.seq .u (.cut ⟨[(2,.c (.pb 0 7 0)),(3,.c (.pb 1 7 0))],[.box (.agg [.int .i64,.int .i64,.nil,.int .i64,.int .i64,.int .i64,.int .i64]),.box (.agg [.int .i64,.int .i64,.own 2,.int .i64,.int .i64,.int .i64,.int .i64]),.rows true .iop]⟩ (.cond .u .u))) .u)))))))) tK Tryz.f71 [(18,⟨_,dz⟩),(121,⟨_,om⟩),(120,⟨_,oq⟩)] (Qn A dz.pre dz.fn om.pre om.fn oq.pre oq.fn):=fun _=>by kernel_rfl
theorem aev (A:Alg) (om:Ct A.ah tJ): @Ru aL.z X E A [] (.seq .u (.seq .u (.seq .u (.seq (.seq .u (.block (.loop ⟨[(1,.c (.rows false .bool)),(2,.c (.pb 0 7 0)),(4,.c (.pb 1 7 0)),(5,.c (.own 2)),(6,.c (.own 3)),(7,.c (.int .i64))],[.box (.sv false .blk),.box (.agg [.int .i64,.int .i64,.nil,.int .i64,.int .i64,.int .i64,.int .i64]),.rows true .iop,.rows true .i64]⟩ (.seq .u (.seq (.block (.seq .u (.seq .u (.cut ⟨[(1,.c (.rows false .bool)),(2,.c (.pb 0 7 0)),(4,.c (.pb 1 7 0)),(5,.c (.own 2)),(6,.c (.own 3)),(7,.c (.int .i64))],[.box (.sv false .blk),.box (.agg [.int .i64,.int .i64,.nil,.int .i64,.int .i64,.int .i64,.int .i64]),.rows true .iop,.rows true .i64]⟩ (.cond .u .u))))) .u))))) (.seq .u (.seq .u (.seq (.seq .u (.cut ⟨[(2,.c (.pb 0 7 0)),(4,.c (.pb 1 7 0)),(6,.c (.own 2)),(8,.c (.pb 3 7 0))],[.box (.sv false .blk),.box (.agg [.int .i64,.int .i64,.nil,.int .i64,.int .i64,.int .i64,.int .i64]),.rows true .i64,.box (.agg [.int .i64,.int .i64,.own 4,.int .i64,.int .i64,.int .i64,.int .i64]),.rows true .iop]⟩ (.cond .u .u))) (.seq (.seq .u (.cut ⟨[(4,.c (.pb 0 7 0)),(8,.c (.pb 1 7 0))],[.box (.agg [.int .i64,.int .i64,.nil,.int .i64,.int .i64,.int .i64,.int .i64]),.box (.agg [.int .i64,.int .i64,.own 2,.int .i64,.int .i64,.int .i64,.int .i64]),.rows true .iop]⟩ (.cond .u .u))) .u)))))))) tL Tryz.f154 [(121,⟨_,om⟩)] (Qs A om.pre om.fn):=fun _=>by kernel_rfl
theorem aew (A:Alg) (dz:Ct A.ah gq) (aU:Ct A.ah bS): @Ru aL.z X E A [] (.seq .u (.seq .u (.seq .u (.seq (.seq .u (.block (.loop ⟨[(1,.c (.pb 0 7 0)),(3,.c (.own 1)),(4,.c (.int .i64))],[.box (.sv false .blk),.rows true .bool]⟩ .u))) (.seq (.seq .u (.cut ⟨[(1,.c (.pb 0 7 0)),(3,.c (.own 1))],[.box (.sv false .blk),.rows true .bool]⟩ (.cond .u .u))) (.seq (.seq .u (.cut ⟨[(1,.c (.pb 0 7 0)),(3,.c (.own 1))],[.box (.sv false .blk),.rows true .bool]⟩ (.cond .u .u))) (.seq (.seq .u (.block (.loop ⟨[(1,.c (.pb 0 7 0)),(3,.c (.own 1)),(5,.c (.int .i64))],[.box (.sv false .blk),.rows true .bool]⟩ (.seq .u (.seq (.cut ⟨[(1,.c (.pb 0 7 0)),(3,.c (.own 1)),(5,.c (.int .i64))],[.box (.sv false .blk),.rows true .bool]⟩ (.block (.seq .u (.seq .u (.seq (.seq .u (.cut ⟨[(1,.c (.pb 0 7 0)),(3,.c (.own 1)),(5,.c (.int .i64)),(6,.c (.pb 2 5 0))],[.box (.sv false .blk),.rows true .bool,.box (.sv false .iop)]⟩ (.cond .u .u))) (.seq .u (.cut ⟨[(1,.c (.pb 0 7 0)),(3,.c (.own 1)),(5,.c (.int .i64))],[.box (.sv false .blk),.rows true .bool]⟩ (.cond .u .u)))))))) .u))))) .u))))))) Ec Tryz.f155 [(18,⟨_,dz⟩),(48,⟨_,aU⟩)] (Qt A dz.pre dz.fn aU.pre aU.fn):=fun _=>by kernel_rfl
theorem aex (A:Alg) (dz:Ct A.ah gq) (Fq:Ct A.ah Ec) (ou:Ct A.ah tL): @Ru aL.z X E A [(3,[(0,([1],[])),(1,([1],[])),(2,([8],[0])),(3,([7,9],[])),(4,([2,10],[]))])] .u Ed Tryz.f117 [(18,⟨_,dz⟩),(155,⟨_,Fq⟩),(154,⟨_,ou⟩)] (Qu A dz.pre dz.fn Fq.pre Fq.fn ou.pre ou.fn):=fun _=>by kernel_rfl
theorem aey (A:Alg): @Ru aL.z X E A [(4,[(0,([0],[])),(1,([5],[])),(2,([14,15],[])),(3,([16],[])),(4,([17],[])),(5,([18],[])),(6,([19],[])),(7,([0,20],[])),(8,([5,20],[])),(9,([20,21,22],[])),(10,([20,23],[])),(11,([20,24],[])),(12,([20,25],[])),(13,([20,26],[])),(14,([27],[])),(15,([0,28],[])),(16,([5,28],[])),(17,([28,29,30],[])),(18,([28,31],[])),(19,([28,32],[])),(20,([28,33],[])),(21,([28,34],[])),(22,([0,35],[])),(23,([5,35],[])),(24,([35,36,37],[])),(25,([35,38],[])),(26,([35,39],[])),(27,([0,35],[])),(28,([1,35],[])),(29,([35,41,42],[])),(30,([35,43],[])),(31,([35,44],[])),(32,([35,40,45],[])),(33,([28,35,46],[])),(34,([28,47],[]))]),(6,[(0,([0],[])),(1,([5],[])),(2,([49,50],[])),(3,([51],[])),(4,([52],[])),(5,([53],[])),(6,([54],[])),(7,([0,55],[])),(8,([5,55],[])),(9,([55,56,57],[])),(10,([55,58],[])),(11,([55,59],[])),(12,([0,55],[])),(13,([1,55],[])),(14,([55,61,62],[])),(15,([55,63],[])),(16,([55,64],[])),(17,([55,60,65],[])),(18,([55,66],[]))])] (.seq .u (.seq (.seq .u (.block (.loop ⟨[(0,.c (.rows false .iop)),(1,.c (.int .i64)),(5,.c (.int .i64))],[]⟩ .u))) .u)) Ee Tryz.f156 [] (Qx A):=fun _=>by kernel_rfl
theorem aez (A:Alg) (dz:Ct A.ah gq) (ou:Ct A.ah tL) (Fu:Ct A.ah Ee): @Ru aL.z X E A [] (.seq .u (.seq .u (.seq .u (.seq (.seq .u (.block (.loop ⟨[(1,.c (.pb 0 7 0)),(2,.c (.pb 1 7 0)),(3,.c (.own 2)),(4,.c (.int .i64))],[.box (.sv false .blk),.box (.agg [.int .i64,.int .i64,.nil,.int .i64,.int .i64,.int .i64,.int .i64]),.rows true .bool]⟩ .u))) .u)))) Ef Tryz.f118 [(18,⟨_,dz⟩),(154,⟨_,ou⟩),(156,⟨_,Fu⟩)] (Qy A dz.pre dz.fn ou.pre ou.fn Fu.pre Fu.fn):=fun _=>by kernel_rfl
theorem aeA (A:Alg): @Ru aL.z X E A [] .u tN Tryz.f157 [] (Qz A):=fun _=>by kernel_rfl
theorem aeB (A:Alg): @Ru aL.z X E A [] .u Eh Tryz.f171 [] (QA A):=fun _=>by kernel_rfl
theorem aeC (A:Alg) (Fv:Ct A.ah Eh) (ow:Ct A.ah tN): @Ru aL.z X E A [] (.seq .u (.seq .u (.seq .u (.seq (.block (.seq .u (.cond .u (.seq (.seq .u (.cut ⟨[(1,.c (.pb 0 7 0)),(2,.c (.pb 1 7 0)),(4,.c (.bool)),(6,.c (.bool)),(33,.c (.bool))],[.box (.sv false .blk),.box (.agg [.int .i64,.int .i64,.nil,.int .i64,.int .i64,.int .i64,.int .i64])]⟩ (.cond .u .u))) .u)))) .u)))) Ei Tryz.f158 [(171,⟨_,Fv⟩),(157,⟨_,ow⟩)] (QB A Fv.pre Fv.fn ow.pre ow.fn):=fun _=>by kernel_rfl
theorem aeD (A:Alg) (dz:Ct A.ah gq) (nS:Ct A.ah sW) (Fw:Ct A.ah Ei) (ow:Ct A.ah tN) (oq:Ct A.ah tH): @Ru aL.z X E A [(11,[(0,([3],[])),(1,([53],[])),(2,([4],[])),(3,([5],[])),(4,([56],[])),(5,([6],[])),(6,([8],[])),(7,([57,58,59],[1])),(8,([60],[])),(9,([54,55],[])),(10,([61,62],[]))])] (.seq .u (.seq .u (.seq .u (.seq (.seq .u (.block (.loop ⟨[(2,.c (.pb 0 7 0)),(3,.c (.pb 1 7 0)),(4,.c (.int .i64))],[.box (.agg [.int .i64,.int .i64,.nil,.int .i64,.int .i64,.int .i64,.int .i64]),.box (.agg [.int .i64,.int .i64,.own 2,.int .i64,.int .i64,.int .i64,.int .i64]),.rows true .iop]⟩ (.seq .u (.seq (.block (.seq .u (.seq .u (.seq .u (.seq .u (.cut ⟨[(2,.c (.pb 0 7 0)),(3,.c (.pb 1 7 0)),(4,.c (.int .i64))],[.box (.agg [.int .i64,.int .i64,.nil,.int .i64,.int .i64,.int .i64,.int .i64]),.box (.agg [.int .i64,.int .i64,.own 2,.int .i64,.int .i64,.int .i64,.int .i64]),.rows true .iop]⟩ (.cond .u .u))))))) .u))))) .u)))) Ej Tryz.f119 [(18,⟨_,dz⟩),(141,⟨_,nS⟩),(158,⟨_,Fw⟩),(157,⟨_,ow⟩),(120,⟨_,oq⟩)] (QE A dz.pre dz.fn nS.pre nS.fn Fw.pre Fw.fn ow.pre ow.fn oq.pre oq.fn):=fun _=>by kernel_rfl
theorem aeE (A:Alg) (Fx:Ct A.ah Ej) (oC:Ct A.ah tK) (Fy:Ct A.ah Ed) (Fz:Ct A.ah Ef): @Ru aL.z X E A [] .u El Tryz.f70 [(119,⟨_,Fx⟩),(71,⟨_,oC⟩),(117,⟨_,Fy⟩),(118,⟨_,Fz⟩)] (QF A Fx.pre Fx.fn oC.pre oC.fn Fy.pre Fy.fn Fz.pre Fz.fn):=fun _=>by kernel_rfl
theorem aeF (A:Alg) (FB:Ct A.ah Eb) (FC:Ct A.ah El) (oC:Ct A.ah tK) (aY:Ct A.ah cO) (FD:Ct A.ah D5): @Ru aL.z X E A [] .u Em Tryz.f27 [(69,⟨_,FB⟩),(70,⟨_,FC⟩),(71,⟨_,oC⟩),(22,⟨_,aY⟩),(68,⟨_,FD⟩)] (QI A FB.pre FB.fn FC.pre FC.fn oC.pre oC.fn aY.pre aY.fn FD.pre FD.fn):=fun _=>by kernel_rfl
theorem aeG (A:Alg) (dY:Ct A.ah iw) (nW:Ct A.ah sN) (FH:Ct A.ah DW) (FJ:Ct A.ah Dj) (aY:Ct A.ah cO) (iZ:Ct A.ah lM) (FK:Ct A.ah Em) (FL:Ct A.ah Dq): @Ru aL.z X E A [(8,[(0,([7],[])),(1,([4],[])),(2,([36],[0])),(3,([35,37],[])),(4,([38],[])),(5,([34],[])),(6,([34],[])),(7,([],[])),(8,([],[])),(9,([9,39],[])),(10,([10,40],[]))]),(14,[(0,([10],[])),(1,([4],[])),(2,([55],[0])),(3,([2,54],[])),(4,([56],[]))])] (.seq .u (.seq .u (.seq .u (.seq (.seq .u (.cut ⟨[(2,.c (.pb 0 6 0)),(4,.c (.pb 1 2 0)),(5,.c (.pb 2 1 0)),(6,.c (.pb 3 1 0))],[.box (.agg [.nil,.nil,.int .i64,.nil,.nil,.int .i64]),.box (.agg [.rows true .u8,.int .i64]),.box (.sv true .poly),.box (.sv true .poly)]⟩ (.cond .u .u))) (.seq (.seq .u (.cut ⟨[(2,.c (.pb 0 6 0)),(4,.c (.pb 1 2 0)),(5,.c (.pb 2 1 0)),(6,.c (.pb 3 1 0))],[.box (.agg [.nil,.nil,.int .i64,.nil,.nil,.int .i64]),.box (.agg [.rows true .u8,.int .i64]),.box (.sv true .poly),.box (.sv true .poly)]⟩ (.cond .u .u))) .u))))) En Tryz.f5 [(23,⟨_,dY⟩),(25,⟨_,nW⟩),(26,⟨_,FH⟩),(20,⟨_,FJ⟩),(22,⟨_,aY⟩),(24,⟨_,iZ⟩),(27,⟨_,FK⟩),(21,⟨_,FL⟩)] (QJ A dY.pre dY.fn nW.pre nW.fn FH.pre FH.fn FJ.pre FJ.fn aY.pre aY.fn iZ.pre iZ.fn FK.pre FK.fn FL.pre FL.fn):=fun _=>by kernel_rfl
theorem amh (A:Alg): @Ru aL.z X E A [] .u Lv Tryz.f80 [] (ac4 A):=fun _=>by kernel_rfl
theorem ami (A:Alg) (Gt:Ct A.ah Lv): @Ru aL.z X E A [] .u Eo Tryz.f41 [(80,⟨_,Gt⟩)] (ac5 A Gt.pre Gt.fn):=fun _=>by kernel_rfl
theorem amj (A:Alg): @Ru aL.z X E A [] (.seq .u (.seq .u (.seq (.seq .u (.block (.loop ⟨[(3,.c (.int .i64)),(6,.c (.rows false .i64)),(7,.c (.int .i64)),(8,.c (.int .i64))],[]⟩ .u))) .u))) Lx Tryz.f42 [] (ac6 A):=fun _=>by kernel_rfl
theorem ajl (A:Alg) (xD:Ct A.ah Eo): @Ru aL.z X E A [] (.seq .u (.seq (.seq .u (.block (.loop ⟨[(0,.c (.rows false .i64)),(1,.c (.rows false .i64)),(9,.c (.rows false .i64)),(10,.c (.int .i64)),(11,.c (.int .i64))],[]⟩ .u))) .u)) LA Tryz.f81 [(41,⟨_,xD⟩)] (Wq A xD.pre xD.fn):=fun _=>by kernel_rfl
theorem ajm (A:Alg) (Gu:Ct A.ah Lx) (xD:Ct A.ah Eo) (Mf:Ct A.ah LA): @Ru aL.z X E A [] .u Ay Tryz.f43 [(42,⟨_,Gu⟩),(41,⟨_,xD⟩),(81,⟨_,Mf⟩)] (Ws A Gu.pre Gu.fn xD.pre xD.fn Mf.pre Mf.fn):=fun _=>by kernel_rfl
theorem ajn (A:Alg): @Ru aL.z X E A [] .u Az Tryz.f72 [] (Wt A):=fun _=>by kernel_rfl
theorem amk (A:Alg) (Gt:Ct A.ah Lv): @Ru aL.z X E A [] .u VZ Tryz.f122 [(80,⟨_,Gt⟩)] (ac9 A Gt.pre Gt.fn):=fun _=>by kernel_rfl
theorem ajo (A:Alg) (Xc:Ct A.ah VZ): @Ru aL.z X E A [(4,[(0,([0],[])),(1,([3],[])),(2,([11,12],[])),(3,([13],[])),(4,([0],[])),(5,([3],[])),(6,([16],[])),(7,([15,17],[])),(8,([18],[])),(9,([14,19],[]))])] (.seq .u (.seq (.seq .u (.block (.loop ⟨[(0,.c (.rows false .i64)),(3,.c (.int .i64))],[]⟩ .u))) .u)) LB Tryz.f73 [(122,⟨_,Xc⟩)] (Wu A Xc.pre Xc.fn):=fun _=>by kernel_rfl
theorem ajp (A:Alg): @Ru aL.z X E A [] .u LC Tryz.f124 [] (Wv A):=fun _=>by kernel_rfl
theorem ajq (A:Alg) (Mg:Ct A.ah LC): @Ru aL.z X E A [] (.seq .u (.seq (.seq .u (.block (.loop ⟨[(0,.c (.rows false .i64)),(1,.c (.fn 124 [(0,1)])),(7,.c (.int .i64)),(8,.c (.int .i64))],[.box (.c (.int .i64))]⟩ .u))) .u)) LD Tryz.f159 [(124,⟨_,Mg⟩)] (Ww A Mg.pre Mg.fn):=fun _=>by kernel_rfl
theorem ajr (A:Alg) (Mh:Ct A.ah LD): @Ru aL.z X E A [] .u LG Tryz.f123 [(159,⟨_,Mh⟩)] (Wx A Mh.pre Mh.fn):=fun _=>by kernel_rfl
theorem ajs (A:Alg) (Mi:Ct A.ah LG): @Ru aL.z X E A [] (.seq .u (.seq (.seq .u (.block (.loop ⟨[(3,.c (.pb 0 1 0)),(8,.c (.rows false .mono)),(9,.c (.int .i64)),(10,.c (.int .i64))],[.box (.c (.int .i64))]⟩ .u))) .u)) LH Tryz.f74 [(123,⟨_,Mi⟩)] (Wy A Mi.pre Mi.fn):=fun _=>by kernel_rfl
theorem ajt (A:Alg): @Ru aL.z X E A [] .u LJ Tryz.f76 [] (Wz A):=fun _=>by kernel_rfl
theorem aju (A:Alg) (Mj:Ct A.ah LJ): @Ru aL.z X E A [] (.seq .u (.seq (.seq .u (.block (.loop ⟨[(0,.c (.rows false .mono)),(1,.c (.fn 76 [])),(7,.c (.int .i64)),(8,.c (.int .i64))],[]⟩ .u))) .u)) LK Tryz.f125 [(76,⟨_,Mj⟩)] (WA A Mj.pre Mj.fn):=fun _=>by kernel_rfl
theorem ajv (A:Alg) (Mk:Ct A.ah LK): @Ru aL.z X E A [] .u LM Tryz.f75 [(125,⟨_,Mk⟩)] (WB A Mk.pre Mk.fn):=fun _=>by kernel_rfl
theorem ajw (A:Alg) (vO:Ct A.ah Az) (Ml:Ct A.ah LH) (Mq:Ct A.ah LB) (vP:Ct A.ah Ay) (Mr:Ct A.ah LM): @Ru aL.z X E A [(4,[(0,([4],[])),(1,([13],[])),(2,([14],[])),(3,([15],[])),(4,([16],[])),(5,([4,17],[])),(6,([17,18],[])),(7,([17,19],[])),(8,([17,20],[])),(9,([17,21],[])),(10,([22],[])),(11,([4,23],[])),(12,([23,24],[])),(13,([23,25],[])),(14,([23,26],[])),(15,([23,27],[])),(16,([28],[])),(17,([3,29],[])),(18,([29,30],[])),(19,([29,31],[])),(20,([1,32],[])),(21,([32,33],[])),(22,([3,32],[])),(23,([32,35],[])),(24,([32,34,36],[])),(25,([32,37],[])),(26,([32,38],[])),(27,([4,32],[])),(28,([32,40],[])),(29,([32,39,41],[])),(30,([32,42],[])),(31,([29,32,43],[])),(32,([29,44],[]))])] (.seq .u (.seq (.seq .u (.block (.loop ⟨[(1,.c (.pb 0 1 0)),(6,.c (.rows false .mono)),(7,.c (.int .i64)),(8,.c (.int .i64))],[.box (.sv false .poly)]⟩ .u))) .u)) AA Tryz.f28 [(72,⟨_,vO⟩),(74,⟨_,Ml⟩),(73,⟨_,Mq⟩),(43,⟨_,vP⟩),(75,⟨_,Mr⟩)] (WE A vO.pre vO.fn Ml.pre Ml.fn Mq.pre Mq.fn vP.pre vP.fn Mr.pre Mr.fn):=fun _=>by kernel_rfl
theorem ajx (A:Alg) (vQ:Ct A.ah AA): @Ru aL.z X E A [] .u AB Tryz.f12 [(28,⟨_,vQ⟩)] (WK A vQ.pre vQ.fn):=fun _=>by kernel_rfl
theorem ajy (A:Alg) (Gu:Ct A.ah Lx) (xD:Ct A.ah Eo) (vP:Ct A.ah Ay): @Ru aL.z X E A [(7,[(0,([7],[])),(1,([27],[])),(2,([3],[])),(3,([29],[])),(4,([6],[])),(5,([30,31],[])),(6,([32],[])),(7,([33],[])),(9,([7],[])),(10,([36],[])),(11,([3],[])),(12,([38],[])),(13,([6],[])),(14,([39,40],[])),(15,([41],[])),(16,([42],[])),(8,([28,34],[10,12,16])),(17,([37,43],[])),(18,([35,44],[])),(19,([45],[])),(20,([46],[]))])] (.seq .u (.seq .u (.seq (.seq .u (.block (.loop ⟨[(3,.c (.pb 0 1 0)),(20,.c (.rows false .mono)),(21,.c (.int .i64)),(22,.c (.int .i64))],[.box (.sv false .poly)]⟩ .u))) .u))) tO Tryz.f14 [(42,⟨_,Gu⟩),(41,⟨_,xD⟩),(43,⟨_,vP⟩)] (WL A Gu.pre Gu.fn xD.pre xD.fn vP.pre vP.fn):=fun _=>by kernel_rfl
theorem ajz (A:Alg): @Ru aL.z X E A [] .u LP Tryz.f126 [] (WM A):=fun _=>by kernel_rfl
theorem ajA (A:Alg) (Ms:Ct A.ah LP): @Ru ⟨[20],[]⟩ X E A [(5,[(0,([3],[])),(1,([13],[])),(2,([5],[])),(3,([15],[])),(4,([5],[])),(5,([17],[])),(6,([18],[1,3])),(7,([16,19],[])),(8,([20],[1])),(9,([14,21],[])),(10,([3],[])),(11,([22,23],[]))])] (.seq .u (.seq .u (.seq (.seq .u (.block (.loop ⟨[(2,.c (.pb 0 1 0)),(3,.c (.pb 1 1 0)),(7,.c (.rows false .mono)),(8,.c (.int .i64)),(9,.c (.int .i64))],[.box (.agg [.nil]),.box (.agg [.own 2]),.rows true .mono]⟩ .u))) .u))) AJ Tryz.f78 [(126,⟨_,Ms⟩)] (WO A Ms.pre Ms.fn):=fun _=>by kernel_rfl
theorem ajB (A:Alg) (vR:Ct A.ah AJ): @Ru aL.z X E A [] (.seq .u (.seq .u (.seq (.seq .u (.block (.loop ⟨[(3,.c (.own 0)),(6,.c (.rows false .poly)),(7,.c (.int .i64)),(8,.c (.int .i64))],[.rows true .poly]⟩ .u))) .u))) LQ Tryz.f77 [(78,⟨_,vR⟩)] (WQ A vR.pre vR.fn):=fun _=>by kernel_rfl
end Go.TX.Seat
namespace Go.TX.Seat
open Go Go.AE Go.TX Go.TX.F Go.Proofs
set_option maxRecDepth 100000
theorem ajC (A:Alg) (vR:Ct A.ah AJ) (Mt:Ct A.ah LQ): @Ru ⟨[42],[]⟩ X E A [(1,[(0,([1],[])),(1,([6],[])),(3,([1],[])),(4,([9],[])),(5,([1],[])),(6,([11],[])),(8,([1],[])),(9,([14],[])),(11,([1],[])),(12,([17],[])),(2,([7],[4,6,9,12])),(7,([12],[4,9,12])),(10,([15],[4,12])),(13,([8,10,13,16,18],[])),(14,([],[])),(15,([3,19],[]))]),(5,[(0,([3],[])),(1,([27],[])),(2,([5],[])),(3,([29],[])),(4,([5],[])),(5,([31],[])),(6,([5],[])),(7,([33],[])),(9,([5],[])),(10,([36],[])),(12,([5],[])),(13,([39],[])),(8,([34],[1,3,5,10,13])),(11,([37],[1,3,5,13])),(14,([40],[1,3,5])),(15,([30,32,35,38,41],[])),(16,([42],[1])),(17,([28,43],[])),(18,([3],[])),(19,([44,45],[]))])] (.seq .u (.seq .u (.seq (.seq .u (.block (.loop ⟨[(2,.c (.pb 0 6 0)),(3,.c (.pb 1 6 0)),(21,.c (.rows false .ev)),(22,.c (.int .i64)),(23,.c (.int .i64))],[.box (.agg [.nil,.nil,.int .i64,.nil,.nil,.int .i64]),.box (.agg [.own 2,.own 3,.int .i64,.own 4,.own 5,.int .i64]),.rows true .ev,.rows true .poly,.rows true .mono,.rows true .mono]⟩ .u))) .u))) LU Tryz.f29 [(78,⟨_,vR⟩),(77,⟨_,Mt⟩)] (WR A vR.pre vR.fn Mt.pre Mt.fn):=fun _=>by kernel_rfl
theorem ajD (A:Alg) (lX:Ct A.ah tO): @Ru aL.z X E A [] .u LW Tryz.f30 [(14,⟨_,lX⟩)] (WS A lX.pre lX.fn):=fun _=>by kernel_rfl
theorem ajE (A:Alg) (vO:Ct A.ah Az): @Ru aL.z X E A [] .u AL Tryz.f39 [(72,⟨_,vO⟩)] (WT A vO.pre vO.fn):=fun _=>by kernel_rfl
theorem ajF (A:Alg) (vS:Ct A.ah AL): @Ru aL.z X E A [] .u LY Tryz.f31 [(39,⟨_,vS⟩)] (WU A vS.pre vS.fn):=fun _=>by kernel_rfl
theorem ajG (A:Alg) (vT:Ct A.ah AB) (vQ:Ct A.ah AA) (lX:Ct A.ah tO) (Mv:Ct A.ah LU) (Mw:Ct A.ah LW) (Mx:Ct A.ah LY): @Ru aL.z X E A [] (.seq .u (.seq .u (.seq .u (.seq .u (.seq .u (.seq .u (.seq (.block (.seq .u (.cut ⟨[(4,.c (.pb 0 6 0)),(5,.c (.pb 1 6 0))],[.box (.agg [.nil,.nil,.int .i64,.nil,.nil,.int .i64]),.box (.agg [.own 2,.own 3,.int .i64,.own 4,.own 5,.int .i64]),.rows true .ev,.rows true .poly,.rows true .mono,.rows true .mono]⟩ (.cond .u (.seq .u (.cut ⟨[(4,.c (.pb 0 6 0)),(5,.c (.pb 1 6 0))],[.box (.agg [.nil,.nil,.int .i64,.nil,.nil,.int .i64]),.box (.agg [.own 2,.own 3,.int .i64,.own 4,.own 5,.int .i64]),.rows true .ev,.rows true .poly,.rows true .mono,.rows true .mono]⟩ (.cond .u (.seq .u (.cut ⟨[(4,.c (.pb 0 6 0)),(5,.c (.pb 1 6 0))],[.box (.agg [.nil,.nil,.int .i64,.nil,.nil,.int .i64]),.box (.agg [.own 2,.own 3,.int .i64,.own 4,.own 5,.int .i64]),.rows true .ev,.rows true .poly,.rows true .mono,.rows true .mono]⟩ (.cond (.seq .u (.seq .u (.seq .u (.cut ⟨[(4,.c (.pb 0 6 0)),(5,.c (.pb 1 6 0))],[.box (.agg [.nil,.nil,.int .i64,.nil,.nil,.int .i64]),.box (.agg [.own 2,.own 3,.int .i64,.nil,.nil,.int .i64]),.rows true .ev,.rows true .poly]⟩ (.cond .u .u))))) (.seq .u (.cut ⟨[(4,.c (.pb 0 6 0)),(5,.c (.pb 1 6 0))],[.box (.agg [.nil,.nil,.int .i64,.nil,.nil,.int .i64]),.box (.agg [.own 2,.own 3,.int .i64,.own 4,.own 5,.int .i64]),.rows true .ev,.rows true .poly,.rows true .mono,.rows true .mono]⟩ (.cond .u .u))))))))))))) .u))))))) LZ Tryz.f6 [(12,⟨_,vT⟩),(28,⟨_,vQ⟩),(14,⟨_,lX⟩),(29,⟨_,Mv⟩),(30,⟨_,Mw⟩),(31,⟨_,Mx⟩)] (WW A vT.pre vT.fn vQ.pre vQ.fn lX.pre lX.fn Mv.pre Mv.fn Mw.pre Mw.fn Mx.pre Mx.fn):=fun _=>by kernel_rfl
theorem ajH (A:Alg): @Ru aL.z X E A [(6,[(0,([0],[])),(1,([5],[])),(2,([17,18],[])),(3,([19],[])),(4,([1],[])),(5,([5],[])),(6,([21,22],[])),(7,([23],[])),(8,([20,24],[]))])] (.seq .u (.seq .u (.seq (.seq .u (.block (.loop ⟨[(0,.c (.rows false .i64)),(1,.c (.rows false .i64)),(5,.c (.int .i64))],[]⟩ .u))) .u))) L6 Tryz.f40 [] (WX A):=fun _=>by kernel_rfl
theorem ajI (A:Alg) (MB:Ct A.ah L6): @Ru aL.z X E A [(6,[(0,([2],[])),(1,([20],[])),(2,([5],[])),(3,([21,22],[])),(4,([23],[])),(5,([24],[])),(6,([3],[])),(7,([26],[])),(8,([5],[])),(9,([27,28],[])),(10,([29],[])),(11,([30],[])),(12,([25,31],[])),(13,([32],[])),(14,([2,33],[])),(15,([33,34],[])),(16,([5,33],[])),(17,([33,35,36],[])),(18,([33,37],[])),(19,([33,38],[])),(20,([3,33],[])),(21,([33,40],[])),(22,([5,33],[])),(23,([33,41,42],[])),(24,([33,43],[])),(25,([33,44],[])),(26,([33,39,45],[])),(27,([33,46],[])),(28,([33,47],[]))])] (.seq .u (.seq .u (.seq (.seq .u (.block (.loop ⟨[(2,.c (.pb 0 1 0)),(3,.c (.pb 1 1 0)),(5,.c (.int .i64))],[.box (.sv false .poly),.box (.sv false .poly)]⟩ .u))) .u))) tQ Tryz.f13 [(40,⟨_,MB⟩)] (WY A MB.pre MB.fn):=fun _=>by kernel_rfl
theorem ajJ (A:Alg) (lY:Ct A.ah tQ): @Ru aL.z X E A [(6,[(0,([0],[])),(1,([5],[])),(2,([17,18],[])),(3,([19],[])),(4,([1],[])),(5,([5],[])),(6,([21,22],[])),(7,([23],[])),(8,([20,24],[])),(9,([25],[]))])] (.seq .u (.seq .u (.seq (.seq .u (.block (.loop ⟨[(0,.c (.rows false .poly)),(1,.c (.rows false .poly)),(5,.c (.int .i64))],[]⟩ .u))) .u))) AO Tryz.f11 [(13,⟨_,lY⟩)] (WZ A lY.pre lY.fn):=fun _=>by kernel_rfl
theorem ajK (A:Alg) (lY:Ct A.ah tQ) (vU:Ct A.ah AO): @Ru aL.z X E A [] (.seq .u (.seq .u (.seq (.seq .u (.block (.loop ⟨[(2,.c (.pb 0 6 0)),(3,.c (.pb 1 6 0)),(5,.c (.int .i64))],[.box (.sv false .sym),.box (.sv false .sym)]⟩ .u))) .u))) L8 Tryz.f7 [(13,⟨_,lY⟩),(11,⟨_,vU⟩)] (W9 A lY.pre lY.fn vU.pre vU.fn):=fun _=>by kernel_rfl
theorem ajL (A:Alg) (vS:Ct A.ah AL): @Ru aL.z X E A [] .u L9 Tryz.f10 [(39,⟨_,vS⟩)] (Xa A vS.pre vS.fn):=fun _=>by kernel_rfl
theorem ajM (A:Alg) (vT:Ct A.ah AB) (lX:Ct A.ah tO) (MC:Ct A.ah LZ) (ME:Ct A.ah L9) (lY:Ct A.ah tQ) (vU:Ct A.ah AO) (MF:Ct A.ah L8) (FN:Ct A.ah En) (bT:Ct A.ah eU) (nU:Ct A.ah sP): @Ru aL.z X E A [(5,[(0,([5],[])),(1,([3],[])),(2,([4],[])),(3,([22,23],[0])),(4,([21,24],[])),(5,([25],[]))]),(9,[(0,([5],[])),(1,([4],[])),(3,([5],[])),(2,([43,44],[3])),(4,([45,46],[])),(5,([47],[])),(6,([48],[])),(7,([5,49],[])),(8,([49,50],[])),(9,([3,49],[])),(10,([49,52],[])),(11,([49,51,53],[])),(12,([49,54],[])),(13,([49,55],[])),(14,([56],[])),(15,([5,57],[])),(16,([57,58],[])),(17,([57,59],[])),(18,([3,57],[])),(19,([57,61],[])),(20,([57,62],[])),(21,([57,60,63],[])),(22,([57,64],[]))])] .u aaz Tryz.f3 [(12,⟨_,vT⟩),(14,⟨_,lX⟩),(6,⟨_,MC⟩),(10,⟨_,ME⟩),(13,⟨_,lY⟩),(11,⟨_,vU⟩),(7,⟨_,MF⟩),(5,⟨_,FN⟩),(9,⟨_,bT⟩),(8,⟨_,nU⟩)] (Xb A vT.pre vT.fn lX.pre lX.fn MC.pre MC.fn ME.pre ME.fn lY.pre lY.fn vU.pre vU.fn MF.pre MF.fn FN.pre FN.fn bT.pre bT.fn nU.pre nU.fn):=fun _=>by kernel_rfl
end Go.TX.Seat
namespace Go.TX.Seat
open Go Go.AE Go.TX Go.TX.F Go.Proofs
set_option maxRecDepth 100000
end Go.TX.Seat
namespace Go.TX
open Go Go.AE
theorem aeH (x y:Int):aZ .lss x y=decide (x<y):=rfl
theorem aeI (x y:Int):aZ .leq x y=decide (x≤y):=rfl
theorem aeJ (x y:Int):aZ .gtr x y=decide (y<x):=rfl
theorem aeK (x y:Int):aZ .geq x y=decide (y≤x):=rfl
theorem aeL (x y:Int):aZ .eql x y=decide (x=y):=rfl
theorem aeM (x y:Int):aZ .neq x y= !decide (x=y):=rfl
theorem aeN (k:IntKind) (x y:Int):jP .add k x y=k.wrap (x+y):=rfl
theorem aeO (k:IntKind) (x y:Int):jP .sub k x y=k.wrap (x-y):=rfl
theorem aeP (k:IntKind) (x y:Int):jP .mul k x y=k.wrap (x*y):=rfl
theorem aeQ (k:IntKind) (x y:Int):jP .quo k x y=k.wrap (x.tdiv y):=rfl
theorem Xd (k:IntKind) (x y:Int):jP .rem k x y=x.tmod y:=rfl
theorem w64 {x:Int} (h1: -9223372036854775808≤x) (h2:x≤9223372036854775807):IntKind.i64.wrap x=x:=IntWalk.i64_in _ (by omega)
theorem ZG (m:aj):fO .mono 0 m=m.bH:=rfl
theorem ZH (m:aj):lH .mono 1 .i64 m=m.atoms:=rfl
theorem aeR (p:List aj):lH .poly 0 .mono p=p:=rfl
theorem ajN (p:List Atom):lH .tab 0 .atom p=p:=rfl
theorem aeS (p:List Int):lH .ints 0 .i64 p=p:=rfl
theorem ZI (m:Atom):fO .atom 0 m=m.kind:=rfl
theorem ZJ (m:Atom):fO .atom 1 m=m.k:=rfl
theorem ZK (m:Atom):lH .atom 2 .mono m=m.x:=rfl
theorem ZL (m:Atom):lH .atom 3 .mono m=m.y:=rfl
theorem ajO (n:Int):fO .i64 0 n=n:=rfl
theorem aml (n:Int):fO .u8 0 n=n:=rfl
theorem ZM (x):Co.mk .mono x=⟨x.1,x.2.1⟩:=rfl
theorem ZN (x):Co.mk .poly x=x.1:=rfl
theorem aeT (x):Co.mk .tab x=x.1:=rfl
theorem ZO (x):Co.mk .ints x=x.1:=rfl
theorem Jg (x):Co.mk .i64 x=x.1:=rfl
theorem ZP (x):Co.mk .atom x=⟨x.1,x.2.1,x.2.2.1,x.2.2.2.1⟩:=rfl
theorem ay {α ρ:Type} {f:α→(α ⊕ ρ→Prop)→Prop} {x:α} {Q:ρ→Prop} (I:α→Prop) (μ:α→Nat) (h0:I x) (hs:∀y,I y→f y (Bj (fun z _=>I z∧μ z<μ y) Q)):SE f x Q:=⟨I,μ,h0,hs⟩
theorem Xe {α ρ:Type} (k:α→(ρ→Prop)→Prop) (Q:ρ→Prop) (x:α):Bj k Q (.inl x)=k x Q:=rfl
theorem Xf {α ρ:Type} (k:α→(ρ→Prop)→Prop) (Q:ρ→Prop) (r:ρ):Bj k Q (.inr r)=Q r:=rfl
theorem getD_lt {α:Type} {xs:List α} {d:α} {i:Nat} (h:i<xs.length):xs.getD i d=xs[i]:=by simp [List.getD,h]
theorem eD {α:Type} {xs:List α} {d:α} {i:Int} (h0:0≤i) (h:i<xs.length):xs.getD i.toNat d∈xs:=by
 rw [getD_lt (by omega)];exact List.getElem_mem _
theorem RR:(∀(x y:Int),aZ BinOp.lss x y=decide (x<y))∧(∀(x y:Int),aZ BinOp.leq x y=decide (x≤y))∧(∀(x y:Int),aZ BinOp.gtr x y=decide (y<x))∧(∀(x y:Int),aZ BinOp.geq x y=decide (y≤x))∧(∀(x y:Int),aZ BinOp.eql x y=decide (x=y))∧(∀(x y:Int),aZ BinOp.neq x y= !decide (x=y))∧(∀(k:IntKind) (x y:Int),jP BinOp.add k x y=k.wrap (x+y))∧(∀(k:IntKind) (x y:Int),jP BinOp.sub k x y=k.wrap (x-y))∧(∀(k:IntKind) (x y:Int),jP BinOp.mul k x y=k.wrap (x*y))∧(∀(k:IntKind) (x y:Int),jP BinOp.quo k x y=k.wrap (x.tdiv y))∧(∀(k:IntKind) (x y:Int),jP BinOp.rem k x y=x.tmod y)∧(∀ {x:Int}, -9223372036854775808≤x→x≤9223372036854775807→IntKind.i64.wrap x=x)∧(∀(m:aj),fO Co.mono 0 m=m.bH)∧(∀(m:aj),lH Co.mono 1 Co.i64 m=m.atoms)∧(∀(p:List aj),lH Co.poly 0 Co.mono p=p)∧(∀(p:List Atom),lH Co.tab 0 Co.atom p=p)∧(∀(p:List Int),lH Co.ints 0 Co.i64 p=p)∧(∀(m:Atom),fO Co.atom 0 m=m.kind)∧(∀(m:Atom),fO Co.atom 1 m=m.k)∧(∀(m:Atom),lH Co.atom 2 Co.mono m=m.x)∧(∀(m:Atom),lH Co.atom 3 Co.mono m=m.y)∧(∀(n:Int),fO Co.i64 0 n=n)∧(∀(n:Int),fO Co.u8 0 n=n)∧(∀(x:gM Co.mono.vB),Co.mono.mk x=aj.mk x.fst x.snd.fst)∧(∀(x:gM Co.poly.vB),Co.poly.mk x=x.fst)∧(∀(x:gM Co.tab.vB),Co.tab.mk x=x.fst)∧(∀(x:gM Co.ints.vB),Co.ints.mk x=x.fst)∧(∀(x:gM Co.i64.vB),Co.i64.mk x=x.fst)∧(∀(x:gM Co.atom.vB),Co.atom.mk x=Atom.mk x.fst x.snd.fst x.snd.snd.fst x.snd.snd.snd.fst)∧(∀ {α ρ:Type} (k:α→(ρ→Prop)→Prop) (Q:ρ→Prop) (x:α),Bj k Q (Sum.inl x)=k x Q)∧(∀ {α ρ:Type} (k:α→(ρ→Prop)→Prop) (Q:ρ→Prop) (r:ρ),Bj k Q (Sum.inr r)=Q r)∧(∀(c f:Bool),(bif c then true else f)=(c || f))∧(∀(c t:Bool),(bif c then t else false)=(c&&t))∧(∀(c f:Bool),(bif c then false else f)=(!c&&f))∧(∀(c t:Bool),(bif c then t else true)=(!c || t))∧(∀(a b:Bool),((a || b)=true)=(a=true∨b=true))∧(∀ {x y:Bool},(x || y)=false↔x=false∧y=false)∧(∀(a b:Bool),((a&&b)=true)=(a=true∧b=true))∧(∀ {p:Prop} [inst:Decidable p],(decide p=true)=p)∧(∀ {p:Prop} {x:Decidable p},decide p=false↔¬p)∧(∀(b:Bool),((!b)=true)=(b=false))∧(∀(b:Bool),((!b)=false)=(b=true))∧(∀(b:Bool),(!!b)=b)∧(∀(p:Prop),(True∧p)=p)∧(∀(p:Prop),(p∧True)=p)∧(∀ {α:Type} [inst:LE α] {x y:α},x≥y↔y≤x)∧(¬True)=False∧(¬False)=True∧(false=true)=False∧(true=false)=False∧(∀(p:Prop),(False→p)=True)∧(∀(p:Prop),(True→p)=p)∧(∀(α:Prop),(α→True)=True)∧(∀(α:Type),(∀(a:α),True)=True)∧(∀(p:Prop),(False∨p)=p)∧(∀(p:Prop),(p∨False)=p)∧(∀(p:Prop),(True∨p)=True)∧(∀(p:Prop),(p∨True)=True)∧(∀ {α:Type} {x:Decidable True} (t e:α),(if True then t else e)=t)∧∀ {α:Type} {x:Decidable False} (t e:α),(if False then t else e)=e:=And.intro (@aeH)<| And.intro (@aeI)<| And.intro (@aeJ)<| And.intro (@aeK)<| And.intro (@aeL)<| And.intro (@aeM)<| And.intro (@aeN)<| And.intro (@aeO)<| And.intro (@aeP)<| And.intro (@aeQ)<| And.intro (@Xd)<| And.intro (@w64)<| And.intro (@ZG)<| And.intro (@ZH)<| And.intro (@aeR)<| And.intro (@ajN)<| And.intro (@aeS)<| And.intro (@ZI)<| And.intro (@ZJ)<| And.intro (@ZK)<| And.intro (@ZL)<| And.intro (@ajO)<| And.intro (@aml)<| And.intro (@ZM)<| And.intro (@ZN)<| And.intro (@aeT)<| And.intro (@ZO)<| And.intro (@Jg)<| And.intro (@ZP)<| And.intro (@Xe)<| And.intro (@Xf)<| And.intro (@Bool.cond_true_left)<| And.intro (@Bool.cond_false_right)<| And.intro (@Bool.cond_false_left)<| And.intro (@Bool.cond_true_right)<| And.intro (@Bool.or_eq_true)<| And.intro (@Bool.or_eq_false_iff)<| And.intro (@Bool.and_eq_true)<| And.intro (@decide_eq_true_eq)<| And.intro (@decide_eq_false_iff_not)<| And.intro (@Bool.not_eq_true')<| And.intro (@Bool.not_eq_false')<| And.intro (@Bool.not_not)<| And.intro (@true_and)<| And.intro (@and_true)<| And.intro (@ge_iff_le.{0})<| And.intro (@not_true_eq_false)<| And.intro (@not_false_eq_true)<| And.intro (@Bool.false_eq_true)<| And.intro (@Bool.true_eq_false)<| And.intro (@false_implies)<| And.intro (@true_implies)<| And.intro (@implies_true.{0})<| And.intro (@implies_true.{1})<| And.intro (@false_or)<| And.intro (@or_false)<| And.intro (@true_or)<| And.intro (@or_true)<| And.intro (@if_true.{1})<| @if_false.{1}
end Go.TX
namespace Go.TX.F
open Go Go.AE Go.TX
def inB (a lo hi:Int):Bool:=decide (lo≤a)&&decide (a≤hi)
theorem aaI (a b c:Int):Wt (std 0) (a,b,c,()) (fun y=>y=(inB a b c,())):=by
 dsimp only [Wt,Alg.cl,Alg.cg,Alg.rb,Alg.bd,Alg.l1,Tup.q,Tup.o]
 simp (disch:=omega) only [RR]
 rfl
theorem aaJ {p:Int×Int×Int×Unit→Bool} {f:Int×Int×Int×Unit→Bool×Unit} (hp:∀a b c,p (a,b,c,())=true) (hf:∀a b c,f (a,b,c,())=(inB a b c,())) (a:Int):WT (std 0) p f (a,()) (fun y=>y=(inB a 0 65535,())):=by
 dsimp only [WT,Alg.cl,Alg.cg,Alg.rb,Alg.bd,Alg.l1,Tup.q,Tup.o]
 simp (disch:=omega) only [RR,hp,hf]
theorem ajP (a:Int):ac4 (std 0) (a,()) (fun y=>y=(false,())):=by
 dsimp only [ac4,Alg.cl,Alg.cg,Alg.rb,Alg.bd,Alg.l1,Tup.q,Tup.o]
 simp (disch:=omega) only [RR]
 simp
def fP (a b:Int):Int:=if a<b then-1 else if b<a then 1 else 0
theorem amm {p:Int×Unit→Bool} {f:Int×Unit→Bool×Unit} (hp:∀a,p (a,())=true) (hf:∀a,f (a,())=(false,())) (a b:Int):ac5 (std 0) p f (a,b,()) (fun y=>y=(fP a b,())):=by
 dsimp only [ac5,Alg.cl,Alg.cg,Alg.rb,Alg.bd,Alg.l1,Tup.q,Tup.o]
 simp (disch:=omega) only [RR,hp,hf]
 unfold fP
 refine⟨fun h=>by simp [h],fun h=>⟨fun h2=>by simp [h,h2],fun h2=>by simp [h,h2]⟩⟩
theorem amn {p:Int×Unit→Bool} {f:Int×Unit→Bool×Unit} (hp:∀a,p (a,())=true) (hf:∀a,f (a,())=(false,())) (a b:Int):ac9 (std 0) p f (a,b,()) (fun y=>y=(decide (a<b),())):=by
 dsimp only [ac9,Alg.cl,Alg.cg,Alg.rb,Alg.bd,Alg.l1,Tup.q,Tup.o]
 simp (disch:=omega) only [RR,hp,hf]
 simp
def or2 (a b:Int):Int:=if a≠0 then a else b
theorem ajQ (a b:Int):ac6 (std 0) ([a,b],()) (fun y=>y=(or2 a b,())):=by
 dsimp only [ac6,Alg.cl,Alg.cg,Alg.rb,Alg.bd,Alg.l1,Tup.q,Tup.o]
 refine ay (fun(y:Int×List Int×Int×Int×Unit)=>y.1=0∧y.2.1=[a,b]∧y.2.2.1=2∧0≤y.2.2.2.1∧y.2.2.2.1≤2∧(0<y.2.2.2.1→a=0)∧(1<y.2.2.2.1→b=0)) (fun y=>(2-y.2.2.2.1).toNat) ⟨rfl,rfl,rfl,by simp,by simp,fun h=>absurd h (by simp),fun h=>absurd h (by simp)⟩ ?_
 rintro⟨(z:Int),(l:List Int),(n:Int),(i:Int),⟨⟩⟩ hI
 dsimp only at hI ⊢
 obtain⟨rfl,rfl,rfl,h1,h2,h3,h4⟩:=hI
 simp (disch:=omega) only [RR]
 have hi:i=0∨i=1∨i=2:=by omega
 rcases hi with rfl | rfl | rfl
 ·by_cases ha:a=0<;>simp [or2,ha]<;>(try omega)
 ·have:=h3 (by omega)
  by_cases hb:b=0<;>simp [or2,this,hb]<;>(try omega)
 ·have:=h3 (by omega)
  have:=h4 (by omega)
  simp [or2, *]
def jH:List Int→List Int→Int
 | [],[]=>0
 | [],_::_=> -1
 | _::_,[]=>1
 | a::az,b::bs=>if fP a b≠0 then fP a b else jH az bs
theorem zT (a b:List Int) (i:Nat):(h1:i<a.length)→(h2:i<b.length)→jH (a.drop i) (b.drop i)=if fP a[i] b[i]≠0 then fP a[i] b[i]else jH (a.drop (i+1)) (b.drop (i+1)):=by
 intro h1 h2
 rw [List.drop_eq_getElem_cons h1,List.drop_eq_getElem_cons h2];rfl
theorem Xg (l:List Int) (h:l≠ []):jH l []=1:=by cases l<;>simp_all [jH]
theorem ajR {p:Int×Int×Unit→Bool} {f:Int×Int×Unit→Int×Unit} (hp:∀a b,p (a,b,())=true) (hf:∀a b,f (a,b,())=(fP a b,())) (a b:List Int) (ha:a.length<1000000000):
  Wq (std 0) p f (a,b,()) (fun y=>y=(jH a b,())):=by
 dsimp only [Wq,Alg.cl,Alg.cg,Alg.rb,Alg.bd,Alg.l1,Tup.q,Tup.o]
 refine ay (fun(y:List Int×List Int×List Int×Int×Int×Unit)=>y.1=a∧y.2.1=b∧y.2.2.1=a∧y.2.2.2.1=a.length∧0≤y.2.2.2.2.1∧y.2.2.2.2.1≤a.length∧y.2.2.2.2.1≤b.length∧jH a b=jH (a.drop y.2.2.2.2.1.toNat) (b.drop y.2.2.2.2.1.toNat))
  (fun y=>(a.length-y.2.2.2.2.1).toNat) ⟨rfl,rfl,rfl,rfl,by simp,by simp,by simp,by simp⟩ ?_
 rintro⟨(l1:List Int),(l2:List Int),(l3:List Int),(n:Int),(i:Int),⟨⟩⟩ hI
 dsimp only at hI ⊢
 obtain⟨rfl,rfl,rfl,rfl,h1,h2,h3,h4⟩:=hI
 simp (disch:=omega) only [RR,hp,hf]
 refine⟨fun hi=>⟨h1,hi,fun hj=> ?_,fun hj=>⟨h1,by omega,fun hc=> ?_,fun hc=> ?_⟩⟩,fun hi=>⟨fun hj=> ?_,fun hj=> ?_⟩⟩
 ·rw [h4,List.drop_eq_nil_of_le (show l2.length≤i.toNat by omega),Xg _ (by simp;omega)]
 ·rw [h4,zT l3 l2 i.toNat (by omega) (by omega)]
  rw [getD_lt (by omega),getD_lt (by omega)]at hc
  rw [getD_lt (by omega),getD_lt (by omega),if_pos hc]
 ·rw [getD_lt (by omega),getD_lt (by omega)]at hc
  refine⟨⟨by omega,by omega,by omega,?_⟩,by omega⟩
  rw [h4,zT l3 l2 i.toNat (by omega) (by omega),if_neg (by simpa using hc),show(i+1).toNat=i.toNat+1 by omega]
 ·rw [h4,List.drop_eq_nil_of_le (show l3.length≤i.toNat by omega)]
  have:∃q r,l2.drop i.toNat=q::r:=by
   cases hq:l2.drop i.toNat with
   | nil=>have:=congrArg List.length hq;simp at this;omega
   | cons q r=>exact⟨q,r,rfl⟩
  obtain⟨q,r,hq⟩:=this
  rw [hq];rfl
 ·rw [h4,List.drop_eq_nil_of_le (show l3.length≤i.toNat by omega),List.drop_eq_nil_of_le (show l2.length≤i.toNat by omega)];rfl
def fQ (a b:List Int):Int:=or2 (fP a.length b.length) (jH a b)
theorem ajS {p1:Int×Int×Unit→Bool} {f1:Int×Int×Unit→Int×Unit} (hp1:∀a b,p1 (a,b,())=true) (hf1:∀a b,f1 (a,b,())=(fP a b,()))
  {p2:List Int×List Int×Unit→Bool} {f2:List Int×List Int×Unit→Int×Unit} (hp2:∀a b,a.length<1000000000→p2 (a,b,())=true) (hf2:∀a b,a.length<1000000000→f2 (a,b,())=(jH a b,()))
  {p3:List Int×Unit→Bool} {f3:List Int×Unit→Int×Unit} (hp3:∀a b,p3 ([a,b],())=true) (hf3:∀a b,f3 ([a,b],())=(or2 a b,())) (a b:List Int) (ha:a.length<1000000000):
  Ws (std 0) p3 f3 p1 f1 p2 f2 (a,b,()) (fun y=>y=(fQ a b,())):=by
 dsimp only [Ws,Alg.cl,Alg.cg,Alg.rb,Alg.bd,Alg.l1,Tup.q,Tup.o]
 simp (disch:=omega) only [RR,hp1,hf1,hp2 a b ha,hf2 a b ha,hp3,hf3]
 rfl
end Go.TX.F
namespace Go.TX.F
open Go Go.AE Go.TX
noncomputable def bp (P:Prop):Bool:= @decide P (Classical.propDecidable P)
theorem bZ {P:Prop} (h:P):bp P=true:=by simp [bp,h]
theorem gG {P:Prop} (h:¬P):bp P=false:=by simp [bp,h]
theorem bO {P:Prop}:bp P=true↔P:=by simp [bp]
theorem qU {P:Prop}:bp P=false↔¬P:=by simp [bp]
theorem zU {P Q:Prop}:bp (P∧Q)=(bp P&&bp Q):=by by_cases h1:P<;>by_cases h2:Q<;>simp [bp,h1,h2]
theorem Jh {P Q:Prop} (h:P↔Q):bp P=bp Q:=by simp [bp,h]
def All (n:Int) (G:Int→Prop):Prop:=∀j,0≤j→j<n→G j
theorem All.zero {G:Int→Prop}:All 0 G:=fun j h1 h2=>absurd h2 (by omega)
theorem All.snoc {n:Int} {G:Int→Prop} (h:All n G) (hi:G n):All (n+1) G:=fun j h1 h2=>by
 by_cases hj:j=n
 ·exact hj▸hi
 ·exact h j h1 (by omega)
theorem All.le {n m:Int} {G:Int→Prop} (h:All n G) (hi:m≤n):All m G:=fun j h1 h2=>h j h1 (by omega)
def Idx (n:Int) (G:Int→Prop) (r:Int):Prop:=(r= -1∧All n (fun j=>¬G j))∨(0≤r∧r<n∧G r∧All r (fun j=>¬G j))
theorem Idx.ge {n:Int} {G:Int→Prop} {r:Int} (h:Idx n G r):(0≤r)↔¬All n (fun j=>¬G j):=by
 rcases h with⟨rfl,h⟩ | ⟨h1,h2,h3,h4⟩
 ·simp [h]
 ·simp only [h1,true_iff];exact fun h=>h r h1 h2 h3
def Srt (l:List Int):Prop:=All (l.length-1) (fun i=>l.getD i.toNat default≤l.getD (i+1).toNat default)
theorem ajT {p:Int×Int×Unit→Bool} {f:Int×Int×Unit→Bool×Unit} (hp:∀a b,p (a,b,())=true) (hf:∀a b,f (a,b,())=(decide (a<b),())) (a:List Int) (ha:a.length<1000000000):
  Wu (std 0) p f (a,()) (fun y=>y=(bp (Srt a),())):=by
 dsimp only [Wu,Alg.cl,Alg.cg,Alg.rb,Alg.bd,Alg.l1,Tup.q,Tup.o]
 simp (disch:=omega) only [RR,hp,hf]
 refine ay (fun(y:List Int×Int×Unit)=>y.1=a∧ -1≤y.2.1∧y.2.1≤a.length-1∧∀j,y.2.1≤j→0≤j→j< (a.length:Int)-1→a.getD j.toNat default≤a.getD (j+1).toNat default) (fun y=>(y.2.1+1).toNat) ⟨rfl,by simp;omega,by simp,by simp;omega⟩ ?_
 rintro⟨(l:List Int),(i:Int),⟨⟩⟩ hI
 dsimp only at hI ⊢
 obtain⟨rfl,h1,h2,h3⟩:=hI
 simp (disch:=omega) only [RR,hp,hf]
 refine⟨fun h4=>⟨by omega,by omega,by omega,by omega,fun h5=> ?_,fun h5=>⟨⟨by omega,by omega,fun j h6 h7 h8=> ?_⟩,by omega⟩⟩,fun h4=> ?_⟩
 ·rw [gG]
  intro h;have:=h (i-1) (by omega) (by omega)
  dsimp only at this
  rw [show i-1+1=i by omega]at this;omega
 ·by_cases hj:j=i-1
  ·subst hj;rw [show i-1+1=i by omega];omega
  ·exact h3 j (by omega) h7 h8
 ·rw [bZ]
  exact fun j h6 h7=>h3 j (by omega) h6 h7
theorem aaK (a n:Int):Wv (std 0) (a,n,()) (fun y=>y=(decide (n≤a),n,())):=by
 dsimp only [Wv,Alg.cl,Alg.cg,Alg.rb,Alg.bd,Alg.l1,Tup.q,Tup.o]
 simp (disch:=omega) only [RR]
theorem ajU {p:Int×Int×Unit→Bool} {f:Int×Int×Unit→Bool×Int×Unit} (hp:∀a b,p (a,b,())=true) (hf:∀a b,f (a,b,())=(decide (b≤a),b,())) (a:List Int) (n:Int) (ha:a.length<1000000000):
  Ww (std 0) p f (a,n,()) (fun y=>Idx a.length (fun i=>n≤a.getD i.toNat default) y.1∧y.2.1=n):=by
 dsimp only [Ww,Alg.cl,Alg.cg,Alg.rb,Alg.bd,Alg.l1,Tup.q,Tup.o]
 refine ay (fun(y:List Int×Int×Int×Int×Unit)=>y.1=a∧y.2.1=a.length∧y.2.2.2.1=n∧0≤y.2.2.1∧y.2.2.1≤a.length∧All y.2.2.1 (fun i=>¬n≤a.getD i.toNat default)) (fun y=>(a.length-y.2.2.1).toNat) ⟨rfl,rfl,rfl,by simp,by simp,All.zero⟩ ?_
 rintro⟨(l:List Int),(m:Int),(i:Int),(n':Int),⟨⟩⟩ hI
 dsimp only at hI ⊢
 obtain⟨rfl,rfl,rfl,h1,h2,h3⟩:=hI
 simp (disch:=omega) only [RR,hp,hf]
 refine⟨fun h4=>⟨by omega,by omega,fun h5=> ?_,fun h5=>⟨⟨by omega,by omega,h3.snoc h5⟩,by omega⟩⟩,fun h4=> ?_⟩
 ·exact Or.inr ⟨by omega,by omega,h5,h3⟩
 ·exact Or.inl ⟨rfl,h3.le (by omega)⟩
theorem ajV {p:List Int×Int×Unit→Bool} {f:List Int×Int×Unit→Int×Int×Unit} (hp:∀a b,a.length<1000000000→p (a,b,())=true)
  (hf:∀a n,a.length<1000000000→Idx a.length (fun i=>n≤a.getD i.toNat default) (f (a,n,())).1∧(f (a,n,())).2.1=n) (a:List Int) (n:Int) (ha:a.length<1000000000):
  Wx (std 0) p f (a,n,()) (fun y=>y=(bp (¬All a.length (fun i=>¬n≤a.getD i.toNat default)),n,())):=by
 obtain⟨h1,h2⟩:=hf a n ha
 dsimp only [Wx,Alg.cl,Alg.cg,Alg.rb,Alg.bd,Alg.l1,Tup.q,Tup.o]
 simp (disch:=omega) only [RR,hp a n ha,h2]
 rw [show decide ((0:Int)≤(f (a,n,())).1)=bp (¬All a.length (fun i=>¬n≤a.getD i.toNat default))from ?_]
 rw [←Jh h1.ge];simp [bp]
def Ji (n:Int) (m:aj):Prop:=All m.atoms.length (fun i=>¬n≤m.atoms.getD i.toNat default)
def aW (p:List aj) (n:Int):Prop:=All p.length (fun i=>Ji n (p.getD i.toNat default))
def Sh (p:List aj):Prop:=p.length<1000000000∧∀m∈p,m.atoms.length<1000000000
theorem Sh.at {p:List aj} (h:Sh p) (n:Nat):(p.getD n default).atoms.length<1000000000:=by
 by_cases h1:n<p.length
 ·rw [getD_lt h1];exact h.2 _ (List.getElem_mem _)
 ·simp only [List.getD,List.getElem?_eq_none (by omega:p.length≤n)];decide
theorem ajW {p:List Int×Int×Unit→Bool} {f:List Int×Int×Unit→Bool×Int×Unit} (hp:∀a b,a.length<1000000000→p (a,b,())=true)
  (hf:∀a n,a.length<1000000000→f (a,n,())=(bp (¬All a.length (fun i=>¬n≤a.getD i.toNat default)),n,())) (a:List aj) (n:Int) (ha:Sh a):
  Wy (std 0) p f (a,n,()) (fun y=>y=(bp (aW a n),())):=by
 have hlen:=ha.1
 dsimp only [Wy,Alg.cl,Alg.cg,Alg.rb,Alg.bd,Alg.l1,Tup.q,Tup.o]
 refine ay (fun(y:List aj×Int×Int×Int×Unit)=>y.1=a∧y.2.1=a.length∧y.2.2.2.1=n∧0≤y.2.2.1∧y.2.2.1≤a.length∧All y.2.2.1 (fun i=>Ji n (a.getD i.toNat default))) (fun y=>(a.length-y.2.2.1).toNat) ⟨rfl,rfl,rfl,by simp,by simp,All.zero⟩ ?_
 rintro⟨(l:List aj),(m:Int),(i:Int),(n':Int),⟨⟩⟩ hI
 dsimp only at hI ⊢
 obtain⟨rfl,rfl,rfl,h1,h2,h3⟩:=hI
 simp (disch:=omega) only [RR]
 refine⟨fun h4=> ?_,fun h4=> ?_⟩
 ·have h5:=ha.at i.toNat
  rw [hp _ _ h5,hf _ _ h5]
  refine⟨by omega,by omega,rfl,fun h6=> ?_,fun h6=>⟨⟨rfl,by omega,by omega,h3.snoc ?_⟩,by omega⟩⟩
  ·rw [gG (fun h=> ?_)]
   exact bO.1 h6 (h i h1 h4)
  ·exact Classical.byContradiction (fun h=>qU.1 h6 h)
 ·rw [bZ (show aW l n' from h3.le (by omega))]
theorem aaL (m:aj):Wz (std 0) (m,()) (fun y=>y=(bp (0<m.atoms.length∧m.atoms.getD 0 default<0),())):=by
 dsimp only [Wz,Alg.cl,Alg.cg,Alg.rb,Alg.bd,Alg.l1,Tup.q,Tup.o]
 simp (disch:=omega) only [RR]
 refine⟨by omega,by omega,?_⟩
 rw [zU]
 by_cases h1:0<m.atoms.length
 ·by_cases h2:m.atoms.getD 0 default<0
  ·rw [bZ h1,bZ h2,show Int.toNat 0=0 from rfl,decide_eq_true h2,decide_eq_true (by omega)]
  ·rw [bZ h1,gG h2,show Int.toNat 0=0 from rfl,decide_eq_false h2,Bool.and_false,Bool.and_false]
 ·rw [gG h1,decide_eq_false (by omega),Bool.false_and,Bool.false_and]
theorem ajX {p:aj×Unit→Bool} {f:aj×Unit→Bool×Unit} (G:aj→Prop) (hp:∀a,p (a,())=true) (hf:∀a,f (a,())=(bp (G a),())) (a:List aj) (ha:a.length<1000000000):
  WA (std 0) p f (a,()) (fun y=>Idx a.length (fun i=>G (a.getD i.toNat default)) y.1):=by
 dsimp only [WA,Alg.cl,Alg.cg,Alg.rb,Alg.bd,Alg.l1,Tup.q,Tup.o]
 refine ay (fun(y:List aj×Int×Int×Unit)=>y.1=a∧y.2.1=a.length∧0≤y.2.2.1∧y.2.2.1≤a.length∧All y.2.2.1 (fun i=>¬G (a.getD i.toNat default))) (fun y=>(a.length-y.2.2.1).toNat) ⟨rfl,rfl,by simp,by simp,All.zero⟩ ?_
 rintro⟨(l:List aj),(m:Int),(i:Int),⟨⟩⟩ hI
 dsimp only at hI ⊢
 obtain⟨rfl,rfl,h1,h2,h3⟩:=hI
 simp (disch:=omega) only [RR,hp,hf]
 refine⟨fun h4=>⟨by omega,by omega,fun h5=> ?_,fun h5=>⟨⟨by omega,by omega,h3.snoc (qU.1 h5)⟩,by omega⟩⟩,fun h4=> ?_⟩
 ·exact Or.inr ⟨by omega,by omega,bO.1 h5,h3⟩
 ·exact Or.inl ⟨rfl,h3.le (by omega)⟩
theorem ajY {p:List aj×Unit→Bool} {f:List aj×Unit→Int×Unit} (G:aj→Prop) (hp:∀a,a.length<1000000000→p (a,())=true)
  (hf:∀a,a.length<1000000000→Idx a.length (fun i=>G (a.getD i.toNat default)) (f (a,())).1) (a:List aj) (ha:a.length<1000000000):
  WB (std 0) p f (a,()) (fun y=>y=(bp (¬All a.length (fun i=>¬G (a.getD i.toNat default))),())):=by
 have h1:=hf a ha
 dsimp only [WB,Alg.cl,Alg.cg,Alg.rb,Alg.bd,Alg.l1,Tup.q,Tup.o]
 simp (disch:=omega) only [RR,hp a ha]
 rw [show decide ((0:Int)≤(f (a,())).1)=bp (¬All a.length (fun i=>¬G (a.getD i.toNat default)))from ?_]
 rw [←Jh h1.ge];simp [bp]
def mOk (m:aj):Prop:=(1≤m.bH∧m.bH≤65535)∧m.atoms.length≤4∧Srt m.atoms
def aG (p:List aj):Prop:=All p.length (fun i=>mOk (p.getD i.toNat default)∧(0<i→fQ (p.getD (i-1).toNat default).atoms (p.getD i.toNat default).atoms<0))∧p.length≤12∧aW p 200
 ∧All p.length (fun i=>¬(0< (p.getD i.toNat default).atoms.length∧(p.getD i.toNat default).atoms.getD 0 default<0))
theorem ajZ {p1:Int×Int×Int×Unit→Bool} {f1:Int×Int×Int×Unit→Bool×Unit} (hp1:∀a b c,p1 (a,b,c,())=true) (hf1:∀a b c,f1 (a,b,c,())=(inB a b c,()))
  {p2:List aj×Int×Unit→Bool} {f2:List aj×Int×Unit→Bool×Unit} (hp2:∀a n,Sh a→p2 (a,n,())=true) (hf2:∀a n,Sh a→f2 (a,n,())=(bp (aW a n),()))
  {p3:List Int×Unit→Bool} {f3:List Int×Unit→Bool×Unit} (hp3:∀a,a.length<1000000000→p3 (a,())=true) (hf3:∀a,a.length<1000000000→f3 (a,())=(bp (Srt a),()))
  {p4:List Int×List Int×Unit→Bool} {f4:List Int×List Int×Unit→Int×Unit} (hp4:∀a b,a.length<1000000000→p4 (a,b,())=true) (hf4:∀a b,a.length<1000000000→f4 (a,b,())=(fQ a b,()))
  {p5:List aj×Unit→Bool} {f5:List aj×Unit→Bool×Unit} (hp5:∀a,a.length<1000000000→p5 (a,())=true) (hf5:∀a,a.length<1000000000→f5 (a,())=(bp (¬All a.length (fun i=>¬(0< (a.getD i.toNat default).atoms.length∧(a.getD i.toNat default).atoms.getD 0 default<0))),()))
  (a:List aj) (ha:Sh a):WE (std 0) p1 f1 p2 f2 p3 f3 p4 f4 p5 f5 (a,()) (fun y=>y=(bp (aG a),())):=by
 have hlen:=ha.1
 dsimp only [WE,Alg.cl,Alg.cg,Alg.rb,Alg.bd,Alg.l1,Tup.q,Tup.o]
 refine ay (fun(y:List aj×Int×Int×List aj×Unit)=>y.1=a∧y.2.1=a.length∧y.2.2.2.1=a∧0≤y.2.2.1∧y.2.2.1≤a.length∧All y.2.2.1 (fun i=>mOk (a.getD i.toNat default)∧(0<i→fQ (a.getD (i-1).toNat default).atoms (a.getD i.toNat default).atoms<0))) (fun y=>(a.length-y.2.2.1).toNat) ⟨rfl,rfl,rfl,by simp,by simp,All.zero⟩ ?_
 rintro⟨(l:List aj),(m:Int),(i:Int),(l':List aj),⟨⟩⟩ hI
 dsimp only at hI ⊢
 obtain⟨rfl,rfl,rfl,h1,h2,h3⟩:=hI
 simp (disch:=omega) only [RR,hp1,hf1,hp2 l' _ ha,hf2 l' _ ha,hp5 l' hlen,hf5 l' hlen]
 refine⟨fun h4=> ?_,fun h4=> ?_⟩
 ·simp (disch:=omega) only [RR,hp3 _ (ha.at _),hf3 _ (ha.at _),hp4 _ _ (ha.at _),hf4 _ _ (ha.at _),bO,qU,inB]
  refine⟨by omega,by omega,by by_cases h:i≤0<;>simp [h]<;>omega,by omega,fun h5=> ?_,fun h5=>⟨⟨by omega,by omega,h3.snoc ?_⟩,by omega⟩⟩
  ·rw [gG (fun h=> ?_)]
   have:=h.1 i h1 h4
   dsimp only [mOk]at this
   obtain⟨⟨h6,h7,h8⟩,h9⟩:=this
   rcases h5 with((h5 | h5) | h5) | ⟨h5,h10⟩
   ·simp [-List.getD_eq_getElem?_getD]at h5;omega
   ·omega
   ·exact h5 h8
   ·have:=h9 h5;omega
  ·refine⟨⟨by omega,by omega,h5.1.2⟩,fun h6=> ?_⟩
   have:=h5.2;simp only [decide_eq_true h6,Bool.true_and,decide_eq_false_iff_not]at this;omega
 ·unfold aG
  rw [show All (↑l'.length) (fun i=>mOk (l'.getD i.toNat default)∧(0<i→fQ (l'.getD (i-1).toNat default).atoms (l'.getD i.toNat default).atoms<0))=True from eq_true (h3.le (by omega))]
  rw [true_and,zU,zU,Bool.and_assoc]
  refine congrArg (fun b=>(b,())) ?_
  congr 1
  ·by_cases h:l'.length≤12<;>simp [bp,h]<;>omega
  ·congr 1
   simp [bp]
def Bl (a b:aj):Int:=or2 (fQ a.atoms b.atoms) (fP a.bH b.bH)
def vC:List aj→List aj→Int
 | a::az,b::bs=>if Bl a b≠0 then Bl a b else vC az bs
 | _,_=>0
def eu (a b:List aj):Int:=if fP a.length b.length≠0 then fP a.length b.length else vC a b
theorem zV (a b:List aj) (i:Nat):(h1:i<a.length)→(h2:i<b.length)→vC (a.drop i) (b.drop i)=if Bl a[i] b[i]≠0 then Bl a[i] b[i]else vC (a.drop (i+1)) (b.drop (i+1)):=by
 intro h1 h2
 rw [List.drop_eq_getElem_cons h1,List.drop_eq_getElem_cons h2];rfl
theorem aj0 {p1:List Int×Unit→Bool} {f1:List Int×Unit→Int×Unit} (hp1:∀a b,p1 ([a,b],())=true) (hf1:∀a b,f1 ([a,b],())=(or2 a b,()))
  {p2:Int×Int×Unit→Bool} {f2:Int×Int×Unit→Int×Unit} (hp2:∀a b,p2 (a,b,())=true) (hf2:∀a b,f2 (a,b,())=(fP a b,()))
  {p4:List Int×List Int×Unit→Bool} {f4:List Int×List Int×Unit→Int×Unit} (hp4:∀a b,a.length<1000000000→p4 (a,b,())=true) (hf4:∀a b,a.length<1000000000→f4 (a,b,())=(fQ a b,()))
  (a b:List aj) (ha:Sh a):WL (std 0) p1 f1 p2 f2 p4 f4 (a,b,()) (fun y=>y=(eu a b,())):=by
 have hlen:=ha.1
 dsimp only [WL,Alg.cl,Alg.cg,Alg.rb,Alg.bd,Alg.l1,Tup.q,Tup.o]
 simp (disch:=omega) only [RR,hp2,hf2]
 refine⟨fun h=>by rw [eu,if_pos h],fun h=> ?_⟩
 have hl:a.length=b.length:=by unfold fP at h;split at h<;>(try split at h)<;>omega
 rw [show eu a b=vC a b by rw [eu,if_neg (by simp [h])]]
 refine ay (fun(y:List aj×Int×Int×List aj×Unit)=>y.1=a∧y.2.1=a.length∧y.2.2.2.1=b∧0≤y.2.2.1∧y.2.2.1≤a.length∧vC a b=vC (a.drop y.2.2.1.toNat) (b.drop y.2.2.1.toNat)) (fun y=>(a.length-y.2.2.1).toNat) ⟨rfl,rfl,rfl,by simp,by simp,by simp⟩ ?_
 rintro⟨(l:List aj),(m:Int),(i:Int),(l':List aj),⟨⟩⟩ hI
 dsimp only at hI ⊢
 obtain⟨rfl,rfl,rfl,h1,h2,h3⟩:=hI
 simp (disch:=omega) only [RR,hp1,hf1,hp4 _ _ (ha.at _),hf4 _ _ (ha.at _)]
 refine⟨fun h4=>⟨by omega,by omega,by omega,by omega,by omega,by omega,fun h5=> ?_,fun h5=>⟨⟨by omega,by omega,?_⟩,by omega⟩⟩,fun h4=> ?_⟩
 ·rw [h3,zV _ _ _ (by omega) (by omega)]
  rw [getD_lt (by omega),getD_lt (by omega)]at h5 ⊢
  exact((if_pos (c:=Bl l[i.toNat] l'[i.toNat]≠0) h5).trans rfl).symm▸rfl
 ·rw [h3,zV _ _ _ (by omega) (by omega)]
  rw [getD_lt (by omega),getD_lt (by omega)]at h5
  rw [if_neg (show¬(Bl l[i.toNat] l'[i.toNat]≠0)from fun h=>h h5),show(i+1).toNat=i.toNat+1 by omega]
 ·rw [h3,List.drop_eq_nil_of_le (by omega)];rfl
theorem aj1 {p1:List aj×List aj×Unit→Bool} {f1:List aj×List aj×Unit→Int×Unit} (hp1:∀a b,Sh a→p1 (a,b,())=true) (hf1:∀a b,Sh a→f1 (a,b,())=(eu a b,())) (a b:List aj) (ha:Sh a):
  WS (std 0) p1 f1 (a,b,()) (fun y=>y=(decide (eu a b=0),())):=by
 dsimp only [WS,Alg.cl,Alg.cg,Alg.rb,Alg.bd,Alg.l1,Tup.q,Tup.o]
 simp (disch:=omega) only [RR,hp1 a b ha,hf1 a b ha]
end Go.TX.F
namespace Go.TX.F
open Go Go.AE Go.TX
theorem aeU (k:IntKind) (x y:Int):jP .and k x y=ko .and k x y:=rfl
theorem Xh (k:IntKind) (x y:Int):jP .xor k x y=ko .xor k x y:=rfl
theorem ZQ {a b:Int} (ha:0≤a) (ha':a≤65535) (hb:0≤b) (hb':b≤65535):(0≤ko .and .i64 a b∧ko .and .i64 a b≤65535)∧(0≤ko .xor .i64 a b∧ko .xor .i64 a b≤65535):=by
 have h2:((2^IntKind.i64.bits:Nat):Int)=18446744073709551616:=by decide
 have e1:ko .and .i64 a b=((a.toNat&&&b.toNat:Nat):Int):=by
  unfold ko;dsimp only
  rw [BitVec.toNat_and,BitVec.toNat_ofInt,BitVec.toNat_ofInt,h2,show a%18446744073709551616=a by omega,show b%18446744073709551616=b by omega]
  have:=Nat.and_lt_two_pow (a.toNat) (show b.toNat<2^16 by omega)
  rw [w64 (by omega) (by omega)]
 have e2:ko .xor .i64 a b=((a.toNat^^^b.toNat:Nat):Int):=by
  unfold ko;dsimp only
  rw [BitVec.toNat_xor,BitVec.toNat_ofInt,BitVec.toNat_ofInt,h2,show a%18446744073709551616=a by omega,show b%18446744073709551616=b by omega]
  have:=Nat.xor_lt_two_pow (show a.toNat<2^16 by omega) (show b.toNat<2^16 by omega)
  rw [w64 (by omega) (by omega)]
 rw [e1,e2]
 have:=Nat.and_lt_two_pow (a.toNat) (show b.toNat<2^16 by omega)
 have:=Nat.xor_lt_two_pow (show a.toNat<2^16 by omega) (show b.toNat<2^16 by omega)
 omega
def wdo (op a b:Int):Int:=if(0≤a∧a≤65535)∧(0≤b∧b≤65535)then
 (if op=1 then(a+b)%65536 else if op=2 then(a-b)%65536 else if op=3 then(a*b)%65536 else if op=4 then ko .and .i64 a b else if op=5 then ko .xor .i64 a b else 0)else 0
theorem Tn (op a b:Int):0≤wdo op a b∧wdo op a b≤65535:=by
 unfold wdo
 split
 ·rename_i h
  have:=ZQ h.1.1 h.1.2 h.2.1 h.2.2
  repeat' split
  all_goals omega
 ·omega
theorem fC {a b c:Int}:inB a b c=true↔(b≤a∧a≤c):=by simp [inB]
theorem vV {a b c:Int}:inB a b c=false↔¬(b≤a∧a≤c):=by rw [←fC,Bool.not_eq_true]
def aQ (n:Int):List aj:=if 1≤n∧n≤65535 then [⟨n,[]⟩]else []
def gV (n:Int):List aj:=if 0≤n∧n≤199 then [⟨1,[n]⟩]else []
noncomputable def bK (p:List aj):Int×Bool:=if bp (aG p)then(if p.length=0 then(0,true)else if p.length=1∧(p.getD 0 default).atoms.length=0 then((p.getD 0 default).bH,true)else(0,false))else(0,false)
theorem aj2 {p1:List aj×Unit→Bool} {f1:List aj×Unit→Bool×Unit} (hp1:∀a,Sh a→p1 (a,())=true) (hf1:∀a,Sh a→f1 (a,())=(bp (aG a),())) (a:List aj) (ha:Sh a):
  WK (std 0) p1 f1 (a,()) (fun y=>y=((bK a).1,(bK a).2,())):=by
 dsimp only [WK,Alg.cl,Alg.cg,Alg.rb,Alg.bd,Alg.l1,Tup.q,Tup.o]
 simp (disch:=omega) only [RR,hp1 a ha,hf1 a ha]
 unfold bK
 refine⟨fun h=> ?_,fun h=>⟨fun h1=> ?_,fun h1=>⟨by omega,by omega,fun h2=>⟨by omega,by omega,?_⟩,fun h2=> ?_⟩⟩⟩
 ·rw [if_neg (by simpa using h)]
 ·rw [if_pos h,if_pos (by omega)]
 ·have h3:=h2.2;rw [show Int.toNat 0=0 from rfl]at h3
  rw [if_pos h,if_neg (by omega),if_pos (show a.length=1∧(a.getD 0 default).atoms.length=0 by omega)];rfl
 ·rw [if_pos h,if_neg (by omega),if_neg]
  intro h3
  rw [decide_eq_true (by omega),Bool.true_and,decide_eq_false_iff_not]at h2
  apply h2;rw [show Int.toNat 0=0 from rfl];omega
theorem aaM (a:List Int) (ha:a.length≤1073741824):WM (std 0) (a,()) (fun y=>y=(a,())):=by
 dsimp only [WM,Alg.cl,Alg.cg,Alg.rb,Alg.bd,Alg.l1,Tup.q,Tup.o]
 simp (disch:=omega) only [RR]
 omega
theorem dL {α:Type} {l:List α} {i:Int} {d x:α} (h0:0≤i) (h:i<l.length) (e:x=l.getD i.toNat d):l.take i.toNat++ [x]=l.take (i+1).toNat:=by
 rw [e,getD_lt (by omega),show(i+1).toNat=i.toNat+1 by omega,List.take_succ_eq_append_getElem (by omega)]
theorem aj3 {p1:List Int×Unit→Bool} {f1:List Int×Unit→List Int×Unit} (hp1:∀a,a.length≤1073741824→p1 (a,())=true) (hf1:∀a,a.length≤1073741824→f1 (a,())=(a,())) (a:List aj) (ha:Sh a):
  WO (std 0) p1 f1 (a,()) (fun y=>y=(a,())):=by
 have hlen:=ha.1
 dsimp only [WO,Alg.cl,Alg.cg,Alg.rb,Alg.bd,Alg.l1,Tup.q,Tup.o]
 refine ay (fun(y:List aj×Int×Int×List aj×Unit)=>y.1=a∧y.2.1=a.length∧y.2.2.2.1=a.take y.2.2.1.toNat∧0≤y.2.2.1∧y.2.2.1≤a.length) (fun y=>(a.length-y.2.2.1).toNat) ⟨rfl,rfl,by simp,by simp,by simp⟩ ?_
 rintro⟨(l:List aj),(m:Int),(i:Int),(o:List aj),⟨⟩⟩ hI
 dsimp only at hI ⊢
 obtain⟨rfl,rfl,rfl,h1,h2⟩:=hI
 simp (disch:=first | omega | (have:=ha.at i.toNat;omega)) only [RR,hp1,hf1]
 have h3:=ha.at i.toNat
 refine⟨fun h4=>⟨by omega,by omega,?_,⟨dL h1 h4 rfl,by omega,by omega⟩,by omega⟩,fun h4=>by rw [List.take_of_length_le (by omega)]⟩
 have:=List.length_take_le' i.toNat l
 simp only [List.length_cons,List.length_nil];omega
def ShA (a:Atom):Prop:=Sh a.x∧Sh a.y
def ShT (t:List Atom):Prop:=t.length<1000000000∧∀a∈t,ShA a
theorem ShT.at {p:List Atom} (h:ShT p) (n:Nat):ShA (p.getD n default):=by
 by_cases h1:n<p.length
 ·rw [getD_lt h1];exact h.2 _ (List.getElem_mem _)
 ·simp only [List.getD,List.getElem?_eq_none (by omega:p.length≤n)]
  refine⟨⟨by decide,fun m hm=> ?_⟩,⟨by decide,fun m hm=> ?_⟩⟩<;>exact absurd hm (by simp [default,instInhabitedAtom.default])
def FQ (a b:Atom):Bool:=decide (a.kind=b.kind)&&decide (a.k=b.k)&&decide (eu a.x b.x=0)&&decide (eu a.y b.y=0)
noncomputable def idxOf (n:Int) (G:Int→Prop):Int:= @dite _ (∃r,Idx n G r) (Classical.propDecidable _) (fun h=>Classical.choose h) (fun _=> -1)
theorem Idx.uniq {n:Int} {G:Int→Prop} {r s:Int} (h:Idx n G r) (h':Idx n G s):r=s:=by
 rcases h with⟨h1,h2⟩ | ⟨h1,h2,h3,h4⟩<;>rcases h' with⟨g1,g2⟩ | ⟨g1,g2,g3,g4⟩
 ·omega
 ·exact absurd g3 (h2 s g1 g2)
 ·exact absurd h3 (g2 r h1 h2)
 ·by_cases h5:r<s
  ·exact absurd h3 (g4 r h1 h5)
  ·by_cases h6:s<r
   ·exact absurd g3 (h4 s g1 h6)
   ·omega
theorem Idx.eq {n:Int} {G:Int→Prop} {r:Int} (h:Idx n G r):r=idxOf n G:=by
 unfold idxOf
 have he:∃r,Idx n G r:=⟨r,h⟩
 rw [dif_pos he];exact h.uniq (Classical.choose_spec he)
noncomputable def yN (t:List Atom) (a:Atom):Int:=idxOf t.length (fun i=>FQ a (t.getD i.toNat default)=true)
def iO (a:Atom) (n:Int):Prop:=if a.kind=4 then(1≤a.k∧a.k≤5)∧aG a.x∧aG a.y∧aW a.x n∧aW a.y n else
 (a.x=[]∧a.y=[])∧((a.kind=1∧0≤a.k∧a.k≤3)∨(a.kind=2∨a.kind=3)∧0≤a.k∧a.k≤199)
def aF (t:List Atom):Prop:=All t.length (fun i=>iO (t.getD i.toNat default) i∧yN t (t.getD i.toNat default)=i)∧t.length≤200
noncomputable def bM (t:List Atom) (a:Atom):List Atom×Int:=if 0≤yN t a then(t,yN t a)else @ite _ (¬iO a t.length∨t.length=200) (Classical.propDecidable _) (t, -1) (t++ [a],(t.length:Int))
end Go.TX.F
namespace Go.TX.F
open Go Go.AE Go.TX
theorem uV (a b:Int):fP b a= -fP a b:=by unfold fP;repeat' split<;>omega
theorem iG {a b:Int}:fP a b=0↔a=b:=by unfold fP;constructor<;>intro h<;>(repeat' split at*)<;>omega
theorem Hw:∀a b:List Int,jH b a= -jH a b
 | [],[]=>rfl | [],_::_=>rfl | _::_,[]=>rfl
 | a::az,b::bs=>by
  simp only [jH,uV a b,Hw az bs]
  split<;>split<;>omega
theorem Hy:∀ {a b:List Int},jH a b=0→a=b
 | [],[],_=>rfl | [],_::_,h=>by simp [jH]at h
 | _::_,[],h=>by simp [jH]at h
 | a::az,b::bs,h=>by
  simp only [jH]at h
  split at h
  ·exact absurd h (by assumption)
  ·rename_i h1
   rw [iG.1 (Classical.not_not.1 h1),Hy h]
theorem Hz:∀a:List Int,jH a a=0
 | []=>rfl
 | a::az=>by simp only [jH,show fP a a=0 from iG.2 rfl];simp [Hz az]
theorem FR:∀ {a b c:List Int},jH a b≤0→jH b c≤0→jH a c≤0
 | [],_,[],_,_=>by simp [jH]
 | [],_,_::_,_,_=>by simp [jH]
 | _::_,[],_,h,_=>by simp [jH]at h
 | _::_,_::_,[],_,h=>by simp [jH]at h
 | a::az,b::bs,c::cs,h1,h2=>by
  have ih:= @FR az bs cs
  simp only [jH]at h1 h2 ⊢
  unfold fP at h1 h2 ⊢
  repeat' split at h1
  all_goals (repeat' split at h2)
  all_goals (repeat' split)
  all_goals omega
theorem uW (a b:List Int):fQ b a= -fQ a b:=by
 unfold fQ or2;rw [uV,Hw];repeat' split<;>omega
theorem kX {a b:List Int}:fQ a b=0↔a=b:=by
 constructor
 ·intro h;unfold fQ or2 at h
  split at h
  ·exact absurd h (by assumption)
  ·exact Hy h
 ·rintro rfl;unfold fQ or2;rw [show fP (a.length:Int) a.length=0 from iG.2 rfl,Hz];rfl
theorem FT {a b c:List Int} (h1:fQ a b≤0) (h2:fQ b c≤0):fQ a c≤0:=by
 have ih:= @FR a b c
 unfold fQ or2 fP at*
 repeat' split at h1
 all_goals (repeat' split at h2)
 all_goals (repeat' split)
 all_goals omega
def le (x y:aj):Prop:=fQ x.atoms y.atoms≤0
theorem le.trans {x y z:aj} (h1:le x y) (h2:le y z):le x z:=FT h1 h2
theorem le_of_lt {x y:aj} (h:fQ x.atoms y.atoms<0):le x y:=by unfold le;omega
theorem le_refl (x:aj):le x x:=by unfold le;rw [kX.2 rfl];omega
theorem AU {x y z:aj} (h1:le x y) (h2:fQ y.atoms z.atoms<0):fQ x.atoms z.atoms<0:=by
 have h3:=FT h1 (le_of_lt h2)
 by_cases h:fQ x.atoms z.atoms=0
 ·have e:=kX.1 h
  unfold le at h1;rw [e,uW]at h1;omega
 ·omega
structure Sm (d d':List aj):Prop where
 len:d'.length=d.length
 sum:∀g:aj→Int,(d'.map g).sum=(d.map g).sum
theorem Sm.refl (d:List aj):Sm d d:=⟨rfl,fun _=>rfl⟩
theorem Sm.trans {a b c:List aj} (h1:Sm a b) (h2:Sm b c):Sm a c:=⟨h2.1.trans h1.1,fun g=>(h2.2 g).trans (h1.2 g)⟩
theorem Sm.symm {a b:List aj} (h1:Sm a b):Sm b a:=⟨h1.1.symm,fun g=>(h1.2 g).symm⟩
theorem Jj (x:aj):∀d:List aj,0≤(d.map (fun y=>if y=x then(1:Int)else 0)).sum∧(0< (d.map (fun y=>if y=x then(1:Int)else 0)).sum↔x∈d)
 | []=>by simp
 | a::d=>by
  have:=Jj x d
  simp only [List.map_cons,List.sum_cons,List.mem_cons]
  by_cases h:a=x
  ·rw [if_pos h];refine⟨by omega,⟨fun _=>Or.inl h.symm,fun _=>by omega⟩⟩
  ·rw [if_neg h];refine⟨by omega,⟨fun h2=>Or.inr (this.2.1 (by omega)),fun h2=> ?_⟩⟩
   rcases h2 with h2 | h2
   ·exact absurd h2.symm h
   ·have:=this.2.2 h2;omega
theorem Sm.mem {a b:List aj} (h:Sm a b) {x:aj} (hx:x∈b):x∈a:=by
 rw [←(Jj x a).2,←h.2];exact(Jj x b).2.2 hx
theorem Sm.sh {a b:List aj} (h:Sm a b) (hs:Sh a):Sh b:=⟨by have:=hs.1;have:=h.1;omega,fun m hm=>hs.2 m (h.mem hm)⟩
end Go.TX.F
namespace Go.TX.F
open Go Go.AE Go.TX
def aeV (d:List aj) (a b:Int):Prop:=∀p q,a≤p→p≤q→q<b→le ((d).getD (p).toNat default) ((d).getD (q).toNat default)
def Out (d d':List aj) (a b:Int):Prop:=∀k,0≤k→(k<a∨b≤k)→((d').getD (k).toNat default)=((d).getD (k).toNat default)
end Go.TX.F
namespace Go.TX.F
open Go Go.AE Go.TX
structure Mrg (d d':List aj) (a b:Int):Prop where
 sm:Sm d d'
 out:Out d d' a b
 ins:∀k,a≤k→k<b→∃j,a≤j∧j<b∧((d').getD (k).toNat default)=((d).getD (j).toNat default)
 srt:aeV d' a b
structure amH (a m b:Int) (d:List aj):Prop where
 sh:Sh d
 h1:0≤a
 h2:a<m
 h3:m<b
 h4:b≤d.length
 s1:aeV d a m
 s2:aeV d m b
end Go.TX.F
namespace Go.TX.F
open Go Go.AE Go.TX
end Go.TX.F
namespace Go.TX.F
open Go Go.AE Go.TX
def cf (l:List aj) (k:List Int):Int:=(l.map fun m=>if m.atoms=k then m.bH else 0).sum
theorem iN (k:List Int):cf [] k=0:=rfl
theorem cB (m:aj) (l:List aj) (k:List Int):cf (m::l) k=(if m.atoms=k then m.bH else 0)+cf l k:=by simp [cf]
theorem dh (a b:List aj) (k:List Int):cf (a++b) k=cf a k+cf b k:=by simp [cf]
theorem jI {k:List Int}:∀ {l:List aj},(∀m∈l,m.atoms≠k)→cf l k=0
 | [],_=>rfl
 | m::l,h=>by rw [cB,if_neg (h m (by simp)),jI (fun m hm=>h m (by simp [hm]))];rfl
theorem Sm.cf {a b:List aj} (h:Sm a b) (k:List Int):cf b k=cf a k:=h.sum _
def lt (a b:aj):Prop:=fQ a.atoms b.atoms<0
theorem lt.ne {a b:aj} (h:lt a b):a.atoms≠b.atoms:=fun e=>by unfold lt at h;rw [e,kX.2 rfl]at h;omega
structure Nf (o:List aj):Prop where
 ss:o.Pairwise lt
 co:∀m∈o,1≤m.bH∧m.bH≤65535
theorem Tp:∀ {o1 o2:List aj},Nf o1→Nf o2→(∀k,cf o1 k=cf o2 k)→o1=o2
 | [],[],_,_,_=>rfl
 | [],m::o,_,h2,h=>by
  have:=h m.atoms
  rw [cB,if_pos rfl,jI (fun m' hm'=>((List.rel_of_pairwise_cons h2.ss hm').ne).symm),iN]at this
  have:=(h2.co m (by simp));omega
 | m::o,[],h1,_,h=>by
  have:=h m.atoms
  rw [cB,if_pos rfl,jI (fun m' hm'=>((List.rel_of_pairwise_cons h1.ss hm').ne).symm),iN]at this
  have:=(h1.co m (by simp));omega
 | m1::o1,m2::o2,h1,h2,h=>by
  have c1:=h1.co m1 (by simp)
  have c2:=h2.co m2 (by simp)
  have z1:cf o1 m1.atoms=0:=jI fun m' hm'=>((List.rel_of_pairwise_cons h1.ss hm').ne).symm
  have z2:cf o2 m2.atoms=0:=jI fun m' hm'=>((List.rel_of_pairwise_cons h2.ss hm').ne).symm
  have tr:∀ {a b c:aj},lt a b→lt b c→lt a c:=fun g1 g2=>AU (le_of_lt g1) g2
  have e:m1.atoms=m2.atoms:=by
   by_cases g1:lt m1 m2
   ·have:=h m1.atoms
    rw [cB,if_pos rfl,z1,cB,if_neg (fun e=>g1.ne e.symm),jI (fun m' hm'=>((tr g1 (List.rel_of_pairwise_cons h2.ss hm')).ne).symm)]at this
    omega
   ·by_cases g2:lt m2 m1
    ·have:=h m2.atoms
     rw [cB,if_neg (fun e=>g2.ne e.symm),jI (fun m' hm'=>((tr g2 (List.rel_of_pairwise_cons h1.ss hm')).ne).symm),cB,if_pos rfl,z2]at this
     omega
    ·unfold lt at g1 g2
     rw [uW]at g2
     exact kX.1 (by omega)
  have ec:m1.bH=m2.bH:=by
   have:=h m1.atoms
   rw [cB,if_pos rfl,z1,cB,if_pos e.symm,e,z2]at this;omega
  have em:m1=m2:=by cases m1;cases m2;simp_all
  subst em
  refine congrArg _ (Tp ⟨h1.ss.tail,fun m hm=>h1.co m (by simp [hm])⟩ ⟨h2.ss.tail,fun m hm=>h2.co m (by simp [hm])⟩ (fun k=>by
   have:=h k;rw [cB,cB]at this;omega))
noncomputable def nf (l:List aj):List aj:= @dite _ (∃o,Nf o∧∀k,cf o k=cf l k%65536) (Classical.propDecidable _) (fun h=>Classical.choose h) (fun _=> [])
theorem Xi {l o:List aj} (h:Nf o) (h2:∀k,cf o k=cf l k%65536):nf l=o:=by
 have he:∃o,Nf o∧∀k,cf o k=cf l k%65536:=⟨o,h,h2⟩
 unfold nf;rw [dif_pos he]
 have:=Classical.choose_spec he
 exact Tp this.1 h (fun k=>(this.2 k).trans (h2 k).symm)
noncomputable def yO (l:List aj):Bool×List aj:=(bp (aG (nf l)),if bp (aG (nf l))then nf l else [])
end Go.TX.F
namespace Go.TX.F
open Go Go.AE Go.TX
theorem mOk.le {m:aj} (h:mOk m):m.atoms.length≤4:=h.2.1
theorem aG.at {p:List aj} (h:aG p) {m:aj} (hm:m∈p):mOk m:=by
 obtain⟨i,hi,rfl⟩:=List.getElem_of_mem hm
 have:=(h.1 i (by omega) (by omega)).1
 rw [show(i:Int).toNat=i from rfl,getD_lt hi]at this;exact this
theorem aG.len {p:List aj} (h:aG p):p.length≤12:=h.2.1
noncomputable def kW (a b:List aj):Bool×List aj:=if bp (aG a)&&bp (aG b)then yO (a++b)else(false,[])
def vW (l:List Int):List Int:=l.mergeSort fun x y=>decide (x≤y)
theorem UJ (l:List Int):(vW l).length=l.length:=List.length_mergeSort l
def mulM (m n:aj):aj:=⟨m.bH*n.bH%65536,vW (m.atoms++n.atoms)⟩
def prods (a b:List aj):List aj:=a.flatMap fun m=>b.map (mulM m)
theorem QK (a b:List aj) (m:aj):prods (a++ [m]) b=prods a b++b.map (mulM m):=by simp [prods]
noncomputable def oD (a b:List aj):Bool×List aj:=if bp (aG a)&&bp (aG b)then yO (prods a b)else(false,[])
theorem Jk {a b:Int} (h1:0≤a) (h2:a≤65535) (h3:0≤b) (h4:b≤65535):0≤a*b∧a*b≤65535*65535:=⟨Int.mul_nonneg h1 h3,Int.mul_le_mul h2 h4 h3 (by omega)⟩
noncomputable def gP (a:List aj) (n:Int):List aj:=if bp (aG a)&&inB n 0 65535 then(oD a (aQ n)).2 else []
end Go.TX.F
namespace Go.TX.F
open Go Go.AE Go.TX
noncomputable def Gw (op:Int) (x y:List aj):List aj×Bool:=
 if(bK x).2&& (bK y).2 then(aQ (wdo op (bK x).1 (bK y).1),true)
 else if eu x y=0∧op=4 then(x,true)
 else if eu x y=0 then([],true)
 else if(bK x).2 then
  (if op=4∧(bK x).1=0 then([],true)else if(op=4∧(bK x).1=65535)∨(op=5∧(bK x).1=0)then(y,true)else([],false))
 else if(bK y).2 then
  (if op=4∧(bK y).1=0 then([],true)else if(op=4∧(bK y).1=65535)∨(op=5∧(bK y).1=0)then(x,true)else([],false))
 else([],false)
noncomputable def jo (op:Int) (x y:List aj):List aj×Bool:=
 if op=1 then((kW x y).2,(kW x y).1)else if op=2 then((kW x (gP y 65535)).2,(kW x (gP y 65535)).1)else if op=3 then((oD x y).2,(oD x y).1)else Gw op x y
theorem aG.sh {l:List aj}:aG l→Sh l:=fun h=>⟨by have:=h.len;omega,fun m hm=>by have:=(h.at hm).le;omega⟩
theorem ZR (l:List aj):Sh (yO l).2:=by
 unfold yO
 by_cases h:aG (nf l)
 ·rw [bZ h];exact h.sh
 ·rw [gG h];exact⟨by simp,fun m hm=>absurd hm (by simp)⟩
theorem qB:Sh []:=⟨by simp,fun m hm=>absurd hm (by simp)⟩
theorem ZT (a b:List aj):Sh (oD a b).2:=by unfold oD;split;exact ZR _;exact qB
theorem HV (a:List aj) (n:Int):Sh (gP a n):=by unfold gP;split;exact ZT _ _;exact qB
noncomputable def tDo (t:List Atom) (op:Int) (x y:List aj):List Atom×List aj:=
 if(jo op x y).2 then(t,(jo op x y).1)else
 if op≠2∧0<eu x y then(if(bM t ⟨4,op,y,x⟩).2<0 then([],[])else((bM t ⟨4,op,y,x⟩).1,gV (bM t ⟨4,op,y,x⟩).2))
 else(if(bM t ⟨4,op,x,y⟩).2<0 then([],[])else((bM t ⟨4,op,x,y⟩).1,gV (bM t ⟨4,op,x,y⟩).2))
noncomputable def tOk (t:List Atom) (op:Int) (x y:List aj):Bool:=(jo op x y).2 || !decide ((if op≠2∧0<eu x y then(bM t ⟨4,op,y,x⟩).2 else(bM t ⟨4,op,x,y⟩).2)<0)
theorem ZU:ShT []:=⟨by simp,fun m hm=>absurd hm (by simp)⟩
theorem aj4 {p1:Int×Unit→Bool} {f1:Int×Unit→Bool×Unit} (hp1:∀a,p1 (a,())=true) (hf1:∀a,f1 (a,())=(inB a 0 65535,())):Xa (std 0) p1 f1 () (fun z=>z=(true,())):=by
 dsimp only [Xa,Alg.cl,Alg.cg,Alg.rb,Alg.bd,Alg.l1,Tup.q,Tup.o]
 simp (disch:=omega) only [RR,hp1,hf1]
 rfl
theorem Bv {α:Type} {d:α} {a b:List α} (h:a.length=b.length) (h2:All a.length (fun i=>a.getD i.toNat d=b.getD i.toNat d)):a=b:=by
 refine List.ext_getElem h fun i h3 h4=> ?_
 have:=h2 i (by omega) (by omega)
 dsimp only at this
 rw [show(i:Int).toNat=i from rfl,getD_lt h3,getD_lt h4]at this;exact this
theorem aaN (a b:List Int) (ha:a.length<1000000000):WX (std 0) (a,b,()) (fun z=>z=(bp (a=b),())):=by
 dsimp only [WX,Alg.cl,Alg.cg,Alg.rb,Alg.bd,Alg.l1,Tup.q,Tup.o]
 simp (disch:=omega) only [RR]
 refine⟨fun h=> ?_,fun h=> ?_⟩
 ·rw [gG (fun e=>h (by rw [e]))]
 have hl:a.length=b.length:=by omega
 refine ay (fun(y:List Int×List Int×Int×Unit)=>y.1=a∧y.2.1=b∧0≤y.2.2.1∧y.2.2.1≤a.length∧All y.2.2.1 (fun i=>a.getD i.toNat default=b.getD i.toNat default)) (fun y=>(a.length-y.2.2.1).toNat) ⟨rfl,rfl,by simp,by simp,All.zero⟩ ?_
 rintro⟨(l1:List Int),(l2:List Int),(i:Int),⟨⟩⟩ hI
 dsimp only at hI ⊢
 obtain⟨rfl,rfl,h1,h2,h3⟩:=hI
 simp (disch:=omega) only [RR]
 refine⟨fun h4=>⟨by omega,by omega,by omega,by omega,fun h5=> ?_,fun h5=>⟨⟨by omega,by omega,h3.snoc h5⟩,by omega⟩⟩,fun h4=> ?_⟩
 ·rw [gG (fun e=>h5 (by rw [e]))]
 ·rw [bZ (Bv hl (h3.le (by omega)))]
theorem aj5 {p:List Int×List Int×Unit→Bool} {f:List Int×List Int×Unit→Bool×Unit} (hp:∀a b,a.length<1000000000→p (a,b,())=true) (hf:∀a b,a.length<1000000000→f (a,b,())=(bp (a=b),()))
  (a b:List aj) (ha:Sh a):WY (std 0) p f (a,b,()) (fun z=>z=(bp (a=b),())):=by
 have hlen:=ha.1
 dsimp only [WY,Alg.cl,Alg.cg,Alg.rb,Alg.bd,Alg.l1,Tup.q,Tup.o]
 simp (disch:=omega) only [RR]
 refine⟨fun h=> ?_,fun h=> ?_⟩
 ·rw [gG (fun e=>h (by rw [e]))]
 have hl:a.length=b.length:=by omega
 refine ay (fun(y:Int×List aj×List aj×Unit)=>y.2.1=a∧y.2.2.1=b∧0≤y.1∧y.1≤a.length∧All y.1 (fun i=>a.getD i.toNat default=b.getD i.toNat default)) (fun y=>(a.length-y.1).toNat) ⟨rfl,rfl,by simp,by simp,All.zero⟩ ?_
 rintro⟨(i:Int),(l1:List aj),(l2:List aj),⟨⟩⟩ hI
 dsimp only at hI ⊢
 obtain⟨rfl,rfl,h1,h2,h3⟩:=hI
 simp (disch:=omega) only [RR,hp _ _ (ha.at _),hf _ _ (ha.at _),bO,qU]
 refine⟨fun h4=>⟨by omega,by omega,by omega,by omega,by omega,by omega,by omega,by omega,fun h5=> ?_,fun h5=>⟨⟨by omega,by omega,h3.snoc ?_⟩,by omega⟩⟩,fun h4=> ?_⟩
 ·rw [gG]
  intro e;rw [e]at h5
  rcases h5 with h5 | h5<;>exact h5 rfl
 ·obtain⟨e1,e2⟩:=h5
  generalize ((l1).getD (i).toNat default)=u at e1 e2 ⊢
  generalize ((l2).getD (i).toNat default)=v at e1 e2 ⊢
  cases u;cases v;simp_all
 ·rw [bZ (Bv hl (h3.le (by omega)))]
end Go.TX.F
namespace Go.TX.F
open Go Go.AE Go.TX
theorem Xj {a b:Int}:or2 a b=0↔a=0∧b=0:=by unfold or2;split<;>omega
theorem HZ {a b:aj}:Bl a b=0↔a=b:=by
 unfold Bl;rw [Xj,kX,iG]
 constructor
 ·rintro⟨h1,h2⟩;cases a;cases b;simp_all
 ·rintro rfl;exact⟨rfl,rfl⟩
theorem UK (a b:aj):Bl b a= -Bl a b:=by
 unfold Bl or2;rw [uW,uV];repeat' split<;>omega
theorem H6:∀a b:List aj,vC b a= -vC a b
 | [],[]=>rfl | [],_::_=>rfl | _::_,[]=>rfl
 | a::az,b::bs=>by
  simp only [vC,UK a b,H6 az bs]
  split<;>split<;>omega
theorem H7:∀ {a b:List aj},a.length=b.length→vC a b=0→a=b
 | [],[],_,_=>rfl | [],_::_,h,_=>by simp at h
 | _::_,[],h,_=>by simp at h
 | a::az,b::bs,hl,h=>by
  simp only [vC]at h
  split at h
  ·exact absurd h (by assumption)
  ·rename_i h1
   rw [HZ.1 (Classical.not_not.1 h1),H7 (by simpa using hl) h]
theorem H8:∀a:List aj,vC a a=0
 | []=>rfl
 | a::az=>by simp only [vC,HZ.2 rfl];simp [H8 az]
theorem H9 (a b:List aj):eu b a= -eu a b:=by
 unfold eu;rw [uV,H6];repeat' split<;>omega
theorem pE {a b:List aj}:eu a b=0↔a=b:=by
 unfold eu
 constructor
 ·intro h
  split at h
  ·exact absurd h (by assumption)
  ·rename_i h1
   have:=iG.1 (Classical.not_not.1 h1)
   exact H7 (by omega) h
 ·rintro rfl;rw [if_neg (by rw [iG.2 rfl];simp),H8]
theorem kY {a b:Atom}:FQ a b=true↔a=b:=by
 unfold FQ
 rw [Bool.and_eq_true,Bool.and_eq_true,Bool.and_eq_true,decide_eq_true_eq,decide_eq_true_eq,decide_eq_true_eq,decide_eq_true_eq,pE,pE]
 constructor
 ·rintro⟨⟨⟨h1,h2⟩,h3⟩,h4⟩;cases a;cases b;simp_all
 ·rintro rfl;exact⟨⟨⟨rfl,rfl⟩,rfl⟩,rfl⟩
theorem mK {α:Type} {d:α} {l:List α} {G:α→Prop}:All l.length (fun i=>G (l.getD i.toNat d))↔∀m∈l,G m:=by
 constructor
 ·intro h m hm
  obtain⟨i,hi,rfl⟩:=List.getElem_of_mem hm
  have:=h i (by omega) (by omega)
  dsimp only at this
  rw [show(i:Int).toNat=i from rfl,getD_lt hi]at this;exact this
 ·intro h i h1 h2
  exact h _ (eD h1 h2)
theorem cu {p:List aj} {n:Int}:aW p n↔∀m∈p,∀k∈m.atoms,k<n:=by
 unfold aW Ji
 rw [mK (d:=default) (G:=fun m:aj=>All m.atoms.length (fun i=>¬n≤m.atoms.getD i.toNat default))]
 refine forall_congr' fun m=>forall_congr' fun _=> ?_
 rw [mK (d:=default) (G:=fun k:Int=>¬n≤k)]
 exact forall_congr' fun k=>forall_congr' fun _=>by omega
theorem dF {α:Type} {d:α} {R:α→α→Prop} (tr:∀ {a b c},R a b→R b c→R a c) {l:List α}:l.Pairwise R↔∀i:Int,0<i→i<l.length→R (l.getD (i-1).toNat d) (l.getD i.toNat d):=by
 rw [List.pairwise_iff_getElem]
 constructor
 ·intro h i h1 h2
  rw [getD_lt (by omega),getD_lt (by omega)]
  exact h _ _ (by omega) (by omega) (by omega)
 ·intro h i j hi hj hij
  obtain⟨n,rfl⟩:∃n,j=i+1+n:=⟨j-i-1,by omega⟩
  clear hij
  induction n with
  | zero=>
   have:=h (i+1:Nat) (by omega) (by omega)
   rw [show(((i+1:Nat):Int)-1).toNat=i by omega,show(((i+1:Nat):Int)).toNat=i+1 by omega,getD_lt hi,getD_lt (by omega)]at this
   exact this
  | succ n ih=>
   have h1:=ih (by omega)
   have:=h (i+1+n+1:Nat) (by omega) (by omega)
   rw [show(((i+1+n+1:Nat):Int)-1).toNat=i+1+n by omega,show(((i+1+n+1:Nat):Int)).toNat=i+1+n+1 by omega,getD_lt (by omega),getD_lt (by omega)]at this
   exact tr h1 this
theorem Jl {l:List Int}:Srt l↔l.Pairwise (· ≤ ·):=by
 rw [dF (d:=default) (R:=fun a b:Int=>a≤b) (fun h1 h2=>Int.le_trans h1 h2)]
 unfold Srt
 constructor
 ·intro h i h1 h2
  have:=h (i-1) (by omega) (by omega)
  dsimp only at this
  rw [show i-1+1=i by omega]at this;exact this
 ·intro h i h1 h2
  have:=h (i+1) (by omega) (by omega)
  rw [show i+1-1=i by omega]at this;exact this
theorem dV {a b c:aj} (h1:lt a b) (h2:lt b c):lt a c:=AU (le_of_lt h1) h2
def aok (l:List Int):Prop:=l.Pairwise (· ≤ ·)∧∀k∈l,0≤k∧k≤199
theorem fF {p:List aj}:aG p↔Nf p∧p.length≤12∧∀m∈p,m.atoms.length≤4∧aok m.atoms:=by
 constructor
 ·rintro⟨h1,h2,h3,h4⟩
  have h1':∀m∈p,mOk m:=mK (d:=default) (G:=mOk).1 (fun i g1 g2=>(h1 i g1 g2).1)
  have h4':∀m∈p,¬(0<m.atoms.length∧m.atoms.getD 0 default<0):=mK (d:=default) (G:=fun m:aj=>¬(0<m.atoms.length∧m.atoms.getD 0 default<0)).1 h4
  refine⟨⟨(dF (d:=default) (R:=lt) dV).2 fun i g1 g2=>(h1 i (by omega) g2).2 g1,fun m hm=>(h1' m hm).1⟩,h2,fun m hm=>⟨(h1' m hm).2.1,Jl.1 (h1' m hm).2.2,fun k hk=>⟨?_,by have:=cu.1 h3 m hm k hk;omega⟩⟩⟩
  have hs:=Jl.1 (h1' m hm).2.2
  have hn:=h4' m hm
  cases ha:m.atoms with
  | nil=>rw [ha]at hk;exact absurd hk (by simp)
  | cons b l=>
   rw [ha]at hk hs hn
   simp at hn
   rcases List.mem_cons.1 hk with rfl | hk
   ·exact hn
   ·have:=List.rel_of_pairwise_cons hs hk;omega
 ·rintro⟨h1,h2,h3⟩
  refine⟨fun i g1 g2=>⟨⟨h1.co _ (eD g1 g2),(h3 _ (eD g1 g2)).1,Jl.2 (h3 _ (eD g1 g2)).2.1⟩,fun g3=>(dF (d:=default) (R:=lt) dV).1 h1.ss i g3 g2⟩,h2,cu.2 fun m hm k hk=>by have:=((h3 m hm).2.2 k hk);omega,?_⟩
  refine mK (d:=default) (G:=fun m:aj=>¬(0<m.atoms.length∧m.atoms.getD 0 default<0)).2 fun m hm=> ?_
  rintro⟨g1,g2⟩
  have:=(h3 m hm).2.2 _ (eD (i:=0) (d:=default) (xs:=m.atoms) (by omega) (by omega))
  rw [show Int.toNat 0=0 from rfl]at this;omega
theorem Xk {l:List aj} {k:List Int} (h:cf l k≠0):∃m∈l,m.atoms=k:=Classical.byContradiction fun h2=>h (jI fun m hm e=>h2 ⟨m,hm,e⟩)
theorem Nf.cf {o:List aj} (h:Nf o) {m:aj} (hm:m∈o):cf o m.atoms=m.bH:=by
 induction o with
 | nil=>exact absurd hm (by simp)
 | cons a o ih=>
  rw [cB]
  rcases List.mem_cons.1 hm with rfl | hm
  ·rw [if_pos rfl,jI (fun m' hm'=>((List.rel_of_pairwise_cons h.ss hm').ne).symm)];omega
  ·rw [if_neg (List.rel_of_pairwise_cons h.ss hm).ne,ih ⟨h.ss.tail,fun m hm=>h.co m (by simp [hm])⟩ hm];omega
theorem Nf.from {o l:List aj} (h:Nf o) (h2:∀k,F.cf o k=F.cf l k%65536) {m:aj} (hm:m∈o):∃m'∈l,m'.atoms=m.atoms:=by
 refine Xk fun e=> ?_
 have:=h2 m.atoms
 rw [h.cf hm,e]at this
 have:=h.co m hm;omega
theorem Nf.bnd {o:List aj} (h:Nf o) (k:List Int):0≤F.cf o k∧F.cf o k≤65535:=by
 by_cases e:F.cf o k=0
 ·omega
 ·obtain⟨m,hm,rfl⟩:=Xk e
  rw [h.cf hm];have:=h.co m hm;omega
theorem ZV {l o:List aj} (h:Nf o) (h2:∀k,F.cf o k=F.cf l k%65536) (h3:∀m∈l,aok m.atoms):
  yO l=(decide (o.length≤12∧∀m∈o,m.atoms.length≤4),if o.length≤12∧∀m∈o,m.atoms.length≤4 then o else []):=by
 unfold yO
 rw [Xi h h2]
 by_cases c:o.length≤12∧∀m∈o,m.atoms.length≤4
 ·have:aG o:=fF.2 ⟨h,c.1,fun m hm=>⟨c.2 m hm,by obtain⟨m',g1,g2⟩:=h.from h2 hm;rw [←g2];exact h3 m' g1⟩⟩
  rw [bZ this,decide_eq_true c,if_pos rfl,if_pos c]
 ·have:¬aG o:=fun g=>c ⟨(fF.1 g).2.1,fun m hm=>((fF.1 g).2.2 m hm).1⟩
  rw [gG this,decide_eq_false c,if_neg (by simp),if_neg c]
end Go.TX.F
namespace Go.TX.F
open Go Go.AE Go.TX
theorem Xl (a b c:Int):N7 (std 0) (a,b,c,()) (fun y=>y=(inB a b c,())):=by
 dsimp only [N7,Alg.cl,Alg.cg,Alg.rb,Alg.bd,Alg.l1,Tup.q,Tup.o]
 simp (disch:=omega) only [RR]
 rfl
theorem Xm (a:Int):OB (std 0) (a,()) (fun y=>y=(inB a 0 65535,())):=by
 dsimp only [OB,Alg.cl,Alg.cg,Alg.rb,Alg.bd,Alg.l1,Tup.q,Tup.o]
 simp (disch:=omega) only [RR]
 refine congrArg (fun b=>(b,())) ?_
 rw [Bool.eq_iff_iff,fC,Bool.and_eq_true,decide_eq_true_eq,decide_eq_true_eq];omega
theorem aeW {p1:Int×Int×Int×Unit→Bool} {f1:Int×Int×Int×Unit→Bool×Unit} (hp1:∀a b c,p1 (a,b,c,())=true) (hf1:∀a b c,f1 (a,b,c,())=(inB a b c,())) (a:Int):
  N8 (std 0) p1 f1 (a,()) (fun y=>y=(aQ a,())):=by
 dsimp only [N8,Alg.cl,Alg.cg,Alg.rb,Alg.bd,Alg.l1,Tup.q,Tup.o]
 simp (disch:=omega) only [RR,hp1,hf1,fC,vV]
 unfold aQ
 exact⟨fun h=>by rw [if_neg (by omega)],fun h=>by rw [if_pos (by omega)]⟩
theorem aeX {p1:Int×Int×Int×Unit→Bool} {f1:Int×Int×Int×Unit→Bool×Unit} (hp1:∀a b c,p1 (a,b,c,())=true) (hf1:∀a b c,f1 (a,b,c,())=(inB a b c,())) (a:Int):
  Oq (std 0) p1 f1 (a,()) (fun y=>y=(gV a,())):=by
 dsimp only [Oq,Alg.cl,Alg.cg,Alg.rb,Alg.bd,Alg.l1,Tup.q,Tup.o]
 simp (disch:=omega) only [RR,hp1,hf1,fC,vV]
 unfold gV
 exact⟨fun h=>by rw [if_neg (by omega)],fun h=>by rw [if_pos (by omega)]⟩
theorem Xo (a:Int):a.tmod 65536=if 0≤a then a%65536 else- (-a%65536):=by
 split
 ·rw [Int.tmod_eq_emod_of_nonneg (by omega)]
 ·have:=Int.neg_tmod (-a) 65536
  rw [Int.neg_neg]at this;rw [this,Int.tmod_eq_emod_of_nonneg (by omega)]
theorem Xp (a:Int):Od (std 0) (a,()) (fun y=>y=(a%65536,())):=by
 dsimp only [Od,Alg.cl,Alg.cg,Alg.rb,Alg.bd,Alg.l1,Tup.q,Tup.o]
 simp only [Xd]
 by_cases h:0≤a
 ·rw [show a.tmod 65536=a%65536 by rw [Xo,if_pos h]]
  simp (disch:=omega) only [RR]
  refine⟨by omega,fun h2=> ?_⟩
  exfalso;omega
 ·rw [show a.tmod 65536= - (-a%65536) by rw [Xo,if_neg h]]
  simp (disch:=omega) only [RR]
  refine⟨by omega,fun h2=> ?_,fun h2=> ?_⟩
  ·rw [show-(-a%65536)+65536=a%65536 by omega]
  ·rw [show-(-a%65536)=a%65536 by omega]
theorem Xq (a b:List Int) (ha:a.length<1000000000):Ob (std 0) (a,b,()) (fun y=>y=(fQ a b,())):=by
 dsimp only [Ob,Alg.cl,Alg.cg,Alg.rb,Alg.bd,Alg.l1,Tup.q,Tup.o]
 simp (disch:=omega) only [RR]
 refine⟨fun h=>⟨fun h1=> ?_,fun h1=> ?_⟩,fun h=> ?_⟩
 ·rw [show fQ a b= -1 by(have e:fP a.length b.length= -1:=by unfold fP;rw [if_pos h1]);unfold fQ or2;rw [e];rfl]
 ·rw [show fQ a b=1 by(have e:fP a.length b.length=1:=by unfold fP;rw [if_neg h1,if_pos (by omega)]);unfold fQ or2;rw [e];rfl]
 have hl:a.length=b.length:=by omega
 have e0:fQ a b=jH a b:=by unfold fQ or2;rw [iG.2 (by omega),if_neg (by simp)]
 refine ay (fun(y:List Int×List Int×Int×Unit)=>y.1=a∧y.2.1=b∧0≤y.2.2.1∧y.2.2.1≤a.length∧fQ a b=jH (a.drop y.2.2.1.toNat) (b.drop y.2.2.1.toNat)) (fun y=>(a.length-y.2.2.1).toNat) ⟨rfl,rfl,by simp,by simp,by simpa using e0⟩ ?_
 rintro⟨(l1:List Int),(l2:List Int),(i:Int),⟨⟩⟩ hI
 dsimp only at hI ⊢
 obtain⟨rfl,rfl,h1,h2,h3⟩:=hI
 simp (disch:=omega) only [RR]
 refine⟨fun h4=> ?_,fun h4=> ?_⟩
 ·have e:=zT l1 l2 i.toNat (by omega) (by omega)
  rw [getD_lt (by omega),getD_lt (by omega)]
  refine⟨by omega,by omega,by omega,by omega,fun h5=> ?_,fun h5=>⟨by omega,by omega,by omega,by omega,fun h6=> ?_,fun h6=>⟨⟨by omega,by omega,?_⟩,by omega⟩⟩⟩
  ·rw [h3,e,show fP l1[i.toNat] l2[i.toNat]= -1 by unfold fP;rw [if_pos h5]];rfl
  ·rw [h3,e,show fP l1[i.toNat] l2[i.toNat]=1 by unfold fP;rw [if_neg h5,if_pos h6]];rfl
  ·rw [h3,e,show fP l1[i.toNat] l2[i.toNat]=0 by unfold fP;rw [if_neg h5,if_neg h6],show(i+1).toNat=i.toNat+1 by omega];rfl
 ·rw [h3,List.drop_eq_nil_of_le (by omega),List.drop_eq_nil_of_le (by omega)];rfl
theorem aeY {p1:Int×Int×Int×Unit→Bool} {f1:Int×Int×Int×Unit→Bool×Unit} (hp1:∀a b c,p1 (a,b,c,())=true) (hf1:∀a b c,f1 (a,b,c,())=(inB a b c,())) (m:aj) (hm:m.atoms.length<1000000000):
  Oa (std 0) p1 f1 (m,()) (fun y=>y=(bp ((1≤m.bH∧m.bH≤65535)∧m.atoms.length≤4∧aok m.atoms),())):=by
 dsimp only [Oa,Alg.cl,Alg.cg,Alg.rb,Alg.bd,Alg.l1,Tup.q,Tup.o]
 simp (disch:=omega) only [RR,hp1,hf1,fC,vV]
 refine⟨fun h=> ?_,fun⟨h1,h2⟩=> ?_⟩
 ·rw [gG];rintro⟨g1,g2,g3⟩;omega
 refine ay (fun(y:Int×aj×Unit)=>y.2.1=m∧0≤y.1∧y.1≤m.atoms.length∧All y.1 (fun i=>(0≤m.atoms.getD i.toNat default∧m.atoms.getD i.toNat default≤199)∧(0<i→m.atoms.getD (i-1).toNat default≤m.atoms.getD i.toNat default))) (fun y=>(m.atoms.length-y.1).toNat) ⟨rfl,by simp,by simp,All.zero⟩ ?_
 rintro⟨(i:Int),(m':aj),⟨⟩⟩ hI
 dsimp only at hI ⊢
 obtain⟨rfl,h3,h4,h5⟩:=hI
 simp (disch:=omega) only [RR,hp1,hf1,fC,vV]
 refine⟨fun h6=>⟨by omega,by omega,by by_cases c:0<i;(· right;omega);(· left;simp [c]),by by_cases c:0<i;(· right;omega);(· left;simp [c]),by omega,by omega,fun h7=> ?_,fun h7=>⟨⟨by omega,by omega,h5.snoc ⟨h7.1,fun c=> ?_⟩⟩,by omega⟩⟩,fun h6=> ?_⟩
 ·rw [gG];rintro⟨g1,g2,g3,g4⟩
  rcases h7 with h7 | ⟨h7,h8⟩
  ·exact h7 (g4 _ (eD h3 h6))
  ·have:=(dF (d:=default) (R:=fun a b:Int=>a≤b) (fun h1 h2=>Int.le_trans h1 h2)).1 g3 i h7 h6;omega
 ·have:=h7.2;rw [decide_eq_true c,Bool.true_and,decide_eq_false_iff_not]at this;omega
 ·have h8:=h5.le (by omega:(m'.atoms.length:Int)≤i)
  rw [bZ]
  refine⟨by omega,by omega,(dF (d:=default) (R:=fun a b:Int=>a≤b) (fun h1 h2=>Int.le_trans h1 h2)).2 fun j j1 j2=>(h8 j (by omega) j2).2 j1,mK (d:=default) (G:=fun k:Int=>0≤k∧k≤199).1 fun j j1 j2=>(h8 j j1 j2).1⟩
theorem aeZ {p1:aj×Unit→Bool} {f1:aj×Unit→Bool×Unit} (hp1:∀m:aj,m.atoms.length<1000000000→p1 (m,())=true) (hf1:∀m:aj,m.atoms.length<1000000000→f1 (m,())=(bp ((1≤m.bH∧m.bH≤65535)∧m.atoms.length≤4∧aok m.atoms),()))
  {p4:List Int×List Int×Unit→Bool} {f4:List Int×List Int×Unit→Int×Unit} (hp4:∀a b,a.length<1000000000→p4 (a,b,())=true) (hf4:∀a b,a.length<1000000000→f4 (a,b,())=(fQ a b,()))
  (a:List aj) (ha:Sh a):Oc (std 0) p1 f1 p4 f4 (a,()) (fun y=>y=(bp (aG a),())):=by
 have hlen:=ha.1
 dsimp only [Oc,Alg.cl,Alg.cg,Alg.rb,Alg.bd,Alg.l1,Tup.q,Tup.o]
 simp (disch:=omega) only [RR]
 refine⟨fun h=> ?_,fun h=> ?_⟩
 ·rw [gG (fun h2=>by have:=h2.len;omega)]
 refine ay (fun(y:Int×List aj×Unit)=>y.2.1=a∧0≤y.1∧y.1≤a.length∧All y.1 (fun i=>((1≤((a).getD (i).toNat default).bH∧((a).getD (i).toNat default).bH≤65535)∧((a).getD (i).toNat default).atoms.length≤4∧aok ((a).getD (i).toNat default).atoms)∧(0<i→lt ((a).getD (i-1).toNat default) ((a).getD (i).toNat default)))) (fun y=>(a.length-y.1).toNat) ⟨rfl,by simp,by simp,All.zero⟩ ?_
 rintro⟨(i:Int),(l':List aj),⟨⟩⟩ hI
 dsimp only at hI ⊢
 obtain⟨rfl,h1,h2,h3⟩:=hI
 simp (disch:=omega) only [RR,hp1 _ (ha.at _),hf1 _ (ha.at _),hp4 _ _ (ha.at _),hf4 _ _ (ha.at _),bO,qU]
 refine⟨fun h4=>⟨by omega,by omega,by by_cases c:0<i;(· right;omega);(· left;simp [c]),by by_cases c:0<i;(· right;omega);(· left;simp [c]),by omega,by omega,fun h5=> ?_,fun h5=>⟨⟨by omega,by omega,h3.snoc ⟨h5.1,fun c=> ?_⟩⟩,by omega⟩⟩,fun h4=> ?_⟩
 ·rw [gG (fun h=> ?_)]
  obtain⟨g1,g2,g3⟩:=fF.1 h
  rcases h5 with h5 | ⟨h5,h6⟩
  ·exact h5 ⟨g1.co _ (eD h1 h4),g3 _ (eD h1 h4)⟩
  ·have:=(dF (d:=default) (R:=lt) dV).1 g1.ss i h5 h4
   unfold lt at this;omega
 ·have:=h5.2;rw [decide_eq_true c,Bool.true_and,decide_eq_false_iff_not]at this;unfold lt;omega
 ·have h8:=h3.le (by omega:(l'.length:Int)≤i)
  rw [bZ]
  have h9:=mK (d:=default) (G:=fun m:aj=>(1≤m.bH∧m.bH≤65535)∧m.atoms.length≤4∧aok m.atoms).1 fun j j1 j2=>(h8 j j1 j2).1
  exact fF.2 ⟨⟨(dF (d:=default) (R:=lt) dV).2 fun j j1 j2=>(h8 j (by omega) j2).2 j1,fun m hm=>(h9 m hm).1⟩,by omega,fun m hm=>(h9 m hm).2⟩
end Go.TX.F
namespace Go.TX.F
open Go Go.AE Go.TX
theorem Xr (a:List aj) (n:Int) (ha:Sh a):OW (std 0) (a,n,()) (fun y=>y=(bp (aW a n),())):=by
 have hlen:=ha.1
 dsimp only [OW,Alg.cl,Alg.cg,Alg.rb,Alg.bd,Alg.l1,Tup.q,Tup.o]
 simp (disch:=omega) only [RR]
 refine ay (fun(y:Int×Int×List aj×Unit)=>y.1=n∧y.2.2.1=a∧0≤y.2.1∧y.2.1≤a.length∧All y.2.1 (fun i=>Ji n ((a).getD (i).toNat default))) (fun y=>(a.length-y.2.1).toNat) ⟨rfl,rfl,by simp,by simp,All.zero⟩ ?_
 rintro⟨(n':Int),(i:Int),(l:List aj),⟨⟩⟩ hI
 dsimp only at hI ⊢
 obtain⟨rfl,rfl,h1,h2,h3⟩:=hI
 simp (disch:=omega) only [RR]
 refine⟨fun h4=> ?_,fun h4=> ?_⟩
 ·have h5:=ha.at i.toNat
  refine ay (fun(y:Int×Int×Int×List aj×Unit)=>y.1=n'∧y.2.1=i∧y.2.2.2.1=l∧0≤y.2.2.1∧y.2.2.1≤((l).getD (i).toNat default).atoms.length∧All y.2.2.1 (fun j=>¬n'≤((l).getD (i).toNat default).atoms.getD j.toNat default)) (fun y=>(((l).getD (i).toNat default).atoms.length-y.2.2.1).toNat) ⟨rfl,rfl,rfl,by simp,by simp,All.zero⟩ ?_
  rintro⟨(n'':Int),(i':Int),(j:Int),(l':List aj),⟨⟩⟩ hI
  dsimp only at hI ⊢
  obtain⟨rfl,rfl,rfl,g1,g2,g3⟩:=hI
  simp (disch:=omega) only [RR]
  refine⟨by omega,by omega,fun g4=>⟨by omega,by omega,by omega,by omega,fun g5=> ?_,fun g5=>⟨⟨by omega,by omega,g3.snoc g5⟩,by omega⟩⟩,fun g4=>⟨⟨by omega,by omega,h3.snoc (g3.le (by omega))⟩,by omega⟩⟩
  rw [gG (fun h=>h i' h1 h4 j g1 g4 g5)]
 ·rw [bZ (show aW l n' from h3.le (by omega))]
theorem ae0 {p4:List Int×List Int×Unit→Bool} {f4:List Int×List Int×Unit→Int×Unit} (hp4:∀a b,a.length<1000000000→p4 (a,b,())=true) (hf4:∀a b,a.length<1000000000→f4 (a,b,())=(fQ a b,()))
  (a b:List aj) (ha:Sh a):OJ (std 0) p4 f4 (a,b,()) (fun y=>y=(eu a b,())):=by
 have hlen:=ha.1
 dsimp only [OJ,Alg.cl,Alg.cg,Alg.rb,Alg.bd,Alg.l1,Tup.q,Tup.o]
 simp (disch:=omega) only [RR]
 refine⟨fun h=>⟨fun h1=> ?_,fun h1=> ?_⟩,fun h=> ?_⟩
 ·rw [show eu a b= -1 by(have e:fP a.length b.length= -1:=by unfold fP;rw [if_pos h1]);unfold eu;rw [e];rfl]
 ·rw [show eu a b=1 by(have e:fP a.length b.length=1:=by unfold fP;rw [if_neg h1,if_pos (by omega)]);unfold eu;rw [e];rfl]
 have hl:a.length=b.length:=by omega
 have e0:eu a b=vC a b:=by unfold eu;rw [iG.2 (by omega),if_neg (by simp)]
 refine ay (fun(y:Int×List aj×List aj×Unit)=>y.2.1=a∧y.2.2.1=b∧0≤y.1∧y.1≤a.length∧eu a b=vC (a.drop y.1.toNat) (b.drop y.1.toNat)) (fun y=>(a.length-y.1).toNat) ⟨rfl,rfl,by simp,by simp,by simpa using e0⟩ ?_
 rintro⟨(i:Int),(l:List aj),(l':List aj),⟨⟩⟩ hI
 dsimp only at hI ⊢
 obtain⟨rfl,rfl,h1,h2,h3⟩:=hI
 simp (disch:=omega) only [RR,hp4 _ _ (ha.at _),hf4 _ _ (ha.at _)]
 refine⟨fun h4=> ?_,fun h4=> ?_⟩
 ·have e:=zV l l' i.toNat (by omega) (by omega)
  rw [getD_lt (by omega),getD_lt (by omega)]
  generalize hu:l[i.toNat]=u at e ⊢
  generalize hv:l'[i.toNat]=v at e ⊢
  have em:Bl u v=if fQ u.atoms v.atoms≠0 then fQ u.atoms v.atoms else fP u.bH v.bH:=rfl
  refine⟨by omega,by omega,by omega,by omega,fun h5=> ?_,fun h5=>⟨by omega,by omega,by omega,by omega,fun h6=>⟨by omega,by omega,by omega,by omega,fun h7=> ?_,fun h7=> ?_⟩,fun h6=>⟨⟨by omega,by omega,?_⟩,by omega⟩⟩⟩
  ·rw [if_pos h5]at em
   rw [h3,e,em,if_pos h5]
  ·rw [if_neg (by simpa using h5),show fP u.bH v.bH= -1 by unfold fP;rw [if_pos h7]]at em
   rw [h3,e,em];rfl
  ·rw [if_neg (by simpa using h5),show fP u.bH v.bH=1 by unfold fP;rw [if_neg h7,if_pos (by omega)]]at em
   rw [h3,e,em];rfl
  ·rw [if_neg (by simpa using h5),iG.2 h6]at em
   rw [h3,e,em,show(i+1).toNat=i.toNat+1 by omega];rfl
 ·rw [h3,List.drop_eq_nil_of_le (by omega)];rfl
theorem Xt (a:Atom):OV (std 0) (a,()) (fun y=>y=(bp (a.x=[]∧a.y=[]),())):=by
 dsimp only [OV,Alg.cl,Alg.cg,Alg.rb,Alg.bd,Alg.l1,Tup.q,Tup.o]
 simp (disch:=omega) only [RR]
 refine congrArg (fun b=>(b,())) ?_
 rw [Bool.eq_iff_iff,bO,Bool.and_eq_true,decide_eq_true_eq,decide_eq_true_eq]
 constructor
 ·rintro⟨h1,h2⟩;exact⟨List.eq_nil_of_length_eq_zero (by omega),List.eq_nil_of_length_eq_zero (by omega)⟩
 ·rintro⟨h1,h2⟩;rw [h1,h2];exact⟨rfl,rfl⟩
theorem ae1 {p1:Int×Int×Int×Unit→Bool} {f1:Int×Int×Int×Unit→Bool×Unit} (hp1:∀a b c,p1 (a,b,c,())=true) (hf1:∀a b c,f1 (a,b,c,())=(inB a b c,()))
  {p4:List aj×Unit→Bool} {f4:List aj×Unit→Bool×Unit} (hp4:∀a,Sh a→p4 (a,())=true) (hf4:∀a,Sh a→f4 (a,())=(bp (aG a),()))
  {p3:List aj×Int×Unit→Bool} {f3:List aj×Int×Unit→Bool×Unit} (hp3:∀a n,Sh a→p3 (a,n,())=true) (hf3:∀a n,Sh a→f3 (a,n,())=(bp (aW a n),()))
  {p5:Atom×Unit→Bool} {f5:Atom×Unit→Bool×Unit} (hp5:∀a,p5 (a,())=true) (hf5:∀a,f5 (a,())=(bp (a.x=[]∧a.y=[]),())) (a:Atom) (n:Int) (ha:ShA a):
  OX (std 0) p1 f1 p4 f4 p3 f3 p5 f5 (a,n,()) (fun y=>y=(bp (iO a n),())):=by
 obtain⟨hx,hy⟩:=ha
 dsimp only [OX,Alg.cl,Alg.cg,Alg.rb,Alg.bd,Alg.l1,Tup.q,Tup.o]
 simp (disch:=omega) only [RR,hp1,hf1,hp5,hf5,hp3 a.x n hx,hf3 a.x n hx,hp3 a.y n hy,hf3 a.y n hy,hp4 a.x hx,hf4 a.x hx,hp4 a.y hy,hf4 a.y hy]
 unfold iO
 have E:∀(b:Bool) (P:Prop),(b=true↔P)→(b,())=(bp P,()):=fun b P h=>by
  rw [show b=bp P from Bool.eq_iff_iff.2 (h.trans bO.symm)]
 have T:∀ {P:Prop},¬P→(false,())=(bp P,()):=fun h=>by rw [gG h]
 refine⟨fun h=>E _ _ ?_,fun h=>⟨fun h1=>⟨fun _=>E _ _ ?_,fun h'=>absurd h1 h'⟩,fun h1=>⟨fun h2=>E _ _ ?_,fun h2=>⟨fun h3=>E _ _ ?_,fun h3=>T ?_⟩⟩⟩⟩
 ·rw [if_neg (by omega),Bool.and_eq_true,fC,bO]
  constructor
  ·rintro⟨g1,g2⟩;exact⟨g2,Or.inl ⟨h,g1⟩⟩
  ·rintro⟨g2,⟨_,g1⟩ | ⟨g3,g1⟩⟩
   ·exact⟨g1,g2⟩
   ·omega
 ·rw [if_neg (by omega),Bool.and_eq_true,fC,bO]
  constructor
  ·rintro⟨g1,g2⟩;exact⟨g2,Or.inr ⟨Or.inl h1,g1⟩⟩
  ·rintro⟨g2,⟨_,g1⟩ | ⟨g3,g1⟩⟩
   ·omega
   ·exact⟨g1,g2⟩
 ·rw [if_neg (by omega),Bool.and_eq_true,fC,bO]
  constructor
  ·rintro⟨g1,g2⟩;exact⟨g2,Or.inr ⟨Or.inr h2,g1⟩⟩
  ·rintro⟨g2,⟨_,g1⟩ | ⟨g3,g1⟩⟩
   ·omega
   ·exact⟨g1,g2⟩
 ·rw [if_pos h3]
  simp only [Bool.and_eq_true,fC,bO,and_assoc]
 ·rw [if_neg h3]
  rintro⟨_,⟨g,_⟩ | ⟨g,_⟩⟩<;>omega
theorem ae2 {p1:List aj×List aj×Unit→Bool} {f1:List aj×List aj×Unit→Int×Unit} (hp1:∀a b,Sh a→p1 (a,b,())=true) (hf1:∀a b,Sh a→f1 (a,b,())=(eu a b,())) (a b:Atom) (ha:ShA a):
  OY (std 0) p1 f1 (a,b,()) (fun y=>y=(FQ a b,())):=by
 dsimp only [OY,Alg.cl,Alg.cg,Alg.rb,Alg.bd,Alg.l1,Tup.q,Tup.o]
 simp (disch:=omega) only [RR,hp1 a.x b.x ha.1,hf1 a.x b.x ha.1,hp1 a.y b.y ha.2,hf1 a.y b.y ha.2]
 rfl
theorem Xu (G:Int→Prop):∀n:Nat,∃r,Idx n G r
 | 0=>⟨-1,Or.inl ⟨rfl,All.zero⟩⟩
 | n+1=>by
  obtain⟨r,h⟩:=Xu G n
  rcases h with⟨h1,h2⟩ | ⟨h1,h2,h3,h4⟩
  ·by_cases g:G n
   ·exact⟨n,Or.inr ⟨by omega,by omega,g,h2⟩⟩
   ·exact⟨-1,Or.inl ⟨rfl,by have:=h2.snoc g;exact this.le (by omega)⟩⟩
  ·exact⟨r,Or.inr ⟨h1,by omega,h3,h4⟩⟩
theorem QL (G:Int→Prop) (n:Nat):Idx n G (idxOf n G):=by
 obtain⟨r,h⟩:=Xu G n
 rw [←h.eq];exact h
theorem jf (t:List Atom) (a:Atom):Idx t.length (fun i=>a=t.getD i.toNat default) (yN t a):=by
 have:=QL (fun i=>FQ a (t.getD i.toNat default)=true) t.length
 simp only [kY]at this
 unfold yN;simp only [kY];exact this
theorem kZ {t:List Atom}:aF t↔All t.length (fun i=>iO (t.getD i.toNat default) i∧All i (fun j=>¬t.getD i.toNat default=t.getD j.toNat default))∧t.length≤200:=by
 unfold aF
 refine and_congr ⟨fun h i h1 h2=>⟨(h i h1 h2).1,?_⟩,fun h i h1 h2=>⟨(h i h1 h2).1,?_⟩⟩ Iff.rfl
 ·have:=jf t (t.getD i.toNat default)
  rw [(h i h1 h2).2]at this
  rcases this with⟨g1,_⟩ | ⟨_,_,_,g⟩
  ·omega
  ·exact g
 ·exact((jf t (t.getD i.toNat default)).uniq (Or.inr ⟨h1,h2,rfl,(h i h1 h2).2⟩))
theorem ae3 {p1:Atom×Int×Unit→Bool} {f1:Atom×Int×Unit→Bool×Unit} (hp1:∀a n,ShA a→p1 (a,n,())=true) (hf1:∀a n,ShA a→f1 (a,n,())=(bp (iO a n),()))
  {p2:Atom×Atom×Unit→Bool} {f2:Atom×Atom×Unit→Bool×Unit} (hp2:∀a b,ShA a→p2 (a,b,())=true) (hf2:∀a b,ShA a→f2 (a,b,())=(FQ a b,())) (a:List Atom) (ha:ShT a):
  OZ (std 0) p1 f1 p2 f2 (a,()) (fun y=>y=(bp (aF a),())):=by
 have hlen:=ha.1
 dsimp only [OZ,Alg.cl,Alg.cg,Alg.rb,Alg.bd,Alg.l1,Tup.q,Tup.o]
 simp (disch:=omega) only [RR]
 refine⟨fun h=> ?_,fun h=> ?_⟩
 ·rw [gG (fun h2=>by have:=h2.2;omega)]
 refine ay (fun(y:Int×List Atom×Unit)=>y.2.1=a∧0≤y.1∧y.1≤a.length∧All y.1 (fun i=>iO ((a).getD (i).toNat default) i∧All i (fun j=>¬((a).getD (i).toNat default)=((a).getD (j).toNat default)))) (fun y=>(a.length-y.1).toNat) ⟨rfl,by simp,by simp,All.zero⟩ ?_
 rintro⟨(i:Int),(l:List Atom),⟨⟩⟩ hI
 dsimp only at hI ⊢
 obtain⟨rfl,h1,h2,h3⟩:=hI
 simp (disch:=omega) only [RR,hp1 _ _ (ha.at _),hf1 _ _ (ha.at _),bO,qU]
 refine⟨fun h4=>⟨by omega,by omega,fun h5=> ?_,fun h5=> ?_⟩,fun h4=> ?_⟩
 ·rw [gG (fun h=>h5 (h.1 i h1 h4).1)]
 ·refine ay (fun(y:Int×Int×List Atom×Unit)=>y.1=i∧y.2.2.1=l∧0≤y.2.1∧y.2.1≤i∧All y.2.1 (fun j=>¬((l).getD (i).toNat default)=((l).getD (j).toNat default))) (fun y=>(i-y.2.1).toNat) ⟨rfl,rfl,by simp,by simp;omega,All.zero⟩ ?_
  rintro⟨(i':Int),(j:Int),(l':List Atom),⟨⟩⟩ hI
  dsimp only at hI ⊢
  obtain⟨rfl,rfl,g1,g2,g3⟩:=hI
  simp (disch:=omega) only [RR,hp2 _ _ (ha.at _),hf2 _ _ (ha.at _)]
  refine⟨fun g4=>⟨by omega,by omega,by omega,by omega,fun g5=> ?_,fun g5=>⟨⟨by omega,by omega,g3.snoc ?_⟩,by omega⟩⟩,fun g4=>⟨⟨by omega,by omega,h3.snoc ⟨h5,g3.le (by omega)⟩⟩,by omega⟩⟩
  ·rw [gG (fun h=>((kZ.1 h).1 i' h1 h4).2 j g1 g4 (kY.1 g5).symm)]
  ·intro e;rw [kY.2 e.symm]at g5;cases g5
 ·rw [bZ (kZ.2 ⟨h3.le (by omega),by omega⟩)]
theorem ae4 {p1:Int×Unit→Bool} {f1:Int×Unit→Bool×Unit} (hp1:∀a,p1 (a,())=true) (hf1:∀a,f1 (a,())=(inB a 0 65535,()))
  {p2:Int×Unit→Bool} {f2:Int×Unit→Int×Unit} (hp2:∀a,p2 (a,())=true) (hf2:∀a,f2 (a,())=(a%65536,())) (op a b:Int):
  Pn (std 0) p2 f2 p1 f1 (op,a,b,()) (fun y=>y=(wdo op a b,())):=by
 dsimp only [Pn,Alg.cl,Alg.cg,Alg.rb,Alg.bd,Alg.l1,Tup.q,Tup.o]
 simp (disch:=omega) only [RR,hp1,hf1,hp2,hf2,aeU,Xh,fC,vV]
 by_cases ha:(0≤a∧a≤65535)∧(0≤b∧b≤65535)
 ·have hm:0≤a*b∧a*b≤65535*65535:=⟨Int.mul_nonneg ha.1.1 ha.2.1,Int.mul_le_mul ha.1.2 ha.2.2 ha.2.1 (by omega)⟩
  rw [w64 (x:=a+b) (by omega) (by omega),w64 (x:=a-b) (by omega) (by omega),w64 (x:=a*b) (by omega) (by omega)]
  unfold wdo
  rw [if_pos ha]
  refine⟨fun h=>absurd h (by omega),fun _=>⟨fun h=> ?_,fun h=>⟨fun h1=> ?_,fun h1=>⟨fun h2=> ?_,fun h2=>⟨fun h3=> ?_,fun h3=>⟨fun h4=> ?_,fun h4=> ?_⟩⟩⟩⟩⟩⟩<;>(subst_vars;first | rfl | simp only [if_true,if_false, *])
 ·refine⟨fun h=> ?_,fun h=>absurd h ?_⟩
  ·unfold wdo;rw [if_neg ha]
  ·exact ha
theorem ae5 {p1:List aj×Unit→Bool} {f1:List aj×Unit→Bool×Unit} (hp1:∀a,Sh a→p1 (a,())=true) (hf1:∀a,Sh a→f1 (a,())=(bp (aG a),())) (a:List aj) (ha:Sh a):
  OH (std 0) p1 f1 (a,()) (fun y=>y=((bK a).1,(bK a).2,())):=by
 dsimp only [OH,Alg.cl,Alg.cg,Alg.rb,Alg.bd,Alg.l1,Tup.q,Tup.o]
 simp (disch:=omega) only [RR,hp1 a ha,hf1 a ha]
 unfold bK
 have z:Int.toNat 0=0:=rfl
 rw [z]
 refine⟨fun h=> ?_,fun h=>⟨fun h1=> ?_,fun h1=>⟨by omega,by omega,fun h2=> ?_,fun h2=>⟨by omega,by omega,?_⟩⟩⟩⟩
 ·rw [if_neg (by simpa using h)]
 ·rw [if_pos h,if_pos (by omega)]
 ·rw [if_pos h,if_neg (by omega),if_neg (by omega)]
 ·rw [if_pos h,if_neg (by omega),if_pos (by omega)]
theorem Xv (a:List aj) (ha:Sh a):Og (std 0) (a,()) (fun y=>y=(a,())):=by
 have hlen:=ha.1
 dsimp only [Og,Alg.cl,Alg.cg,Alg.rb,Alg.bd,Alg.l1,Tup.q,Tup.o]
 simp (disch:=omega) only [RR]
 refine ay (fun(y:List aj×Int×List aj×Unit)=>y.1=a∧y.2.2.1=a.take y.2.1.toNat∧0≤y.2.1∧y.2.1≤a.length) (fun y=>(a.length-y.2.1).toNat) ⟨rfl,by simp,by simp,by simp⟩ ?_
 rintro⟨(l:List aj),(i:Int),(o:List aj),⟨⟩⟩ hI
 dsimp only at hI ⊢
 obtain⟨rfl,rfl,h1,h2⟩:=hI
 have h3:=ha.at i.toNat
 have h4:=List.length_take_le' i.toNat l
 simp (disch:=omega) only [RR]
 simp only [List.length_nil,List.nil_append,List.length_cons]
 refine⟨fun h4=>⟨by omega,by omega,by omega,by omega,Or.inr (by omega),by omega,by omega,⟨dL h1 h4 rfl,by omega,by omega⟩,by omega⟩,fun h4=>by rw [List.take_of_length_le (by omega)]⟩
end Go.TX.F
namespace Go.TX.F
open Go Go.AE Go.TX
def FU (l:List aj):Prop:=l.length≤12∧∀m∈l,m.atoms.length≤4
theorem ae6 {p1:List aj×Unit→Bool} {f1:List aj×Unit→List aj×Unit} (hp1:∀a,Sh a→p1 (a,())=true) (hf1:∀a,Sh a→f1 (a,())=(a,())) (a:List aj) (ha:Sh a):
  Oh (std 0) p1 f1 (a,()) (fun y=>y=(bp (FU a),if bp (FU a)then a else [],())):=by
 have hlen:=ha.1
 dsimp only [Oh,Alg.cl,Alg.cg,Alg.rb,Alg.bd,Alg.l1,Tup.q,Tup.o]
 simp (disch:=omega) only [RR]
 refine⟨fun h=> ?_,fun h=> ?_⟩
 ·rw [gG (fun h2=>by have:=h2.1;omega)];rfl
 refine ay (fun(y:List aj×Int×Unit)=>y.1=a∧0≤y.2.1∧y.2.1≤a.length∧All y.2.1 (fun i=>((a).getD (i).toNat default).atoms.length≤4)) (fun y=>(a.length-y.2.1).toNat) ⟨rfl,by simp,by simp,All.zero⟩ ?_
 rintro⟨(l:List aj),(i:Int),⟨⟩⟩ hI
 dsimp only at hI ⊢
 obtain⟨rfl,h1,h2,h3⟩:=hI
 simp (disch:=omega) only [RR,hp1 l ha,hf1 l ha]
 refine⟨fun h4=>⟨by omega,by omega,fun h5=> ?_,fun h5=>⟨⟨by omega,by omega,h3.snoc (by omega)⟩,by omega⟩⟩,fun h4=> ?_⟩
 ·rw [gG (fun h=>by have:=h.2 _ (eD (d:=default) h1 h4);omega)];rfl
 ·rw [bZ (show FU l from⟨by omega,mK (d:=default) (G:=fun m:aj=>m.atoms.length≤4).1 (h3.le (by omega))⟩)];rfl
theorem ae7 {p1:List aj×Unit→Bool} {f1:List aj×Unit→List aj×Unit} (hp1:∀a,Sh a→p1 (a,())=true) (hf1:∀a,Sh a→f1 (a,())=(a,())) (a:Atom) (ha:ShA a):
  O9 (std 0) p1 f1 (a,()) (fun y=>y=(a.kind,a.k,a.x,a.y,())):=by
 dsimp only [O9,Alg.cl,Alg.cg,Alg.rb,Alg.bd,Alg.l1,Tup.q,Tup.o]
 simp (disch:=omega) only [RR,hp1 a.x ha.1,hf1 a.x ha.1,hp1 a.y ha.2,hf1 a.y ha.2]
theorem ae8 {p1:Atom×Unit→Bool} {f1:Atom×Unit→Int×Int×List aj×List aj×Unit} (hp1:∀a,ShA a→p1 (a,())=true) (hf1:∀a,ShA a→f1 (a,())=(a.kind,a.k,a.x,a.y,())) (a:List Atom) (ha:ShT a):
  Pb (std 0) p1 f1 (a,()) (fun y=>y=(a,())):=by
 have hlen:=ha.1
 dsimp only [Pb,Alg.cl,Alg.cg,Alg.rb,Alg.bd,Alg.l1,Tup.q,Tup.o]
 simp (disch:=omega) only [RR]
 refine ay (fun(y:Int×List Atom×List Atom×Unit)=>y.2.1=a∧y.2.2.1=a.take y.1.toNat∧0≤y.1∧y.1≤a.length) (fun y=>(a.length-y.1).toNat) ⟨rfl,by simp,by simp,by simp⟩ ?_
 rintro⟨(i:Int),(l:List Atom),(o:List Atom),⟨⟩⟩ hI
 dsimp only at hI ⊢
 obtain⟨rfl,rfl,h1,h2⟩:=hI
 simp (disch:=omega) only [RR,hp1 _ (ha.at _),hf1 _ (ha.at _)]
 have h5:=List.length_take_le' i.toNat l
 refine⟨fun h4=>⟨by omega,by omega,?_,⟨dL h1 h4 rfl,by omega,by omega⟩,by omega⟩,fun h4=>by rw [List.take_of_length_le (by omega)]⟩
 simp only [List.length_cons,List.length_nil];omega
theorem uX {p:List aj} {n m:Int} (h:aW p n) (h2:n≤m):aW p m:=cu.2 fun a ha k hk=>by have:=cu.1 h a ha k hk;omega
theorem Xw {a:Atom} {n m:Int} (h:iO a n) (h2:n≤m):iO a m:=by
 unfold iO at h ⊢
 split
 ·rename_i h3;rw [if_pos h3]at h;exact⟨h.1,h.2.1,h.2.2.1,uX h.2.2.2.1 h2,uX h.2.2.2.2 h2⟩
 ·rename_i h3;rw [if_neg h3]at h;exact h
theorem ae9 {p1:Atom×Int×Unit→Bool} {f1:Atom×Int×Unit→Bool×Unit} (hp1:∀a n,ShA a→p1 (a,n,())=true) (hf1:∀a n,ShA a→f1 (a,n,())=(bp (iO a n),()))
  {p2:Atom×Atom×Unit→Bool} {f2:Atom×Atom×Unit→Bool×Unit} (hp2:∀a b,ShA a→p2 (a,b,())=true) (hf2:∀a b,ShA a→f2 (a,b,())=(FQ a b,()))
  {p3:Atom×Unit→Bool} {f3:Atom×Unit→Int×Int×List aj×List aj×Unit} (hp3:∀a,ShA a→p3 (a,())=true) (hf3:∀a,ShA a→f3 (a,())=(a.kind,a.k,a.x,a.y,()))
  (a:Atom) (t:List Atom) (ha:ShA a) (ht:ShT t) (hok:aF t):Ph (std 0) p1 f1 p2 f2 p3 f3 (a,t,()) (fun y=>y=((bM t a).2,(bM t a).1,())):=by
 have hlen:=ht.1
 dsimp only [Ph,Alg.cl,Alg.cg,Alg.rb,Alg.bd,Alg.l1,Tup.q,Tup.o]
 simp (disch:=omega) only [RR,hp1 _ _ ha,hf1 _ _ ha,bO,qU]
 have hsp:=jf t a
 refine⟨fun h=> ?_,fun h=> ?_⟩
 ·have:yN t a= -1:=by
   rcases hsp with⟨g,_⟩ | ⟨g1,g2,g3,_⟩
   ·exact g
   ·exfalso;apply h
    have:=(hok.1 _ g1 g2).1
    rw [←g3]at this;exact Xw this (by omega)
  unfold bM
  rw [this,if_neg (by omega),if_pos (Or.inl h)]
 refine ay (fun(y:Int×List Atom×Atom×Unit)=>y.2.1=t∧y.2.2.1=a∧0≤y.1∧y.1≤t.length∧All y.1 (fun i=>¬a=t.getD i.toNat default)) (fun y=>(t.length-y.1).toNat) ⟨rfl,rfl,by simp,by simp,All.zero⟩ ?_
 rintro⟨(i:Int),(l:List Atom),(a':Atom),⟨⟩⟩ hI
 dsimp only at hI ⊢
 obtain⟨rfl,rfl,h1,h2,h3⟩:=hI
 simp (disch:=omega) only [RR,hp2 _ _ (ht.at _),hf2 _ _ (ht.at _),hp3 _ ha,hf3 _ ha]
 refine⟨fun h4=>⟨by omega,by omega,by omega,by omega,fun h5=> ?_,fun h5=>⟨⟨by omega,by omega,h3.snoc ?_⟩,by omega⟩⟩,fun h4=> ?_⟩
 ·have e:=(kY.1 h5).symm
  have:yN l a'=i:=hsp.uniq (Or.inr ⟨h1,h4,e,h3⟩)
  unfold bM;rw [this,if_pos h1]
 ·intro e;rw [kY.2 e.symm]at h5;cases h5
 ·have:yN l a'= -1:=hsp.uniq (Or.inl ⟨rfl,h3.le (by omega)⟩)
  unfold bM;rw [this,if_neg (by omega)]
  refine⟨fun h5=> ?_,fun h5=>⟨?_,?_⟩⟩
  ·rw [if_pos (Or.inr (by omega))]
  ·simp only [List.length_cons,List.length_nil];omega
  ·rw [if_neg (by rintro(g | g);exact g h;omega),List.length_append]
   rw [w64 (by simp only [List.length_cons,List.length_nil];omega) (by simp only [List.length_cons,List.length_nil];omega)]
   simp only [List.length_cons,List.length_nil]
   rw [show(((l.length+(0+1):Nat):Int)-1)=l.length by omega]
def AV (op n:Int) (y:List aj):List aj×Bool:=if op=4∧n=0 then([],true)else if(op=4∧n=65535)∨(op=5∧n=0)then(y,true)else([],false)
theorem afa {p1:List aj×Unit→Bool} {f1:List aj×Unit→List aj×Unit} (hp1:∀a,Sh a→p1 (a,())=true) (hf1:∀a,Sh a→f1 (a,())=(a,())) (op n:Int) (y:List aj) (hy:Sh y):
  Po (std 0) p1 f1 (op,n,y,()) (fun z=>z=((AV op n y).2,(AV op n y).1,())):=by
 dsimp only [Po,Alg.cl,Alg.cg,Alg.rb,Alg.bd,Alg.l1,Tup.q,Tup.o]
 simp (disch:=omega) only [RR,hp1 y hy,hf1 y hy]
 unfold AV
 by_cases c1:op=4<;>by_cases c2:n=0<;>by_cases c3:n=65535<;>by_cases c4:op=5<;>simp [c1,c2,c3,c4]<;>omega
theorem Tq (op:Int) (x y:List aj):Gw op x y=if(bK x).2&& (bK y).2 then(aQ (wdo op (bK x).1 (bK y).1),true)
  else if eu x y=0 then(if op=4 then(x,true)else([],true))else if(bK x).2 then AV op (bK x).1 y else if(bK y).2 then AV op (bK y).1 x else([],false):=by
 unfold Gw AV
 by_cases c1:eu x y=0<;>by_cases c2:op=4<;>simp [c1,c2]
theorem afb {p1:List aj×List aj×Unit→Bool} {f1:List aj×List aj×Unit→Int×Unit} (hp1:∀a b,Sh a→p1 (a,b,())=true) (hf1:∀a b,Sh a→f1 (a,b,())=(eu a b,()))
  {p2:List aj×Unit→Bool} {f2:List aj×Unit→List aj×Unit} (hp2:∀a,Sh a→p2 (a,())=true) (hf2:∀a,Sh a→f2 (a,())=(a,()))
  {p3:Int×Int×Int×Unit→Bool} {f3:Int×Int×Int×Unit→Int×Unit} (hp3:∀op a b,p3 (op,a,b,())=true) (hf3:∀op a b,f3 (op,a,b,())=(wdo op a b,()))
  {p4:Int×Unit→Bool} {f4:Int×Unit→List aj×Unit} (hp4:∀n,p4 (n,())=true) (hf4:∀n,f4 (n,())=(aQ n,()))
  {p7:List aj×Unit→Bool} {f7:List aj×Unit→Int×Bool×Unit} (hp7:∀a,Sh a→p7 (a,())=true) (hf7:∀a,Sh a→f7 (a,())=((bK a).1,(bK a).2,()))
  {p8:Int×Int×List aj×Unit→Bool} {f8:Int×Int×List aj×Unit→Bool×List aj×Unit} (hp8:∀op n y,Sh y→p8 (op,n,y,())=true) (hf8:∀op n y,Sh y→f8 (op,n,y,())=((AV op n y).2,(AV op n y).1,()))
  (op:Int) (x y:List aj) (hx:Sh x) (hy:Sh y):Pp (std 0) p1 f1 p2 f2 p3 f3 p4 f4 p7 f7 p8 f8 (op,x,y,()) (fun z=>z=((Gw op x y).2,(Gw op x y).1,())):=by
 dsimp only [Pp,Alg.cl,Alg.cg,Alg.rb,Alg.bd,Alg.l1,Tup.q,Tup.o]
 simp (disch:=omega) only [RR,hp1 x y hx,hf1 x y hx,hp2 x hx,hf2 x hx,hp3,hf3,hp4,hf4,hp7 x hx,hf7 x hx,hp7 y hy,hf7 y hy,hp8 op _ y hy,hf8 op _ y hy,hp8 op _ x hx,hf8 op _ x hx]
 rw [Tq]
 generalize bK x=nx
 generalize bK y=ny
 obtain⟨n,bn⟩:=nx
 obtain⟨m,bm⟩:=ny
 dsimp only
 by_cases e:eu x y=0<;>by_cases o4:op=4<;>cases bn<;>cases bm<;>simp [e,o4]
noncomputable def FV (op:Int) (x y:List aj):List aj×Bool:=
 if op=1 then((kW x y).2,(kW x y).1)else if op=2 then((kW x (gP y 65535)).2,(kW x (gP y 65535)).1)else if op=3 then((oD x y).2,(oD x y).1)else([],false)
theorem afc
  {p5:List aj×List aj×Unit→Bool} {f5:List aj×List aj×Unit→Bool×List aj×Unit} (hp5:∀a b,Sh a→Sh b→p5 (a,b,())=true) (hf5:∀a b,Sh a→Sh b→f5 (a,b,())=((oD a b).1,(oD a b).2,()))
  {p4:List aj×List aj×Unit→Bool} {f4:List aj×List aj×Unit→Bool×List aj×Unit} (hp4:∀a b,Sh a→Sh b→p4 (a,b,())=true) (hf4:∀a b,Sh a→Sh b→f4 (a,b,())=((kW a b).1,(kW a b).2,()))
  {p6:List aj×Int×Unit→Bool} {f6:List aj×Int×Unit→List aj×Unit} (hp6:∀a n,Sh a→p6 (a,n,())=true) (hf6:∀a n,Sh a→f6 (a,n,())=(gP a n,()))
  (op:Int) (x y:List aj) (hx:Sh x) (hy:Sh y):Pm (std 0) p5 f5 p4 f4 p6 f6 (op,x,y,()) (fun z=>z=((FV op x y).2,(FV op x y).1,())):=by
 dsimp only [Pm,Alg.cl,Alg.cg,Alg.rb,Alg.bd,Alg.l1,Tup.q,Tup.o]
 simp (disch:=omega) only [RR,hp4 x y hx hy,hf4 x y hx hy,hp4 x _ hx (HV y 65535),hf4 x _ hx (HV y 65535),hp5 x y hx hy,hf5 x y hx hy,hp6 y _ hy,hf6 y _ hy]
 unfold FV
 refine⟨fun h=>by rw [if_pos h],fun h=>⟨fun h1=>by rw [if_neg h,if_pos h1],fun h1=>⟨fun h2=>by rw [if_neg h,if_neg h1,if_pos h2],fun h2=>by rw [if_neg h,if_neg h1,if_neg h2]⟩⟩⟩
theorem afd {p1:Int×Unit→Bool} {f1:Int×Unit→List aj×Unit} (hp1:∀n,p1 (n,())=true) (hf1:∀n,f1 (n,())=(gV n,()))
  {p2:List aj×List aj×Unit→Bool} {f2:List aj×List aj×Unit→Int×Unit} (hp2:∀a b,Sh a→p2 (a,b,())=true) (hf2:∀a b,Sh a→f2 (a,b,())=(eu a b,()))
  {p3:Int×List aj×List aj×Unit→Bool} {f3:Int×List aj×List aj×Unit→Bool×List aj×Unit} (hp3:∀op x y,Sh x→Sh y→p3 (op,x,y,())=true) (hf3:∀op x y,Sh x→Sh y→f3 (op,x,y,())=((FV op x y).2,(FV op x y).1,()))
  {p4:Int×List aj×List aj×Unit→Bool} {f4:Int×List aj×List aj×Unit→Bool×List aj×Unit} (hp4:∀op x y,Sh x→Sh y→p4 (op,x,y,())=true) (hf4:∀op x y,Sh x→Sh y→f4 (op,x,y,())=((Gw op x y).2,(Gw op x y).1,()))
  {p5:Atom×List Atom×Unit→Bool} {f5:Atom×List Atom×Unit→Int×List Atom×Unit} (hp5:∀a t,ShA a→ShT t→aF t→p5 (a,t,())=true) (hf5:∀a t,ShA a→ShT t→aF t→f5 (a,t,())=((bM t a).2,(bM t a).1,()))
  (op:Int) (x y:List aj) (t:List Atom) (hop:1≤op∧op≤5) (hx:Sh x) (hy:Sh y) (ht:ShT t) (hok:aF t):Pw (std 0) p1 f1 p2 f2 p3 f3 p4 f4 p5 f5 (op,x,y,t,()) (fun z=>z=((tDo t op x y).1,(tDo t op x y).2,())):=by
 have s1:ShA ⟨4,op,x,y⟩:=⟨hx,hy⟩
 have s2:ShA ⟨4,op,y,x⟩:=⟨hy,hx⟩
 dsimp only [Pw,Alg.cl,Alg.cg,Alg.rb,Alg.bd,Alg.l1,Tup.q,Tup.o]
 simp (disch:=omega) only [RR,hp1,hf1,hp2 x y hx,hf2 x y hx,hp3 op x y hx hy,hf3 op x y hx hy,hp4 op x y hx hy,hf4 op x y hx hy,hp5 _ _ s1 ht hok,hf5 _ _ s1 ht hok,hp5 _ _ s2 ht hok,hf5 _ _ s2 ht hok]
 have e1:(op=4∨op=5)→Gw op x y=jo op x y:=fun h=>by unfold jo;rw [if_neg (by omega),if_neg (by omega),if_neg (by omega)]
 have e2:¬(op=4∨op=5)→FV op x y=jo op x y:=fun h=>by
  unfold jo FV
  by_cases c1:op=1
  ·rw [if_pos c1,if_pos c1]
  ·rw [if_neg c1,if_neg c1]
   by_cases c2:op=2
   ·rw [if_pos c2,if_pos c2]
   ·rw [if_neg c2,if_neg c2,if_pos (by omega),if_pos (by omega)]
 unfold tDo
 by_cases c:op=4∨op=5
 ·rw [e1 c]
  generalize bM t ⟨4,op,y,x⟩=r1
  generalize bM t ⟨4,op,x,y⟩=r2
  generalize eu x y=o
  generalize jo op x y=s
  obtain⟨p,b⟩:=s
  have c':¬op=2:=by omega
  cases b<;>by_cases c2:0<o<;>by_cases c3:r1.2<0<;>by_cases c4:r2.2<0<;>simp [c,c',c2,c3,c4]<;>omega
 ·rw [e2 c]
  generalize bM t ⟨4,op,y,x⟩=r1
  generalize bM t ⟨4,op,x,y⟩=r2
  generalize eu x y=o
  generalize jo op x y=s
  obtain⟨p,b⟩:=s
  obtain⟨n4,n5⟩:=not_or.1 c
  cases b<;>by_cases c1:op=2<;>by_cases c2:0<o<;>by_cases c3:r1.2<0<;>by_cases c4:r2.2<0<;>simp [n4,n5,c1,c2,c3,c4]
end Go.TX.F
namespace Go.TX.F
open Go Go.AE Go.TX
structure Plus (l:List aj) (m:aj) (o:List aj):Prop where
 nf:Nf o
 cf:∀k,cf o k=F.cf (l++ [m]) k%65536
 len:o.length≤l.length+1
theorem afe {p1:List Int×List Int×Unit→Bool} {f1:List Int×List Int×Unit→Int×Unit} (hp1:∀a b,a.length<1000000000→p1 (a,b,())=true) (hf1:∀a b,a.length<1000000000→f1 (a,b,())=(fQ a b,()))
    {p2:Int×Unit→Bool} {f2:Int×Unit→Int×Unit} (hp2:∀a,p2 (a,())=true) (hf2:∀a,f2 (a,())=(a%65536,()))
    (l:List aj) (m:aj) (hl:l.length<1000000000) (hn:Nf l) (hm:1≤m.bH∧m.bH≤65535) (hma:m.atoms.length<1000000000):Oe (std 0) p1 f1 p2 f2 (l,m,()) (fun y=>Plus l m y.1):=by
  dsimp only [Oe,Alg.cl,Alg.cg,Alg.rb,Alg.bd,Alg.l1,Tup.q,Tup.o]
  refine ay (fun(y:List aj×Bool×Int×aj×List aj×Unit)=>y.1=l∧y.2.2.2.1=m∧0≤y.2.2.1∧y.2.2.1≤l.length∧
      ((y.2.1=false∧y.2.2.2.2.1=l.take y.2.2.1.toNat∧∀x∈l.take y.2.2.1.toNat,lt x m)∨
       (y.2.1=true∧Nf y.2.2.2.2.1∧(∀k,cf y.2.2.2.2.1 k=cf (l.take y.2.2.1.toNat++ [m]) k%65536)∧(y.2.2.2.2.1.length:Int)≤y.2.2.1+1∧(y.2.2.1<l.length→lt m ((l).getD (y.2.2.1).toNat default)∧∀x∈y.2.2.2.2.1,lt x ((l).getD (y.2.2.1).toNat default))))) (fun y=>(l.length-y.2.2.1).toNat)
    ⟨rfl,rfl,by simp,by simp,Or.inl ⟨rfl,by simp,by simp⟩⟩ ?_
  rintro⟨(l':List aj),(dn:Bool),(i:Int),(m':aj),(o:List aj),⟨⟩⟩ hI
  dsimp only at hI ⊢
  obtain⟨rfl,rfl,h1,h2,h3⟩:=hI
  simp (disch:=omega) only [RR,hp1 _ _ hma,hf1 _ _ hma,hp2,hf2]
  have hss:=hn.ss
  have nx:i+1<l'.length→lt ((l').getD (i).toNat default) ((l').getD (i+1).toNat default):=fun h=>by
    have:=(dF (d:=default) (R:=lt) dV).1 hss (i+1) (by omega) h
    rw [show i+1-1=i by omega]at this;exact this
  have tk:i<l'.length→l'.take (i+1).toNat=l'.take i.toNat++ [((l').getD (i).toNat default)]:=fun h=>(dL h1 h rfl).symm
  have bf:i<l'.length→∀x∈l'.take i.toNat,lt x ((l').getD (i).toNat default):=fun h x hx=>by
    have:=hss
    rw [←List.take_append_drop i.toNat l',List.pairwise_append]at this
    refine this.2.2 x hx _ ?_
    rw [getD_lt (by omega),List.drop_eq_getElem_cons (show i.toNat<l'.length by omega)];exact List.mem_cons_self
  have lt0:=List.length_take_le' i.toNat l'
  have lt1:=List.length_take_le i.toNat l'
  have co:i<l'.length→1≤((l').getD (i).toNat default).bH∧((l').getD (i).toNat default).bH≤65535:=fun h=>hn.co _ (eD h1 h)
  have ntk:Nf (l'.take i.toNat):=⟨List.Pairwise.sublist (List.take_sublist _ _) hss,fun x hx=>hn.co x (List.mem_of_mem_take hx)⟩
  have Xx:∀ {a:List aj} {x:aj},Nf a→(∀y∈a,lt y x)→1≤x.bH∧x.bH≤65535→Nf (a++ [x]):=fun {a x} g1 g2 g3=>⟨by
    rw [List.pairwise_append]
    exact⟨g1.ss,List.pairwise_singleton _ _,fun y hy z hz=>by rw [List.mem_singleton]at hz;subst hz;exact g2 y hy⟩,fun y hy=>by
    rw [List.mem_append,List.mem_singleton]at hy
    rcases hy with hy | rfl
    · exact g1.co y hy
    · exact g3⟩
  have l1:∀(x:List aj) (y:aj),(x++ [y]).length=x.length+1:=fun x y=>by rw [List.length_append];rfl
  have fin:∀o,i=l'.length→Nf o→(∀k,cf o k=cf (l'.take i.toNat++ [m']) k%65536)→(o.length:Int)≤i+1→Plus l' m' o:=fun o e g1 g2 g3=>⟨g1,fun k=>by rw [g2 k,List.take_of_length_le (by omega)],by omega⟩
  by_cases hi:i<l'.length
  · have nx:=nx
    have tk:=tk hi
    have bf:=bf hi
    have co:=co hi
    rw [tk]
    have hv:∀ {P:Prop},P→(∀x,x=((l').getD (i).toNat default)→P)→P:=fun h _=>h
    generalize ((l').getD (i).toNat default)=v at nx tk bf co h3 ⊢
    have cfs:∀k,cf (l'.take i.toNat++ [v]++ [m']) k=cf (l'.take i.toNat) k+(if v.atoms=k then v.bH else 0)+(if m'.atoms=k then m'.bH else 0):=fun k=>by
      rw [dh,dh,cB,cB,iN];simp only [Int.add_zero]
    have cfm:∀k,cf (l'.take i.toNat++ [m']) k=cf (l'.take i.toNat) k+(if m'.atoms=k then m'.bH else 0):=fun k=>by
      rw [dh,cB,iN,Int.add_zero]
    rcases h3 with⟨rfl,rfl,h4⟩ | ⟨rfl,h4,h5,h6,h7⟩
    ·
      simp (disch:=omega) only [RR,decide_true,Bool.not_false,Bool.true_and,decide_eq_true_eq,hi]
      by_cases c1:fQ m'.atoms v.atoms<0
      · have c2:¬fQ m'.atoms v.atoms=0:=by omega
        simp (disch:=omega) only [RR,c1,c2]
        have n1:=Xx ntk h4 hm
        have b2:∀x∈l'.take i.toNat++ [m'],lt x v:=fun x hx=>by
          rw [List.mem_append,List.mem_singleton]at hx
          rcases hx with hx | rfl
          · exact bf x hx
          · exact c1
        have n2:=Xx n1 b2 co
        refine⟨by omega,by rw [show([m']:List aj).length=1 from rfl];omega,by omega,by rw [l1,show([v]:List aj).length=1 from rfl];omega,⟨by omega,by omega,Or.inr ⟨n2,fun k=> ?_,by rw [l1,l1];omega,fun h=>⟨dV c1 (nx h),fun x hx=> ?_⟩⟩⟩,by omega⟩
        · have e1:=cfs k
          have e2:=n2.bnd k
          have e3:cf (l'.take i.toNat++ [m']++ [v]) k=cf (l'.take i.toNat++ [v]++ [m']) k:=by rw [e1,dh,cfm,cB,iN];omega
          rw [←e3];omega
        · rw [List.mem_append,List.mem_singleton]at hx
          rcases hx with hx | rfl
          · exact dV (b2 x hx) (nx h)
          · exact nx h
      · by_cases c2:fQ m'.atoms v.atoms=0
        · have ev:=kX.1 c2
          simp (disch:=omega) only [RR,c1,c2,List.append_nil]
          have zz:cf (l'.take i.toNat) v.atoms=0:=jI fun x hx=>(bf x hx).ne
          refine⟨by omega,fun h=>absurd h (by omega),fun _=>⟨by omega,fun c3=> ?_,fun c3=> ?_⟩⟩
          · have n2:=Xx (x:=⟨(v.bH+m'.bH)%65536,v.atoms⟩) ntk bf ⟨by dsimp only;omega,by dsimp only;omega⟩
            refine⟨by omega,by simp only [List.length_cons,List.length_nil];omega,⟨by omega,by omega,Or.inr ⟨n2,fun k=> ?_,by rw [l1];omega,fun h=>⟨?_,fun x hx=> ?_⟩⟩⟩,by omega⟩
            · have e1:=cfs k
              have e2:=n2.bnd k
              rw [e1]
              rw [dh,cB,iN]at e2 ⊢
              dsimp only at e2 ⊢
              by_cases ek:v.atoms=k
              · rw [if_pos ek]at e2 ⊢
                rw [if_pos ek,if_pos (ev.trans ek)]
                rw [←ek,zz]at e2 ⊢;omega
              · rw [if_neg ek]at e2 ⊢
                rw [if_neg ek,if_neg (fun e=>ek (ev.symm.trans e))];omega
            · have:=nx h;unfold lt at this ⊢;rw [ev];exact this
            · rw [List.mem_append,List.mem_singleton]at hx
              rcases hx with hx | rfl
              · exact dV (bf x hx) (nx h)
              · exact nx h
          · refine⟨⟨by omega,by omega,Or.inr ⟨ntk,fun k=> ?_,by omega,fun h=>⟨?_,fun x hx=>dV (bf x hx) (nx h)⟩⟩⟩,by omega⟩
            · have e1:=cfs k
              have e2:=ntk.bnd k
              rw [e1]
              by_cases ek:v.atoms=k
              · rw [if_pos ek,if_pos (ev.trans ek),←ek,zz];omega
              · rw [if_neg ek,if_neg (fun e=>ek (ev.symm.trans e))];omega
            · have:=nx h;unfold lt at this ⊢;rw [ev];exact this
        · simp (disch:=omega) only [RR,c1,c2]
          refine⟨by omega,by omega,by simp only [List.length_cons,List.length_nil];omega,⟨by omega,by omega,Or.inl (fun x hx=> ?_)⟩,by omega⟩
          rw [List.mem_append,List.mem_singleton]at hx
          rcases hx with hx | rfl
          · exact h4 x hx
          · unfold lt;rw [uW];omega
    · have c3:=(h7 hi).1
      have b2:=(h7 hi).2
      have c1:fQ m'.atoms v.atoms<0:=c3
      have c2:¬fQ m'.atoms v.atoms=0:=by omega
      simp (disch:=omega) only [RR,decide_true,Bool.not_true,Bool.false_and,decide_eq_true_eq,hi,c2]
      have n2:=Xx h4 b2 co
      refine⟨by omega,fun h=>h.1.elim,by omega,by simp only [List.length_cons,List.length_nil];omega,⟨by omega,by omega,Or.inr ⟨n2,fun k=> ?_,by rw [l1];omega,fun h=>⟨dV c3 (nx h),fun x hx=> ?_⟩⟩⟩,by omega⟩
      · have e1:=cfs k
        have e2:=n2.bnd k
        have e3:=h5 k
        rw [cfm]at e3
        rw [dh,cB,iN]at e2 ⊢
        rw [e1]
        by_cases ek:v.atoms=k
        · rw [if_pos ek]at e2 ⊢;omega
        · rw [if_neg ek]at e2 ⊢;omega
      · rw [List.mem_append,List.mem_singleton]at hx
        rcases hx with hx | rfl
        · exact dV (b2 x hx) (nx h)
        · exact nx h
  · have ei:i=l'.length:=by omega
    rcases h3 with⟨rfl,rfl,h4⟩ | ⟨rfl,h4,h5,h6,h7⟩
    · simp (disch:=omega) only [RR,decide_true,Bool.not_false,Bool.true_and,decide_eq_true_eq,hi]
      have n1:=Xx ntk h4 hm
      refine⟨by simp only [List.length_cons,List.length_nil];omega,fin _ ei n1 (fun k=> ?_) (by rw [l1];omega)⟩
      have e2:=n1.bnd k
      omega
    · simp (disch:=omega) only [RR,decide_true,Bool.not_true,Bool.false_and,decide_eq_true_eq,hi]
      exact fin _ ei h4 h5 h6
end Go.TX.F
namespace Go.TX.F
open Go Go.AE Go.TX
theorem FW {a o:List Int} (h:o.Pairwise (· ≤ ·)) (hp:o.Perm a):o=vW a:=by
 refine List.Perm.eq_of_pairwise (le:=fun x y:Int=>x≤y) (fun a b _ _ h1 h2=>Int.le_antisymm h1 h2) h ?_ (hp.trans (List.mergeSort_perm a _).symm)
 have:=List.pairwise_mergeSort (le:=fun x y:Int=>decide (x≤y)) (fun a b c h1 h2=>by simp at*;omega) (fun a b=>by simp;omega) a
 exact this.imp (fun h=>by simpa using h)
theorem Xy (a b:List Int) (ha:a.length<100000000) (hb:b.length<100000000) (sa:a.Pairwise (· ≤ ·)) (sb:b.Pairwise (· ≤ ·)):
  Ou (std 0) (a,b,()) (fun y=>y=(vW (a++b),())):=by
 dsimp only [Ou,Alg.cl,Alg.cg,Alg.rb,Alg.bd,Alg.l1,Tup.q,Tup.o]
 have sa':=(dF (d:=default) (R:=fun a b:Int=>a≤b) (fun h1 h2=>Int.le_trans h1 h2)).1 sa
 have sb':=(dF (d:=default) (R:=fun a b:Int=>a≤b) (fun h1 h2=>Int.le_trans h1 h2)).1 sb
 let I:List Int→Int→Int→Prop:=fun o i k=>0≤i∧i≤a.length∧0≤k∧k≤b.length∧o.Pairwise (· ≤ ·)∧o.Perm (a.take i.toNat++b.take k.toNat)∧(i<a.length→∀x∈o,x≤((a).getD (i).toNat default))∧(k<b.length→∀x∈o,x≤((b).getD (k).toNat default))
 have sn:∀ {o:List Int} {y:Int},o.Pairwise (· ≤ ·)→(∀x∈o,x≤y)→(o++ [y]).Pairwise (· ≤ ·):=fun {o y} g1 g2=>by
  rw [List.pairwise_append]
  exact⟨g1,List.pairwise_singleton _ _,fun x hx z hz=>by rw [List.mem_singleton]at hz;subst hz;exact g2 x hx⟩
 have il:∀o i k,I o i k→(o.length:Int)=i+k:=fun o i k ⟨h1,h2,h3,h4,_,h5,_⟩=>by
  have:=h5.length_eq;rw [List.length_append,List.length_take,List.length_take]at this;omega
 have stA:∀o i k,I o i k→i<a.length→(k<b.length→((a).getD (i).toNat default)≤((b).getD (k).toNat default))→I (o++ [((a).getD (i).toNat default)]) (i+1) k:=by
  rintro o i k ⟨h1,h2,h3,h4,h5,h6,h7,h8⟩ hi hk
  refine⟨by omega,by omega,h3,h4,sn h5 (h7 hi),?_,fun g x hx=> ?_,fun g x hx=> ?_⟩
  ·rw [←dL (d:=default) h1 hi rfl]
   refine(h6.append_right _).trans ?_
   rw [List.append_assoc,List.append_assoc]
   exact(List.perm_append_comm).append_left _
  ·have:=sa' (i+1) (by omega) g
   rw [show i+1-1=i by omega]at this
   rw [List.mem_append,List.mem_singleton]at hx
   rcases hx with hx | rfl
   ·exact Int.le_trans (h7 hi x hx) this
   ·exact this
  ·rw [List.mem_append,List.mem_singleton]at hx
   rcases hx with hx | rfl
   ·exact h8 g x hx
   ·exact hk g
 have stB:∀o i k,I o i k→k<b.length→(i<a.length→((b).getD (k).toNat default)≤((a).getD (i).toNat default))→I (o++ [((b).getD (k).toNat default)]) i (k+1):=by
  rintro o i k ⟨h1,h2,h3,h4,h5,h6,h7,h8⟩ hk hi
  refine⟨h1,h2,by omega,by omega,sn h5 (h8 hk),?_,fun g x hx=> ?_,fun g x hx=> ?_⟩
  ·rw [←dL (d:=default) h3 hk rfl,←List.append_assoc]
   exact h6.append_right _
  ·rw [List.mem_append,List.mem_singleton]at hx
   rcases hx with hx | rfl
   ·exact h7 g x hx
   ·exact hi g
  ·have:=sb' (k+1) (by omega) g
   rw [show k+1-1=k by omega]at this
   rw [List.mem_append,List.mem_singleton]at hx
   rcases hx with hx | rfl
   ·exact Int.le_trans (h8 hk x hx) this
   ·exact this
 refine ay (fun(y:List Int×List Int×Int×Int×List Int×Unit)=>y.1=a∧y.2.1=b∧I y.2.2.2.2.1 y.2.2.1 y.2.2.2.1) (fun y=>(b.length-y.2.2.2.1).toNat)
  ⟨rfl,rfl,by simp,by simp,by simp,by simp,List.Pairwise.nil,by simp,fun _ x hx=>absurd hx (by simp),fun _ x hx=>absurd hx (by simp)⟩ ?_
 rintro⟨(a':List Int),(b':List Int),(i:Int),(k:Int),(o:List Int),⟨⟩⟩ hI
 dsimp only at hI ⊢
 obtain⟨rfl,rfl,hI⟩:=hI
 have hb1:=hI.1
 have hb2:=hI.2.1
 have hb3:=hI.2.2.1
 have hb4:=hI.2.2.2.1
 have hol:=il _ _ _ hI
 simp (disch:=omega) only [RR]
 refine⟨fun h9=> ?_,fun h9=> ?_⟩
 ·refine ay (fun(y:List Int×List Int×Int×Int×List Int×Unit)=>y.1=a'∧y.2.1=b'∧y.2.2.2.1=k∧I y.2.2.2.2.1 y.2.2.1 k) (fun y=>(a'.length-y.2.2.1).toNat) ⟨rfl,rfl,rfl,hI⟩ ?_
  rintro⟨(a2:List Int),(b2:List Int),(i2:Int),(k2:Int),(o2:List Int),⟨⟩⟩ hI2
  dsimp only at hI2 ⊢
  obtain⟨rfl,rfl,rfl,hI2⟩:=hI2
  have hc1:=hI2.1
  have hc2:=hI2.2.1
  have hol:=il _ _ _ hI2
  simp (disch:=omega) only [RR]
  refine⟨by omega,by omega,by omega,by omega,fun⟨g1,g2⟩=>⟨by omega,g1,by simp only [List.length_cons,List.length_nil];omega,stA _ _ _ hI2 g1 (fun _=>g2),by omega⟩,fun g=>⟨by omega,h9,by simp only [List.length_cons,List.length_nil];omega,stB _ _ _ hI2 h9 (fun g1=> ?_),by omega⟩⟩
  rw [decide_eq_true g1,Bool.true_and,decide_eq_false_iff_not]at g;omega
 ·have e1:List.drop i.toNat (List.take ((a'.length:Int)).toNat a')=a'.drop i.toNat:=by rw [List.take_of_length_le (by omega)]
  rw [e1]
  refine⟨by omega,by omega,by omega,by rw [List.length_drop];omega,?_⟩
  obtain⟨h1,h2,h3,h4,h5,h6,h7,h8⟩:=hI
  rw [FW (a:=a'++b') (o:=o++a'.drop i.toNat)]
  ·rw [List.pairwise_append]
   refine⟨h5,List.Pairwise.sublist (List.drop_sublist _ _) sa,fun x hx y hy=> ?_⟩
   by_cases hi:i<a'.length
   ·refine Int.le_trans (h7 hi x hx) ?_
    rw [List.drop_eq_getElem_cons (show i.toNat<a'.length by omega)]at hy
    have hd:=List.Pairwise.sublist (List.drop_sublist i.toNat _) sa
    rw [List.drop_eq_getElem_cons (show i.toNat<a'.length by omega)]at hd
    rw [getD_lt (show i.toNat<a'.length by omega)]
    rcases List.mem_cons.1 hy with rfl | hy
    ·exact Int.le_refl _
    ·exact List.rel_of_pairwise_cons hd hy
   ·rw [List.drop_eq_nil_of_le (by omega)]at hy;exact absurd hy (by simp)
  ·rw [List.take_of_length_le (show b'.length≤k.toNat by omega)]at h6
   refine(h6.append_right _).trans ?_
   rw [List.append_assoc]
   refine((List.perm_append_comm).append_left _).trans ?_
   rw [←List.append_assoc,List.take_append_drop]
end Go.TX.F
namespace Go.TX.F
open Go Go.AE Go.TX
theorem aG.nf {p:List aj} (h:aG p):Nf p:=(fF.1 h).1
theorem aG.aok {p:List aj} (h:aG p) {m:aj} (hm:m∈p):m.atoms.length≤4∧F.aok m.atoms:=(fF.1 h).2.2 m hm
theorem Jm {l o:List aj} (h:Nf o) (h2:∀k,cf o k=cf l k%65536) (h3:∀m∈l,aok m.atoms):(bp (FU o),if bp (FU o)then o else [])=((yO l).1,(yO l).2):=by
 rw [ZV h h2 h3]
 by_cases c:FU o
 ·rw [bZ c,if_pos rfl];dsimp only;rw [decide_eq_true (show o.length≤12∧∀m∈o,m.atoms.length≤4 from c),if_pos (show o.length≤12∧∀m∈o,m.atoms.length≤4 from c)]
 ·rw [gG c,if_neg (by simp)];dsimp only;rw [decide_eq_false (show¬(o.length≤12∧∀m∈o,m.atoms.length≤4)from c),if_neg (show¬(o.length≤12∧∀m∈o,m.atoms.length≤4)from c)]
theorem Xz {o l:List aj} (h:Nf o) (h2:∀k,cf o k=cf l k%65536) (h3:∀m∈l,m.atoms.length<1000000000) (h4:o.length<1000000000):Sh o:=⟨h4,fun m hm=>by
 obtain⟨m',g1,g2⟩:=h.from h2 hm
 rw [←g2];exact h3 m' g1⟩
theorem aff {p1:List aj×Unit→Bool} {f1:List aj×Unit→Bool×Unit} (hp1:∀a,Sh a→p1 (a,())=true) (hf1:∀a,Sh a→f1 (a,())=(bp (aG a),()))
  {p2:List aj×aj×Unit→Bool} {f2:List aj×aj×Unit→List aj×Unit}
  (hp2:∀(l:List aj) m,l.length<1000000000→Nf l→1≤m.bH∧m.bH≤65535→m.atoms.length<1000000000→p2 (l,m,())=true) (hf2:∀(l:List aj) m,l.length<1000000000→Nf l→1≤m.bH∧m.bH≤65535→m.atoms.length<1000000000→Plus l m (f2 (l,m,())).1)
  {p3:List aj×Unit→Bool} {f3:List aj×Unit→Bool×List aj×Unit} (hp3:∀a,Sh a→p3 (a,())=true) (hf3:∀a,Sh a→f3 (a,())=(bp (FU a),if bp (FU a)then a else [],()))
  (a b:List aj) (ha:Sh a) (hb:Sh b):Oi (std 0) p1 f1 p2 f2 p3 f3 (a,b,()) (fun y=>y=((kW a b).1,(kW a b).2,())):=by
 dsimp only [Oi,Alg.cl,Alg.cg,Alg.rb,Alg.bd,Alg.l1,Tup.q,Tup.o]
 simp (disch:=omega) only [RR,hp1 a ha,hf1 a ha,hp1 b hb,hf1 b hb,bO,qU]
 unfold kW
 refine⟨fun h=> ?_,fun⟨h1,h2⟩=> ?_⟩
 ·rw [if_neg]
  rw [Bool.and_eq_true,bO,bO];rintro⟨g1,g2⟩
  rcases h with h | h
  ·exact h g1
  ·exact h g2
 rw [if_pos (by rw [bZ h1,bZ h2];rfl)]
 have l1:=h1.len
 have l2:=h2.len
 have hl:∀m∈a++b,F.aok m.atoms∧m.atoms.length<1000000000:=fun m hm=>by
  rw [List.mem_append]at hm
  rcases hm with hm | hm
  ·exact⟨(h1.aok hm).2,ha.2 m hm⟩
  ·exact⟨(h2.aok hm).2,hb.2 m hm⟩
 refine ay (fun(y:List aj×Int×List aj×Unit)=>y.2.2.1=b∧0≤y.2.1∧y.2.1≤b.length∧Nf y.1∧(∀k,cf y.1 k=cf (a++b.take y.2.1.toNat) k%65536)∧(y.1.length:Int)≤12+y.2.1) (fun y=>(b.length-y.2.1).toNat)
  ⟨rfl,by simp,by simp,h1.nf,fun k=>by have:=h1.nf.bnd k;simp only [Int.toNat_zero,List.take_zero,List.append_nil];omega,by simp only;omega⟩ ?_
 rintro⟨(o:List aj),(i:Int),(b':List aj),⟨⟩⟩ hI
 dsimp only at hI ⊢
 obtain⟨rfl,h3,h4,h5,h6,h7⟩:=hI
 have so:Sh o:=Xz h5 h6 (fun m hm=>(hl m (by rw [List.mem_append]at hm ⊢;exact hm.imp id List.mem_of_mem_take)).2) (by omega)
 simp (disch:=omega) only [RR,hp3 o so,hf3 o so]
 refine⟨fun h9=> ?_,fun h9=> ?_⟩
 ·have hm:=h2.nf.co _ (eD (d:=default) h3 h9)
  have pl:=hf2 o ((b').getD (i).toNat default) so.1 h5 hm (hb.at _)
  refine⟨by omega,by omega,hp2 o ((b').getD (i).toNat default) so.1 h5 hm (hb.at _),⟨by omega,by omega,pl.nf,fun k=> ?_,by have:=pl.len;omega⟩,by omega⟩
  rw [pl.cf k,dh,h6 k,←dL (d:=default) h3 h9 rfl,←List.append_assoc,dh (a++_)];omega
 ·have:=Jm h5 (fun k=>by rw [h6 k,List.take_of_length_le (by omega)]) (fun m hm=>(hl m hm).1)
  exact congrArg (fun z:Bool×List aj=>(z.1,z.2,())) this
theorem afg {p1:List aj×Unit→Bool} {f1:List aj×Unit→Bool×Unit} (hp1:∀a,Sh a→p1 (a,())=true) (hf1:∀a,Sh a→f1 (a,())=(bp (aG a),()))
  {p0:Int×Unit→Bool} {f0:Int×Unit→Int×Unit} (hp0:∀a,p0 (a,())=true) (hf0:∀a,f0 (a,())=(a%65536,()))
  {p2:List aj×aj×Unit→Bool} {f2:List aj×aj×Unit→List aj×Unit}
  (hp2:∀(l:List aj) m,l.length<1000000000→Nf l→1≤m.bH∧m.bH≤65535→m.atoms.length<1000000000→p2 (l,m,())=true) (hf2:∀(l:List aj) m,l.length<1000000000→Nf l→1≤m.bH∧m.bH≤65535→m.atoms.length<1000000000→Plus l m (f2 (l,m,())).1)
  {p4:List Int×List Int×Unit→Bool} {f4:List Int×List Int×Unit→List Int×Unit}
  (hp4:∀a b:List Int,a.length<100000000→b.length<100000000→a.Pairwise (· ≤ ·)→b.Pairwise (· ≤ ·)→p4 (a,b,())=true) (hf4:∀a b:List Int,a.length<100000000→b.length<100000000→a.Pairwise (· ≤ ·)→b.Pairwise (· ≤ ·)→f4 (a,b,())=(vW (a++b),()))
  {p3:List aj×Unit→Bool} {f3:List aj×Unit→Bool×List aj×Unit} (hp3:∀a,Sh a→p3 (a,())=true) (hf3:∀a,Sh a→f3 (a,())=(bp (FU a),if bp (FU a)then a else [],()))
  (a b:List aj) (ha:Sh a) (hb:Sh b):Ov (std 0) p1 f1 p0 f0 p2 f2 p4 f4 p3 f3 (a,b,()) (fun y=>y=((oD a b).1,(oD a b).2,())):=by
 dsimp only [Ov,Alg.cl,Alg.cg,Alg.rb,Alg.bd,Alg.l1,Tup.q,Tup.o]
 simp (disch:=omega) only [RR,hp1 a ha,hf1 a ha,hp1 b hb,hf1 b hb,bO,qU]
 unfold oD
 refine⟨fun h=> ?_,fun⟨h1,h2⟩=> ?_⟩
 ·rw [if_neg]
  rw [Bool.and_eq_true,bO,bO];rintro⟨g1,g2⟩
  rcases h with h | h
  ·exact h g1
  ·exact h g2
 rw [if_pos (by rw [bZ h1,bZ h2];rfl)]
 have l1:=h1.len
 have l2:=h2.len
 have am:∀m∈a,∀n∈b,aok (mulM m n).atoms∧(mulM m n).atoms.length≤8:=fun m hm n hn=>by
  obtain⟨g1,g2⟩:=h1.aok hm
  obtain⟨g3,g4⟩:=h2.aok hn
  refine⟨⟨?_,fun k hk=> ?_⟩,?_⟩
  ·have:=List.pairwise_mergeSort (le:=fun x y:Int=>decide (x≤y)) (fun a b c h1 h2=>by simp at*;omega) (fun a b=>by simp;omega) (m.atoms++n.atoms)
   exact this.imp (fun h=>by simpa using h)
  ·have:k∈m.atoms++n.atoms:=List.mem_mergeSort.1 hk
   rw [List.mem_append]at this
   rcases this with hk | hk
   ·exact g2.2 k hk
   ·exact g4.2 k hk
  ·show(vW _).length≤8
   rw [UJ,List.length_append];omega
 have pm:∀m∈prods a b,aok m.atoms∧m.atoms.length≤8:=fun m hm=>by
  unfold prods at hm
  rw [List.mem_flatMap]at hm
  obtain⟨x,hx,hm⟩:=hm
  rw [List.mem_map]at hm
  obtain⟨y,hy,rfl⟩:=hm
  exact am x hx y hy
 let J:List aj→Int→Int→Prop:=fun o i k=>Nf o∧(∀t,cf o t=cf (prods (a.take i.toNat) b++(b.take k.toNat).map (mulM ((a).getD (i).toNat default))) t%65536)∧(o.length:Int)≤12*i+k
 refine ay (fun(y:Int×List aj×List aj×List aj×Unit)=>y.2.1=a∧y.2.2.1=b∧0≤y.1∧y.1≤a.length∧J y.2.2.2.1 y.1 0) (fun y=>(a.length-y.1).toNat)
  ⟨rfl,rfl,by simp,by simp,⟨⟨List.Pairwise.nil,fun m hm=>absurd hm (by simp)⟩,fun k=>by simp [cf,prods],by simp⟩⟩ ?_
 rintro⟨(i:Int),(a':List aj),(b':List aj),(o:List aj),⟨⟩⟩ hI
 dsimp only at hI ⊢
 obtain⟨rfl,rfl,h3,h4,hJ⟩:=hI
 have hJ1:=hJ.2.2
 have so:Sh o:=Xz (l:=prods (a'.take i.toNat) b') hJ.1 (fun t=>by rw [hJ.2.1 t];simp) (fun m hm=>by
  have:m∈prods a' b':=by
   unfold prods at hm ⊢
   rw [List.mem_flatMap]at hm ⊢
   obtain⟨x,hx,hm⟩:=hm
   exact⟨x,List.mem_of_mem_take hx,hm⟩
  have:=(pm m this).2;omega) (by omega)
 simp (disch:=omega) only [RR,hp3 o so,hf3 o so]
 refine⟨fun h9=> ?_,fun h9=> ?_⟩
 ·refine ay (fun(y:Int×Int×List aj×List aj×List aj×Unit)=>y.1=i∧y.2.2.1=a'∧y.2.2.2.1=b'∧0≤y.2.1∧y.2.1≤b'.length∧J y.2.2.2.2.1 i y.2.1) (fun y=>(b'.length-y.2.1).toNat) ⟨rfl,rfl,rfl,by simp,by simp,hJ⟩ ?_
  rintro⟨(i':Int),(k:Int),(a2:List aj),(b2:List aj),(o2:List aj),⟨⟩⟩ hI
  dsimp only at hI ⊢
  obtain⟨rfl,rfl,rfl,g1,g2,hK⟩:=hI
  have hK1:=hK.2.2
  by_cases g3:k<b2.length
  ·have ma:((a2).getD (i').toNat default)∈a2:=eD h3 h9
   have mb:((b2).getD (k).toNat default)∈b2:=eD g1 g3
   have ca:=h1.nf.co _ ma
   have cb:=h2.nf.co _ mb
   obtain⟨q1,q2⟩:=h1.aok ma
   obtain⟨q3,q4⟩:=h2.aok mb
   have hm:=Jk (show 0≤((a2).getD (i').toNat default).bH by omega) (by omega) (show 0≤((b2).getD (k).toNat default).bH by omega) (by omega)
   have am':=(am _ ma _ mb).2
   simp (disch:=omega) only [RR,hp0,hf0,hp4 _ _ (show((a2).getD (i').toNat default).atoms.length<100000000 by omega) (show((b2).getD (k).toNat default).atoms.length<100000000 by omega) q2.1 q4.1,hf4 _ _ (show((a2).getD (i').toNat default).atoms.length<100000000 by omega) (show((b2).getD (k).toNat default).atoms.length<100000000 by omega) q2.1 q4.1]
   have tk:prods (a2.take i'.toNat) b2++(b2.take (k+1).toNat).map (mulM ((a2).getD (i').toNat default))=prods (a2.take i'.toNat) b2++(b2.take k.toNat).map (mulM ((a2).getD (i').toNat default))++ [mulM ((a2).getD (i').toNat default) ((b2).getD (k).toNat default)]:=by
    rw [←dL (d:=default) g1 g3 rfl,List.map_append,List.append_assoc];rfl
   refine⟨fun _=>⟨by omega,by omega,by omega,by omega,fun g4=> ?_,fun g4=>⟨⟨by omega,by omega,hK.1,fun t=> ?_,by omega⟩,by omega⟩⟩,fun h=>absurd g3 h⟩
   ·have aj6:(⟨((a2).getD (i').toNat default).bH*((b2).getD (k).toNat default).bH%65536,vW (((a2).getD (i').toNat default).atoms++((b2).getD (k).toNat default).atoms)⟩:aj).atoms.length<1000000000:=by have:(vW (((a2).getD (i').toNat default).atoms++((b2).getD (k).toNat default).atoms)).length≤8:=am';dsimp only;omega
    have cc:1≤(⟨((a2).getD (i').toNat default).bH*((b2).getD (k).toNat default).bH%65536,vW (((a2).getD (i').toNat default).atoms++((b2).getD (k).toNat default).atoms)⟩:aj).bH∧(⟨((a2).getD (i').toNat default).bH*((b2).getD (k).toNat default).bH%65536,vW (((a2).getD (i').toNat default).atoms++((b2).getD (k).toNat default).atoms)⟩:aj).bH≤65535:=by dsimp only;omega
    have pl:=hf2 o2 _ (by omega) hK.1 cc aj6
    refine⟨by omega,by omega,by omega,by omega,hp2 o2 _ (by omega) hK.1 cc aj6,⟨by omega,by omega,pl.nf,fun t=> ?_,by have:=pl.len;omega⟩,by omega⟩
    rw [pl.cf t,dh,hK.2.1 t,tk,dh (prods _ _++_)]
    show(_+cf [mulM ((a2).getD (i').toNat default) ((b2).getD (k).toNat default)] t)%65536=_
    omega
   ·rw [tk,dh,hK.2.1 t]
    have:cf [mulM ((a2).getD (i').toNat default) ((b2).getD (k).toNat default)] t=0:=by
     rw [cB,iN]
     have:(mulM ((a2).getD (i').toNat default) ((b2).getD (k).toNat default)).bH=0:=by show((a2).getD (i').toNat default).bH*((b2).getD (k).toNat default).bH%65536=0;omega
     rw [this];split<;>rfl
    rw [this];omega
  ·simp (disch:=omega) only [RR]
   refine⟨fun h=>absurd h g3,fun _=>⟨⟨by omega,by omega,hK.1,fun t=> ?_,by omega⟩,by omega⟩⟩
   rw [hK.2.1 t,List.take_of_length_le (show b2.length≤k.toNat by omega),←QK,dL (d:=default) h3 h9 rfl];simp
 ·have:=Jm hJ.1 (l:=prods a' b') (fun t=>by rw [hJ.2.1 t,List.take_of_length_le (show a'.length≤i.toNat by omega)];simp) (fun m hm=>(pm m hm).1)
  exact congrArg (fun z:Bool×List aj=>(z.1,z.2,())) this
end Go.TX.F
namespace Go.TX.F
open Go Go.AE Go.TX
theorem yP {m:aj} (n:Int) (h:aok m.atoms):mulM m ⟨n,[]⟩=⟨m.bH*n%65536,m.atoms⟩:=by
 unfold mulM
 rw [←FW (a:=m.atoms++ []) (o:=m.atoms) h.1 (by simp)]
theorem uY (a:List aj) (n:aj):prods a [n]=a.map (fun m=>mulM m n):=by
 induction a with
 | nil=>rfl
 | cons x a ih=>simp only [prods,List.flatMap_cons,List.map_cons,List.map_nil]at ih ⊢;rw [ih];rfl
theorem MG {t:List Int}:∀ {l:List aj},(∀m∈l,m.bH=0)→cf l t=0
 | [],_=>rfl
 | m::l,h=>by rw [cB,MG (fun m hm=>h m (by simp [hm])),h m (by simp)];split<;>rfl
theorem bL:aG []:=fF.2 ⟨⟨List.Pairwise.nil,fun m hm=>absurd hm (by simp)⟩,by simp,fun m hm=>absurd hm (by simp)⟩
theorem bE (n:Int):aG (aQ n):=by
 unfold aQ;split
 ·refine fF.2 ⟨⟨List.pairwise_singleton _ _,fun m hm=> ?_⟩,by simp,fun m hm=> ?_⟩
  ·rw [List.mem_singleton]at hm;subst hm;assumption
  ·rw [List.mem_singleton]at hm;subst hm;exact⟨by simp,List.Pairwise.nil,fun k hk=>absurd hk (by simp)⟩
 ·exact bL
theorem jU (n:Int):aG (gV n):=by
 unfold gV;split
 ·refine fF.2 ⟨⟨List.pairwise_singleton _ _,fun m hm=> ?_⟩,by simp,fun m hm=> ?_⟩
  ·rw [List.mem_singleton]at hm;subst hm;dsimp only;omega
  ·rw [List.mem_singleton]at hm;subst hm;exact⟨by simp,List.pairwise_singleton _ _,fun k hk=>by rw [List.mem_singleton]at hk;omega⟩
 ·exact bL
theorem afh {p1:List aj×Unit→Bool} {f1:List aj×Unit→Bool×Unit} (hp1:∀a,Sh a→p1 (a,())=true) (hf1:∀a,Sh a→f1 (a,())=(bp (aG a),()))
  {p0:Int×Unit→Bool} {f0:Int×Unit→Int×Unit} (hp0:∀a,p0 (a,())=true) (hf0:∀a,f0 (a,())=(a%65536,()))
  {p4:List aj×Unit→Bool} {f4:List aj×Unit→List aj×Unit} (hp4:∀a,Sh a→p4 (a,())=true) (hf4:∀a,Sh a→f4 (a,())=(a,()))
  {p3:Int×Unit→Bool} {f3:Int×Unit→Bool×Unit} (hp3:∀a,p3 (a,())=true) (hf3:∀a,f3 (a,())=(inB a 0 65535,()))
  (a:List aj) (n:Int) (ha:Sh a):OC (std 0) p1 f1 p0 f0 p4 f4 p3 f3 (a,n,()) (fun y=>y=(gP a n,())):=by
 dsimp only [OC,Alg.cl,Alg.cg,Alg.rb,Alg.bd,Alg.l1,Tup.q,Tup.o]
 simp (disch:=omega) only [RR,hp1 a ha,hf1 a ha,hp3,hf3,bO,qU,fC,vV]
 unfold gP
 refine⟨fun h=> ?_,fun⟨h1,h2⟩=> ?_⟩
 ·rw [if_neg];rw [Bool.and_eq_true,bO,fC];rintro⟨g1,g2⟩
  rcases h with h | h
  ·exact h g1
  ·exact h g2
 rw [if_pos (by rw [bZ h1,Bool.true_and,fC];exact h2)]
 have l1:=h1.len
 have hss:=h1.nf.ss
 refine ay (fun(y:Int×Int×List aj×List aj×Unit)=>y.1=n∧y.2.2.1=a∧0≤y.2.1∧y.2.1≤a.length∧Nf y.2.2.2.1∧(y.2.2.2.1.length:Int)≤y.2.1∧(∀t,cf y.2.2.2.1 t=cf ((a.take y.2.1.toNat).map (fun m=>⟨m.bH*n%65536,m.atoms⟩)) t%65536)
   ∧(∀x∈y.2.2.2.1,x.atoms.length≤4∧(y.2.1<a.length→lt x ((a).getD (y.2.1).toNat default)))) (fun y=>(a.length-y.2.1).toNat)
  ⟨rfl,rfl,by simp,by simp,⟨List.Pairwise.nil,fun m hm=>absurd hm (by simp)⟩,by simp,fun t=>by simp [cf],fun x hx=>absurd hx (by simp)⟩ ?_
 rintro⟨(n':Int),(i:Int),(a':List aj),(o:List aj),⟨⟩⟩ hI
 dsimp only at hI ⊢
 obtain⟨rfl,rfl,h3,h4,h5,h6,h7,h8⟩:=hI
 have so:Sh o:=⟨by omega,fun m hm=>by have:=(h8 m hm).1;omega⟩
 by_cases h9:i<a'.length
 ·have ma:((a').getD (i).toNat default)∈a':=eD h3 h9
  have ca:=h1.nf.co _ ma
  have qa:=h1.aok ma
  have hm:=Jk (show 0≤((a').getD (i).toNat default).bH by omega) (by omega) h2.1 h2.2
  have nx:i+1<a'.length→lt ((a').getD (i).toNat default) ((a').getD (i+1).toNat default):=fun h=>by
   have:=(dF (d:=default) (R:=lt) dV).1 hss (i+1) (by omega) h
   rw [show i+1-1=i by omega]at this;exact this
  have tk:(a'.take (i+1).toNat).map (fun m:aj=>(⟨m.bH*n'%65536,m.atoms⟩:aj))=(a'.take i.toNat).map (fun m:aj=>(⟨m.bH*n'%65536,m.atoms⟩:aj))++ [⟨((a').getD (i).toNat default).bH*n'%65536,((a').getD (i).toNat default).atoms⟩]:=by
   rw [←dL (d:=default) h3 h9 rfl,List.map_append];rfl
  simp (disch:=omega) only [RR,hp0,hf0]
  refine⟨fun _=>⟨by omega,by omega,fun g=>⟨by omega,by omega,by simp only [List.length_cons,List.length_nil];omega,⟨by omega,by omega,?_,?_,fun t=> ?_,fun x hx=> ?_⟩,by omega⟩,fun g=>⟨⟨by omega,by omega,h5,by omega,fun t=> ?_,fun x hx=>⟨(h8 x hx).1,fun g2=>dV ((h8 x hx).2 h9) (nx g2)⟩⟩,by omega⟩⟩,fun h=>absurd h9 h⟩
  ·refine⟨?_,fun x hx=> ?_⟩
   ·rw [List.pairwise_append]
    exact⟨h5.ss,List.pairwise_singleton _ _,fun x hx z hz=>by rw [List.mem_singleton]at hz;subst hz;exact(h8 x hx).2 h9⟩
   ·rw [List.mem_append,List.mem_singleton]at hx
    rcases hx with hx | rfl
    ·exact h5.co x hx
    ·dsimp only;omega
  ·rw [List.length_append];simp only [List.length_cons,List.length_nil];omega
  ·rw [tk,dh,dh,h7 t,cB,iN]
   dsimp only
   by_cases et:((a').getD (i).toNat default).atoms=t
   ·rw [if_pos et]
    have z:cf o t=0:=jI fun x hx e=>((h8 x hx).2 h9).ne (e.trans et.symm)
    rw [h7 t]at z;omega
   ·rw [if_neg et];omega
  ·rw [List.mem_append,List.mem_singleton]at hx
   rcases hx with hx | rfl
   ·exact⟨(h8 x hx).1,fun g2=>dV ((h8 x hx).2 h9) (nx g2)⟩
   ·exact⟨qa.1,fun g2=>nx g2⟩
  ·rw [tk,dh,h7 t,cB,iN]
   dsimp only
   have:((a').getD (i).toNat default).bH*n'%65536=0:=by omega
   rw [this];split<;>omega
 ·simp (disch:=omega) only [RR,hp4 o so,hf4 o so]
  refine⟨fun h=>absurd h h9,fun _=> ?_⟩
  have eq:∀t,cf o t=cf (prods a' (aQ n')) t%65536:=fun t=>by
   rw [h7 t,List.take_of_length_le (by omega)]
   unfold aQ
   by_cases hn:1≤n'∧n'≤65535
   ·rw [if_pos hn,uY]
    congr 2
    exact List.map_congr_left fun m hm=>(yP n' (h1.aok hm).2).symm
   ·rw [if_neg hn]
    have hz:n'=0:=by omega
    have hz2:cf (a'.map (fun m=>(⟨m.bH*n'%65536,m.atoms⟩:aj))) t=0:=MG fun m hm=>by
     rw [List.mem_map]at hm
     obtain⟨x,_,rfl⟩:=hm
     dsimp only;rw [hz];simp
    rw [hz2,show prods a' []=[] by simp [prods]];rfl
  have fb:FU o:=⟨by omega,fun m hm=>(h8 m hm).1⟩
  have:=Jm h5 eq (fun m hm=>by
   unfold aQ at hm
   split at hm
   ·rw [uY,List.mem_map]at hm
    obtain⟨x,hx,rfl⟩:=hm
    rw [yP n' (h1.aok hx).2];exact(h1.aok hx).2
   ·rw [show prods a' []=[] by simp [prods]]at hm;exact absurd hm (by simp))
  unfold oD
  rw [if_pos (by rw [bZ h1,bZ (bE n')];rfl),←congrArg Prod.snd this]
  dsimp only;rw [bZ fb];rfl
theorem XA (l:List aj):(Nf (nf l)∧∀k,cf (nf l) k=cf l k%65536)∨nf l=[]:=by
 by_cases he:∃o,Nf o∧∀k,cf o k=cf l k%65536
 ·obtain⟨o,h1,h2⟩:=he
  rw [Xi h1 h2];exact Or.inl ⟨h1,h2⟩
 ·right;unfold nf;rw [dif_neg he]
theorem XB {l:List aj} {n:Int} (h:aW l n):aW (nf l) n:=by
 rcases XA l with⟨h1,h2⟩ | h1
 ·refine cu.2 fun m hm k hk=> ?_
  obtain⟨m',g1,g2⟩:=h1.from h2 hm
  exact cu.1 h m' g1 k (g2▸hk)
 ·rw [h1];exact cu.2 fun m hm=>absurd hm (by simp)
theorem iH (n:Int):aW [] n:=cu.2 fun m hm=>absurd hm (by simp)
theorem Tt (l:List aj):aG (yO l).2:=by
 unfold yO
 by_cases h:aG (nf l)
 ·rw [bZ h];exact h
 ·rw [gG h];exact bL
theorem FX {l:List aj} {n:Int} (h:aW l n):aW (yO l).2 n:=by
 unfold yO
 dsimp only
 split
 ·exact XB h
 ·exact iH n
theorem UL {a b:List aj} {n:Int} (h1:aW a n) (h2:aW b n):aW (a++b) n:=cu.2 fun m hm k hk=>by
 rw [List.mem_append]at hm
 rcases hm with hm | hm
 ·exact cu.1 h1 m hm k hk
 ·exact cu.1 h2 m hm k hk
theorem MH {a b:List aj} {n:Int} (h1:aW a n) (h2:aW b n):aW (prods a b) n:=cu.2 fun m hm k hk=>by
 unfold prods at hm
 rw [List.mem_flatMap]at hm
 obtain⟨x,hx,hm⟩:=hm
 rw [List.mem_map]at hm
 obtain⟨y,hy,rfl⟩:=hm
 have:k∈x.atoms++y.atoms:=List.mem_mergeSort.1 hk
 rw [List.mem_append]at this
 rcases this with hk | hk
 ·exact cu.1 h1 x hx k hk
 ·exact cu.1 h2 y hy k hk
theorem Bw (a b:List aj):aG (kW a b).2:=by unfold kW;split;exact Tt _;exact bL
theorem Jo (a b:List aj):aG (oD a b).2:=by unfold oD;split;exact Tt _;exact bL
theorem UM (a:List aj) (n:Int):aG (gP a n):=by unfold gP;split;exact Jo _ _;exact bL
theorem xE {a b:List aj} {n:Int} (h1:aW a n) (h2:aW b n):aW (kW a b).2 n:=by unfold kW;split;exact FX (UL h1 h2);exact iH n
theorem xG {a b:List aj} {n:Int} (h1:aW a n) (h2:aW b n):aW (oD a b).2 n:=by unfold oD;split;exact FX (MH h1 h2);exact iH n
theorem kF (c n:Int):aW (aQ c) n:=cu.2 fun m hm k hk=>by
 unfold aQ at hm;split at hm
 ·rw [List.mem_singleton]at hm;subst hm;exact absurd hk (by simp)
 ·exact absurd hm (by simp)
theorem lZ {k n:Int} (h:k<n):aW (gV k) n:=cu.2 fun m hm j hj=>by
 unfold gV at hm;split at hm
 ·rw [List.mem_singleton]at hm;subst hm;rw [List.mem_singleton]at hj;omega
 ·exact absurd hm (by simp)
theorem aF.sh {t:List Atom} (h:aF t):ShT t:=⟨by have:=h.2;omega,fun a ha=>by
 obtain⟨i,hi,rfl⟩:=List.getElem_of_mem ha
 have:=(h.1 i (by omega) (by omega)).1
 rw [show(i:Int).toNat=i from rfl,getD_lt hi]at this
 unfold iO at this
 split at this
 ·exact⟨this.2.1.sh,this.2.2.1.sh⟩
 ·rw [ShA,this.1.1,this.1.2];exact⟨qB,qB⟩⟩
theorem Bz {t:List Atom} {a:Atom} (h:aF t) (h2:t.length<200):aF (bM t a).1∧t.length≤(bM t a).1.length∧(bM t a).1.length≤t.length+1∧(iO a t.length→0≤(bM t a).2):=by
 have hsp:=jf t a
 unfold bM
 split
 ·rename_i h3;exact⟨h,Nat.le_refl _,Nat.le_succ _,fun _=>h3⟩
 ·rename_i h3
  split
  ·rename_i h4;exact⟨h,Nat.le_refl _,Nat.le_succ _,fun h5=>by rcases h4 with h4 | h4;exact absurd h5 h4;omega⟩
  ·rename_i h4
   have h5:iO a t.length:=Classical.byContradiction fun h5=>h4 (Or.inl h5)
   refine⟨kZ.2 ⟨?_,by rw [List.length_append];simp only [List.length_cons,List.length_nil];omega⟩,by rw [List.length_append];exact Nat.le_add_right _ _,by rw [List.length_append];exact Nat.le_refl _,fun _=>by dsimp only;omega⟩
   have hl:((t++ [a]).length:Int)=t.length+1:=by rw [List.length_append];rfl
   have g1:∀i:Int,0≤i→i<t.length→(t++ [a]).getD i.toNat default=t.getD i.toNat default:=fun i i1 i2=>by
    rw [getD_lt (show i.toNat< (t++ [a]).length by omega),getD_lt (show i.toNat<t.length by omega),List.getElem_append_left]
   have g2:(t++ [a]).getD ((t.length:Int)).toNat default=a:=by
    rw [getD_lt (show((t.length:Int)).toNat< (t++ [a]).length by omega)];simp
   rw [hl]
   intro i i1 i2
   dsimp only
   by_cases i3:i<t.length
   ·rw [g1 i i1 i3]
    have:=(kZ.1 h).1 i i1 i3
    exact⟨this.1,fun j j1 j2=>by dsimp only;rw [g1 j j1 (by omega)];exact this.2 j j1 j2⟩
   ·have:i=t.length:=by omega
    subst this
    rw [g2]
    refine⟨h5,fun j j1 j2=> ?_⟩
    dsimp only;rw [g1 j j1 j2]
    rcases hsp with⟨_,g⟩ | ⟨g,_⟩
    ·exact g j j1 j2
    ·exact absurd g h3
end Go.TX.F
namespace Go.TX.F
open Go Go.AE Go.TX
def By (b:List Int):Prop:=∀z∈b,0≤z∧z≤255
structure Bt (b:List Int):Prop where
 len:b.length≤2000
 rng:By b
theorem By.at {b:List Int} (h:By b) (n:Nat):0≤b.getD n default∧b.getD n default≤255:=by
 by_cases h1:n<b.length
 ·rw [getD_lt h1];exact h _ (List.getElem_mem _)
 ·simp only [List.getD,List.getElem?_eq_none (by omega:b.length≤n)];decide
theorem XC (b:List Int) (hb:By b) (hl:b.length<1000000000):NY (std 0) (b,()) (fun y=>Bt y.1∧y.2.1=0):=by
 dsimp only [NY,Alg.cl,Alg.cg,Alg.rb,Alg.bd,Alg.l1,Tup.q,Tup.o]
 simp (disch:=omega) only [RR]
 refine⟨fun h=>⟨by omega,by omega,by omega,⟨?_,?_⟩⟩,fun h=>⟨by omega,hb⟩⟩
 ·rw [List.length_drop,List.length_take];omega
 ·intro z hz;exact hb z (List.mem_of_mem_take (List.mem_of_mem_drop hz))
theorem afi {a b:Int} (h1:0≤a) (h2:a<4611686018427387904) (h3:0≤b) (h4:b<4611686018427387904):0≤ko .xor .i64 a b∧ko .xor .i64 a b<4611686018427387904:=by
 have e:((2^IntKind.i64.bits:Nat):Int)=18446744073709551616:=by decide
 have e2:ko .xor .i64 a b=((a.toNat^^^b.toNat:Nat):Int):=by
  unfold ko;dsimp only
  rw [BitVec.toNat_xor,BitVec.toNat_ofInt,BitVec.toNat_ofInt,e,show a%18446744073709551616=a by omega,show b%18446744073709551616=b by omega]
  have:=Nat.xor_lt_two_pow (show a.toNat<2^62 by omega) (show b.toNat<2^62 by omega)
  rw [w64 (by omega) (by omega)]
 rw [e2]
 have:=Nat.xor_lt_two_pow (show a.toNat<2^62 by omega) (show b.toNat<2^62 by omega)
 omega
theorem yQ {a b:Int} (h:0≤a):a.tmod b=a%b:=Int.tmod_eq_emod_of_nonneg h
theorem Tv {a b:Int} (h:0≤a):a.tdiv b=a/b:=Int.tdiv_eq_ediv_of_nonneg h
def Pk (n:Int) (b:List Int) (p:Int) (y:Int×List Int×Int×Unit):Prop:=y.2.1=b∧y.2.2.1=p+1∧0≤y.1∧(y.1<n∨y.1=0)
theorem XD (n:Int) (b:List Int) (p:Int) (hb:Bt b) (h1:0≤p) (h2:p<1000000000):NZ (std 0) (n,b,p,()) (fun y=>Pk n b p y):=by
 have hl:=hb.1
 have cvu:∀k:Nat,IntKind.i64.wrap (b.getD k default)=b.getD k default:=fun k=>by have:=hb.2.at k;exact w64 (by omega) (by omega)
 dsimp only [NZ,Alg.cl,Alg.cg,Alg.rb,Alg.bd,Alg.l1,Tup.q,Tup.o]
 simp (disch:=omega) only [RR,cvu]
 refine⟨fun h=>⟨rfl,rfl,by omega,Or.inr rfl⟩,fun⟨h3,h4⟩=> ?_⟩
 have e1:p+1-1=p:=by omega
 rw [e1]
 refine⟨fun h=>⟨by omega,by omega,by omega,?_⟩,fun h=> ?_⟩
 ·have:=hb.2.at p.toNat
  rw [yQ this.1]
  exact⟨rfl,rfl,Int.emod_nonneg _ (by omega),Or.inl (Int.emod_lt_of_pos _ (by omega))⟩
 ·have hb0:(0:Int)<b.length:=by omega
  have k1:=Int.emod_nonneg p (show(b.length:Int)≠0 by omega)
  have k2:=Int.emod_lt_of_pos p hb0
  have k3:=Int.emod_nonneg (p*7+3) (show(b.length:Int)≠0 by omega)
  have k4:=Int.emod_lt_of_pos (p*7+3) hb0
  have k5:0≤p/b.length:=Int.ediv_nonneg h1 (by omega)
  have k6:p/b.length≤p:=Int.ediv_le_self _ h1
  simp (disch:=omega) only [w64,yQ,Tv]
  have q1:=hb.2.at (p%b.length).toNat
  have q2:=hb.2.at ((p*7+3)%b.length).toNat
  generalize (b.getD (p%b.length).toNat default)=u at q1 ⊢
  generalize (b.getD ((p*7+3)%b.length).toNat default)=v at q2 ⊢
  generalize p/b.length=w at k5 k6 ⊢
  simp (disch:=omega) only [w64,yQ,Tv]
  have q:=afi (a:=u*131+v*1117+p*29+w*53) (b:=(u*131+v*1117+p*29+w*53)/64) (by omega) (by omega) (by omega) (by omega)
  rw [Xh]
  generalize ko .xor .i64 (u*131+v*1117+p*29+w*53) ((u*131+v*1117+p*29+w*53)/64)=g at q ⊢
  rw [yQ q.1]
  exact⟨h4,k1,k2,h4,k3,k4,h4,by omega,by omega,rfl,rfl,Int.emod_nonneg _ (by omega),Or.inl (Int.emod_lt_of_pos _ (by omega))⟩
theorem afj {p1:Int×List Int×Int×Unit→Bool} {f1:Int×List Int×Int×Unit→Int×List Int×Int×Unit} (hp1:∀n b p,Bt b→0≤p→p<1000000000→p1 (n,b,p,())=true) (hf1:∀n b p,Bt b→0≤p→p<1000000000→Pk n b p (f1 (n,b,p,())))
  (n:Int) (b:List Int) (p:Int) (hb:Bt b) (h1:0≤p) (h2:p<1000000000):Oz (std 0) p1 f1 (n,b,p,()) (fun y=>y.2.1=b∧y.2.2.1=p+1):=by
 obtain⟨e1,e2,_⟩:=hf1 n b p hb h1 h2
 dsimp only [Oz,Alg.cl,Alg.cg,Alg.rb,Alg.bd,Alg.l1,Tup.q,Tup.o]
 simp (disch:=omega) only [RR,hp1 n b p hb h1 h2,e1,e2]
def Wd (b:List Int) (p:Int) (y:Int×List Int×Int×Unit):Prop:=y.2.1=b∧p≤y.2.2.1∧y.2.2.1≤p+3∧(0≤y.1∧y.1≤65535)
theorem afk {p1:Int×List Int×Int×Unit→Bool} {f1:Int×List Int×Int×Unit→Int×List Int×Int×Unit} (hp1:∀n b p,Bt b→0≤p→p<1000000000→p1 (n,b,p,())=true) (hf1:∀n b p,Bt b→0≤p→p<1000000000→Pk n b p (f1 (n,b,p,())))
  (b:List Int) (p:Int) (hb:Bt b) (h1:0≤p) (h2:p<900000000):N9 (std 0) p1 f1 (b,p,()) (fun y=>Wd b p y):=by
 obtain⟨e1,e2,e3,e4⟩:=hf1 4 b p hb h1 (by omega)
 have P1:∀n,p1 (n,b,p+1,())=true:=fun n=>hp1 n b (p+1) hb (by omega) (by omega)
 have P2:∀n,p1 (n,b,p+1+1,())=true:=fun n=>hp1 n b (p+1+1) hb (by omega) (by omega)
 obtain⟨a1,a2,a3,a4⟩:=hf1 9 b (p+1) hb (by omega) (by omega)
 obtain⟨b1,b2,b3,b4⟩:=hf1 70 b (p+1) hb (by omega) (by omega)
 obtain⟨c1,c2,c3,c4⟩:=hf1 256 b (p+1) hb (by omega) (by omega)
 obtain⟨d1,d2,d3,d4⟩:=hf1 256 b (p+1+1) hb (by omega) (by omega)
 dsimp only [N9,Alg.cl,Alg.cg,Alg.rb,Alg.bd,Alg.l1,Tup.q,Tup.o]
 simp (disch:=omega) only [RR,hp1 4 b p hb h1 (by omega),P1,P2,e1,e2,a1,a2,b1,b2,c1,c2,d1,d2,List.length_cons,List.length_nil]
 refine⟨fun _=>⟨by omega,by omega,by omega,by omega,rfl,by dsimp only;omega,by dsimp only;omega,?_⟩,fun _=>⟨fun _=>⟨rfl,by dsimp only;omega,by dsimp only;omega,by dsimp only;omega⟩,fun _=>⟨rfl,by dsimp only;omega,by dsimp only;omega,?_⟩⟩⟩
 ·dsimp only
  have:=eD (d:=default) (xs:=[(0:Int),1,2,3,65535,32768,255,256,65534]) a3 (by simp only [List.length_cons,List.length_nil];omega)
  generalize List.getD [(0:Int),1,2,3,65535,32768,255,256,65534] _ default=z at this ⊢
  simp at this;omega
 ·dsimp only
  omega
end Go.TX.F
namespace Go.TX.F
open Go Go.AE Go.TX
structure aaO (n:Int) (b:List Int) (p:Int) (y:List Int×Int×List aj×Unit):Prop where
 b:y.1=b
 lo:p≤y.2.1
 hi:y.2.1≤p+200
 ok:aG y.2.2.1
 un:aW y.2.2.1 n
theorem afl {p1:Int×List Int×Int×Unit→Bool} {f1:Int×List Int×Int×Unit→Int×List Int×Int×Unit} (hp1:∀n b p,Bt b→0≤p→p<1000000000→p1 (n,b,p,())=true) (hf1:∀n b p,Bt b→0≤p→p<1000000000→Pk n b p (f1 (n,b,p,())))
  {p2:Int×Unit→Bool} {f2:Int×Unit→List aj×Unit} (hp2:∀n,p2 (n,())=true) (hf2:∀n,f2 (n,())=(gV n,()))
  {p4:List aj×List aj×Unit→Bool} {f4:List aj×List aj×Unit→Bool×List aj×Unit} (hp4:∀a b,Sh a→Sh b→p4 (a,b,())=true) (hf4:∀a b,Sh a→Sh b→f4 (a,b,())=((oD a b).1,(oD a b).2,()))
  {p5:List aj×List aj×Unit→Bool} {f5:List aj×List aj×Unit→Bool×List aj×Unit} (hp5:∀a b,Sh a→Sh b→p5 (a,b,())=true) (hf5:∀a b,Sh a→Sh b→f5 (a,b,())=((kW a b).1,(kW a b).2,()))
  {p6:Int×Unit→Bool} {f6:Int×Unit→List aj×Unit} (hp6:∀n,p6 (n,())=true) (hf6:∀n,f6 (n,())=(aQ n,()))
  {p3:List Int×Int×Unit→Bool} {f3:List Int×Int×Unit→Int×List Int×Int×Unit} (hp3:∀b p,Bt b→0≤p→p<900000000→p3 (b,p,())=true) (hf3:∀b p,Bt b→0≤p→p<900000000→Wd b p (f3 (b,p,())))
  (n:Int) (b:List Int) (p:Int) (hb:Bt b) (hn:0≤n) (h1:0≤p) (h2:p<500000000):Ow (std 0) p1 f1 p2 f2 p4 f4 p5 f5 p6 f6 p3 f3 (n,b,p,()) (fun y=>aaO n b p y):=by
 obtain⟨a1,a2,a3,a4⟩:=hf3 b p hb h1 (by omega)
 generalize hq:(f3 (b,p,())).2.2.1=q at a2 a3
 obtain⟨b1,b2,b3,b4⟩:=hf1 3 b q hb (by omega) (by omega)
 obtain⟨c1,c2,c3,c4⟩:=hf1 6 b (q+1) hb (by omega) (by omega)
 dsimp only [Ow,Alg.cl,Alg.cg,Alg.rb,Alg.bd,Alg.l1,Tup.q,Tup.o]
 simp (disch:=omega) only [RR,hp3 b p hb h1 (by omega),a1,hq,hp1 3 b q hb (by omega) (by omega),b1,b2,hp1 6 b (q+1) hb (by omega) (by omega),c1,c2,hp6,hf6,List.length_cons,List.length_nil]
 refine⟨by omega,by omega,by omega,by omega,by omega,by omega,by omega,by omega,?_⟩
 have kr:0≤List.getD [(0:Int),1,2,3,6,12] (f1 (6,b,q+1,())).1.toNat default∧List.getD [(0:Int),1,2,3,6,12] (f1 (6,b,q+1,())).1.toNat default≤12:=by
  have:=eD (d:=default) (xs:=[(0:Int),1,2,3,6,12]) c3 (by simp only [List.length_cons,List.length_nil];omega)
  generalize List.getD [(0:Int),1,2,3,6,12] _ default=z at this ⊢
  simp at this;omega
 generalize List.getD [(0:Int),1,2,3,6,12] (f1 (6,b,q+1,())).1.toNat default=k0 at kr ⊢
 generalize List.getD [(0:Int),1,(f3 (b,p,())).1] (f1 (3,b,q,())).1.toNat default=w0
 refine ay (fun(y:Int×Int×List Int×Int×List aj×Unit)=>y.1=n∧0≤y.2.1∧y.2.1≤12∧y.2.2.1=b∧p≤y.2.2.2.1∧y.2.2.2.1+6*y.2.1≤p+100∧aG y.2.2.2.2.1∧aW y.2.2.2.2.1 n) (fun y=>y.2.1.toNat)
  ⟨rfl,by simp;omega,by simp;omega,rfl,by simp;omega,by simp;omega,bE _,kF _ _⟩ ?_
 rintro⟨(n':Int),(k:Int),(b':List Int),(r:Int),(o:List aj),⟨⟩⟩ hI
 dsimp only at hI ⊢
 obtain⟨rfl,k1,k2,rfl,k3,k4,k5,k6⟩:=hI
 obtain⟨d1,d2,d3,d4⟩:=hf3 b' r hb (by omega) (by omega)
 generalize hs:(f3 (b',r,())).2.2.1=s at d2 d3
 obtain⟨e1,e2,e3,e4⟩:=hf1 3 b' s hb (by omega) (by omega)
 have em:=Int.emod_nonneg (f3 (b',r,())).1 (show(65535:Int)≠0 by omega)
 have em2:=Int.emod_lt_of_pos (f3 (b',r,())).1 (show(0:Int)<65535 by omega)
 have tm:=yQ (b:=65535) d4.1
 simp (disch:=omega) only [RR,hp3 b' r hb (by omega) (by omega),d1,hs,hp1 3 b' s hb (by omega) (by omega),e1,e2,tm]
 refine⟨fun k7=>⟨by omega,?_⟩,fun k7=>⟨rfl,by dsimp only;omega,by dsimp only;omega,k5,k6⟩⟩
 have m0:([⟨1+(f3 (b',r,())).1%65535,[]⟩]:List aj)=aQ (1+(f3 (b',r,())).1%65535):=by unfold aQ;rw [if_pos (by omega)]
 rw [m0]
 refine ay (fun(y:Int×Int×Int×List Int×Int×List aj×List aj×Unit)=>y.1=n'∧y.2.1=k∧0≤y.2.2.1∧y.2.2.1≤2∧y.2.2.2.1=b'∧r≤y.2.2.2.2.1∧y.2.2.2.2.1+y.2.2.1≤r+6∧y.2.2.2.2.2.1=o∧aG y.2.2.2.2.2.2.1∧aW y.2.2.2.2.2.2.1 n') (fun y=>y.2.2.1.toNat)
  ⟨rfl,rfl,e3,by dsimp only;omega,rfl,by dsimp only;omega,by dsimp only;omega,rfl,bE _,kF _ _⟩ ?_
 rintro⟨(n2:Int),(k':Int),(j:Int),(bb:List Int),(u:Int),(o':List aj),(m:List aj),⟨⟩⟩ hI
 dsimp only at hI ⊢
 obtain⟨rfl,rfl,j1,j2,rfl,j3,j4,rfl,j5,j6⟩:=hI
 obtain⟨g1,g2,g3,g4⟩:=hf1 n2 bb u hb (by omega) (by omega)
 have sA:=(jU (f1 (n2,bb,u,())).1).sh
 simp (disch:=omega) only [RR,hp1 n2 bb u hb (by omega) (by omega),g1,g2,hp2,hf2,hp4 m _ j5.sh sA,hf4 m _ j5.sh sA,hp5 o' m k5.sh j5.sh,hf5 o' m k5.sh j5.sh]
 refine⟨fun⟨i1,i2⟩=>⟨fun i3=>⟨⟨by omega,by omega,by omega,by omega,Jo _ _,xG j6 (lZ (by omega))⟩,by omega⟩,fun i3=>⟨⟨by omega,by omega,by omega,by omega,j5,j6⟩,by omega⟩⟩,fun i1=>⟨fun i3=>⟨⟨by omega,by omega,by omega,by omega,Bw _ _,xE k6 j6⟩,by omega⟩,fun i3=>⟨⟨by omega,by omega,by omega,by omega,k5,k6⟩,by omega⟩⟩⟩
end Go.TX.F
namespace Go.TX.F
open Go Go.AE Go.TX
def MI (n:Int) (t:List Atom):Prop:=(t.length:Int)=n∧All n (fun i=>((t).getD (i).toNat default)=⟨1,i,[],[]⟩)
theorem afm {p2:Int×Unit→Bool} {f2:Int×Unit→List aj×Unit} (hp2:∀n,p2 (n,())=true) (hf2:∀n,f2 (n,())=(gV n,())):OE (std 0) p2 f2 () (fun y=>MI 4 y.1∧y.2.1.length=4∧∀p∈y.2.1,Sh p):=by
 dsimp only [OE,Alg.cl,Alg.cg,Alg.rb,Alg.bd,Alg.l1,Tup.q,Tup.o]
 simp (disch:=omega) only [RR,hp2,hf2]
 refine ay (fun(y:Int×List (List aj)×List Atom×Unit)=>0≤y.1∧y.1≤4∧(y.2.1.length:Int)=y.1∧(∀p∈y.2.1,Sh p)∧MI y.1 y.2.2.1) (fun y=>(4-y.1).toNat) ⟨by simp,by simp,by simp,by simp,by simp,All.zero⟩ ?_
 rintro⟨(i:Int),(q:List (List aj)),(t:List Atom),⟨⟩⟩ hI
 dsimp only at hI ⊢
 obtain⟨h1,h2,h3,h0,h4,h5⟩:=hI
 simp (disch:=omega) only [RR,hp2,hf2,List.length_cons,List.length_nil]
 refine⟨fun h6=>⟨by omega,by omega,⟨by omega,by omega,by rw [List.length_append];simp only [List.length_cons,List.length_nil];omega,fun p hp=>(List.mem_append.1 hp).elim (h0 p) (fun g=>by rw [List.mem_singleton.1 g];exact(jU _).sh),by rw [List.length_append];simp only [List.length_cons,List.length_nil];omega,fun j j1 j2=> ?_⟩,by omega⟩,fun h6=> ?_⟩
 ·dsimp only
  have hl:((t++ [(⟨1,i,[],[]⟩:Atom)]).length:Int)=t.length+1:=by rw [List.length_append];rfl
  by_cases c:j<i
  ·have:=h5 j j1 c
   dsimp only at this
   rw [getD_lt (show j.toNat<t.length by omega)]at this
   rw [getD_lt (show j.toNat< (t++ [(⟨1,i,[],[]⟩:Atom)]).length by omega),List.getElem_append_left (show j.toNat<t.length by omega)];exact this
  ·have:j=i:=by omega
   subst this
   rw [getD_lt (show j.toNat< (t++ [(⟨1,j,[],[]⟩:Atom)]).length by omega),List.getElem_append_right (by omega)]
   simp
 ·rw [show i=4 by omega]at h4 h5;exact⟨⟨h4,h5⟩,by omega,h0⟩
structure amI (b:List Int) (p n:Int) (y:List Int×Int×List Atom×Unit):Prop where
 b:y.1=b
 lo:p≤y.2.1
 hi:y.2.1≤p+10000
 sh:ShT y.2.2.1
 ne:0<y.2.2.1.length
 le:(y.2.2.1.length:Int)≤n
end Go.TX.F
namespace Go.TX.F
open Go Go.AE Go.TX
theorem yR {l o:List aj} (h:aG o) (h2:∀k,cf o k=cf l k%65536):yO l=(true,o):=by
 unfold yO;rw [Xi h.nf h2,bZ h,if_pos rfl]
theorem FY {x:List aj} (h:aG x):aG (gP x 65535)∧∀k,cf (gP x 65535) k=(65535*cf x k)%65536:=by
 have hc:∀(l:List aj) k,cf (l.map fun m=>(⟨m.bH*65535%65536,m.atoms⟩:aj)) k%65536=(65535*cf l k)%65536:=fun l k=>by
  induction l with
  | nil=>rfl
  | cons m l ih=>rw [List.map_cons,cB,cB];dsimp only;split<;>omega
 have no:Nf (x.map fun m=>(⟨m.bH*65535%65536,m.atoms⟩:aj)):=⟨by
  rw [List.pairwise_map];exact h.nf.ss,fun m hm=>by
  rw [List.mem_map]at hm
  obtain⟨n,hn,rfl⟩:=hm
  have:=h.nf.co n hn
  dsimp only;omega⟩
 have ok:aG (x.map fun m=>(⟨m.bH*65535%65536,m.atoms⟩:aj)):=fF.2 ⟨no,by rw [List.length_map];exact h.len,fun m hm=>by
  rw [List.mem_map]at hm
  obtain⟨n,hn,rfl⟩:=hm
  exact show n.atoms.length≤4∧aok n.atoms from h.aok hn⟩
 have pe:prods x (aQ 65535)=x.map fun m=>(⟨m.bH*65535%65536,m.atoms⟩:aj):=by
  unfold aQ;rw [if_pos (by omega),uY]
  exact List.map_congr_left fun m hm=>yP 65535 (h.aok hm).2
 have e:gP x 65535=x.map fun m=>(⟨m.bH*65535%65536,m.atoms⟩:aj):=by
  unfold gP oD
  rw [if_pos (by rw [bZ h];rfl),if_pos (by rw [bZ h,bZ (bE _)];rfl),pe,yR ok (fun k=>by have:=no.bnd k;omega)]
 rw [e]
 exact⟨ok,fun k=>by rw [←hc];have:=no.bnd k;omega⟩
theorem sub_self {x:List aj} (h:aG x):jo 2 x x=([],true):=by
 obtain⟨h1,h2⟩:=FY h
 unfold jo kW
 rw [if_neg (by omega),if_pos rfl,if_pos (by rw [bZ h,bZ h1];rfl),yR bL (fun k=>by rw [dh,h2,iN];omega)]
theorem qC {x:List aj} (h:(bK x).2=true):aG x∧x=aQ (bK x).1∧0≤(bK x).1∧(bK x).1≤65535:=by
 unfold bK at h ⊢
 by_cases c:aG x
 ·rw [bZ c,if_pos rfl]at h ⊢
  refine⟨c,?_⟩
  by_cases c1:x.length=0
  ·rw [if_pos c1];exact⟨by rw [List.eq_nil_of_length_eq_zero c1];rfl,by omega,by omega⟩
  ·rw [if_neg c1]at h ⊢
   by_cases c2:x.length=1∧(x.getD 0 default).atoms.length=0
   ·rw [if_pos c2]
    match x,c,c2 with
    | [m],c,c2=>
     have hc:=c.nf.co m (by simp)
     have ha:m.atoms=[]:=List.eq_nil_of_length_eq_zero c2.2
     refine⟨?_,by show 0≤m.bH;omega,by show m.bH≤65535;omega⟩
     show [m]=aQ m.bH
     unfold aQ;rw [if_pos hc,←ha]
   ·rw [if_neg c2]at h;exact absurd h (by simp)
 ·rw [gG c]at h;exact absurd h (by simp)
theorem l9 {a:Int} (h:0≤a∧a≤65535) (k:List Int):cf (aQ a) k=if []=k then a else 0:=by
 unfold aQ
 by_cases c:1≤a∧a≤65535
 ·rw [if_pos c,cB,iN,Int.add_zero]
 ·rw [if_neg c,iN];split<;>omega
theorem gH {a:Int} (h:0≤a∧a≤65535):bK (aQ a)=(a,true):=by
 unfold bK
 rw [bZ (bE a),if_pos rfl]
 unfold aQ
 by_cases c:1≤a∧a≤65535
 ·rw [if_pos c];rfl
 ·rw [if_neg c,show a=0 by omega];rfl
theorem QM {op a b:Int} (hop:1≤op∧op≤5) (ha:0≤a∧a≤65535) (hb:0≤b∧b≤65535):jo op (aQ a) (aQ b)=(aQ (wdo op a b),true):=by
 have hm:=Jk ha.1 ha.2 hb.1 hb.2
 unfold jo
 by_cases c1:op=1
 ·subst c1
  have w:wdo 1 a b=(a+b)%65536:=by unfold wdo;rw [if_pos ⟨ha,hb⟩];rfl
  rw [if_pos rfl,w];unfold kW
  rw [if_pos (by rw [bZ (bE _),bZ (bE _)];rfl),yR (bE ((a+b)%65536)) (fun k=>by rw [dh,l9 ha,l9 hb,l9 (by omega)];split<;>omega)]
 ·rw [if_neg c1]
  by_cases c2:op=2
  ·subst c2
   have w:wdo 2 a b=(a-b)%65536:=by unfold wdo;rw [if_pos ⟨ha,hb⟩];rfl
   obtain⟨s1,s2⟩:=FY (bE b)
   rw [if_pos rfl,w];unfold kW
   rw [if_pos (by rw [bZ (bE _),bZ s1];rfl),yR (bE ((a-b)%65536)) (fun k=>by rw [dh,l9 ha,s2,l9 hb,l9 (by omega)];split<;>omega)]
  ·rw [if_neg c2]
   by_cases c3:op=3
   ·subst c3
    have w:wdo 3 a b=(a*b)%65536:=by unfold wdo;rw [if_pos ⟨ha,hb⟩];rfl
    rw [if_pos rfl,w];unfold oD
    rw [if_pos (by rw [bZ (bE _),bZ (bE _)];rfl),yR (bE ((a*b)%65536)) (fun k=> ?_)]
    rw [l9 (by omega)]
    by_cases p1:1≤a
    ·by_cases p2:1≤b
     ·have e1:aQ a=[⟨a,[]⟩]:=by unfold aQ;rw [if_pos ⟨p1,ha.2⟩]
      have e2:aQ b=[⟨b,[]⟩]:=by unfold aQ;rw [if_pos ⟨p2,hb.2⟩]
      rw [e1,e2,uY,List.map_cons,List.map_nil,yP b ⟨List.Pairwise.nil,fun k hk=>absurd hk (by simp)⟩,cB,iN]
      dsimp only;split<;>omega
     ·have e0:b=0:=by omega
      subst e0
      rw [show prods (aQ a) (aQ 0)=[] by simp [prods,aQ],iN];split<;>simp
    ·have e0:a=0:=by omega
     subst e0
     rw [show prods (aQ 0) (aQ b)=[] by simp [prods,aQ],iN];split<;>simp
   ·rw [if_neg c3,Tq,gH ha,gH hb];rfl
end Go.TX.F
namespace Go.TX.F
open Go Go.AE Go.TX
end Go.TX.F
namespace Go.TX.F
open Go Go.AE Go.TX
end Go.TX.F
namespace Go.TX.F
open Go Go.AE Go.TX
def wOK (l:List Int):Prop:=∀z∈l,0≤z∧z≤65535
theorem wOK.at {l:List Int} (h:wOK l) (n:Nat):0≤l.getD n default∧l.getD n default≤65535:=by
 by_cases hn:n<l.length
 ·rw [getD_lt hn];exact h _ (List.getElem_mem _)
 ·rw [List.getD,List.getElem?_eq_none (by omega)];decide
theorem wOK.snoc {l:List Int} (h:wOK l) {x:Int} (hx:0≤x∧x≤65535):wOK (l++ [x]):=fun z hz=>by
 rw [List.mem_append,List.mem_singleton]at hz
 rcases hz with hz | rfl
 ·exact h z hz
 ·exact hx
end Go.TX.F
namespace Go.TX.F
open Go Go.AE Go.TX
def ins (c:Int) (at_:List Int):List aj→List aj
 | []=>if c%65536=0 then []else [⟨c%65536,at_⟩]
 | m::o=>if fQ at_ m.atoms<0 then(if c%65536=0 then m::o else⟨c%65536,at_⟩::m::o)
  else if at_=m.atoms then(if(c+m.bH)%65536=0 then o else⟨(c+m.bH)%65536,at_⟩::o)else m::ins c at_ o
theorem XE {op:Int} (hop:1≤op∧op≤5) {x y:List aj} (hx:aG x) (hy:aG y):aG (jo op x y).1:=by
 unfold jo
 split
 ·exact Bw _ _
 ·split
  ·exact Bw _ _
  ·split
   ·exact Jo _ _
   ·unfold Gw
    repeat' split
    all_goals first | exact bE _ | exact bL | assumption
end Go.TX.F
namespace Go.TX.F
open Go Go.AE Go.TX
end Go.TX.F
namespace Go.TX.F
open Go Go.AE Go.TX
@[reducible] def hX (o : IOp) : Prop := o.kind ≠ 1 ∧ o.kind ≠ 2 ∧ o.kind ≠ 6
@[reducible] def hY (o : IOp) : Prop := o.kind = 3 ∨ o.kind = 5
@[reducible] def mkV (o : IOp) : Prop := (1 ≤ o.kind ∧ o.kind ≤ 4) ∨ o.kind = 6
@[reducible] def evO (o : IOp) : Prop := 4 ≤ o.kind ∧ o.kind ≤ 7
def Vl (ops:List IOp) (x n:Int):Prop:=0≤x∧x<n∧mkV ((ops).getD (x).toNat default)
structure Jp (ops:List IOp) (len i:Int) (o:IOp):Prop where
 kd:1≤o.kind∧o.kind≤8
 x1:hX o→Vl ops o.x i
 x0:¬hX o→o.x=0
 y1:hY o→Vl ops o.y i
 y0:¬hY o→o.y=0
 k1:o.kind=1→0≤o.k∧o.k≤65535
 k2:o.kind=2∨o.kind=8→0≤o.k∧o.k≤3
 k3:o.kind=3→1≤o.k∧o.k≤5
 k0:4≤o.kind→o.kind≤7→o.k=0
 a1:evO o→0≤o.at_∧o.at_<len
 a0:¬evO o→o.at_=0
structure Ia (b:Blk):Prop where
 f:1≤b.fin∧b.fin≤4
 x1:b.fin≠1→Vl b.ops b.x b.ops.length
 x0:b.fin=1→b.x=0
 y1:3≤b.fin→Vl b.ops b.y b.ops.length
 y0:b.fin≤2→b.y=0
 k1:b.fin≠2→0≤b.k∧b.k≤65535
 k0:b.fin=2→b.k=0
structure eF (b:Blk):Prop where
 ln:1≤b.len∧b.len≤8
 pc:0≤b.pc∧b.pc≤64-b.len
 sz:b.ops.length≤48
 op:∀i:Int,0≤i→i<b.ops.length→Jp b.ops b.len i ((b.ops).getD (i).toNat default)
 en:Ia b
structure SS where
 t:List Atom
 regs:List (List aj)
 vals:List (List aj)
 ld:Int
 inn:Int
 evs:List Ev
def xOf (s:SS) (o:IOp):List aj:=if hX o then((s.vals).getD (o.x).toNat default)else []
def yOf (s:SS) (o:IOp):List aj:=if hY o then((s.vals).getD (o.y).toNat default)else []
def aOf (s:SS) (o:IOp):Atom:=if o.kind=4 then⟨2,s.ld,[],[]⟩else⟨3,s.inn,[],[]⟩
noncomputable def nT (s:SS) (o:IOp):List Atom:=if o.kind=3 then(tDo s.t o.k (xOf s o) (yOf s o)).1 else if o.kind=4∨o.kind=6 then(bM s.t (aOf s o)).1 else s.t
noncomputable def nV (s:SS) (o:IOp):List aj:=if o.kind=1 then aQ o.k else if o.kind=2 then((s.regs).getD (o.k).toNat default)else if o.kind=3 then(tDo s.t o.k (xOf s o) (yOf s o)).2 else if o.kind=4∨o.kind=6 then gV (bM s.t (aOf s o)).2 else []
def nR (s:SS) (o:IOp):List (List aj):=if o.kind=8 then s.regs.set o.k.toNat (xOf s o)else s.regs
def nE (s:SS) (o:IOp):List Ev:=if evO o then s.evs++ [⟨o.kind,o.at_,xOf s o,yOf s o,if o.kind=4∨o.kind=5 then s.regs else []⟩]else s.evs
noncomputable def stp (s:SS) (o:IOp):SS:=⟨nT s o,nR s o,s.vals++ [nV s o],if o.kind=4 then s.ld+1 else s.ld,if o.kind=6 then s.inn+1 else s.inn,nE s o⟩
noncomputable def rN (t:List Atom):Nat→List Atom×List (List aj)
 | 0=>(t,[])
 | n+1=>((bM (rN t n).1 ⟨1,n,[],[]⟩).1,(rN t n).2++ [gV (bM (rN t n).1 ⟨1,n,[],[]⟩).2])
noncomputable def s0 (t:List Atom):SS:=⟨(rN t 4).1,(rN t 4).2,[],0,0,[]⟩
noncomputable def fJ (t:List Atom) (b:Blk):SS:=b.ops.foldl stp (s0 t)
def kI (b:Blk) (s:SS):Sym:=⟨s.evs,s.regs,b.fin,if b.fin=1 then []else((s.vals).getD (b.x).toNat default),if 3≤b.fin then((s.vals).getD (b.y).toNat default)else [],b.k⟩
def QN:Sym:=⟨[],[],0,[],[],0⟩
noncomputable def symEnd (s:Sym) (behind:Int):Sym:=
 if bp (aG s.x∧aG s.y)=false then QN
 else if s.fin=2∧(bK s.x).2=true then⟨s.events,s.regs,1,[],[],(bK s.x).1⟩
 else if s.fin≠3∧s.fin≠4 then s
 else if s.x=s.y∨(bK s.x).2=true∧(bK s.y).2=true then
  ⟨s.events,s.regs,1,[],[],if s.x=s.y∧s.fin=3∨((bK s.x).2=true∧(bK s.y).2=true)∧(s.fin=3∧(bK s.x).1=(bK s.y).1∨s.fin=4∧(bK s.x).1< (bK s.y).1)then s.k else behind⟩
 else if s.fin=3∧0<eu s.x s.y then⟨s.events,s.regs,s.fin,s.y,s.x,s.k⟩else s
noncomputable def bJ (t:List Atom) (b:Blk):List Atom×Sym:=if bp (aF t∧t.length≤100∧eF b)=true then((fJ t b).t,symEnd (kI b (fJ t b)) (b.pc+b.len))else([],QN)
theorem tT (t:List Atom) (a:Atom):t<+:(bM t a).1:=by
 unfold bM
 split
 ·exact List.prefix_refl _
 ·split
  ·exact List.prefix_refl _
  ·exact List.prefix_append _ _
theorem BA {α:Type} {a b:List α} (h:a<+:b):a.length≤b.length:=h.length_le
theorem XF {α:Type} {d:α} {a b:List α} (h:a<+:b) {i:Int} (h1:i.toNat<a.length):b.getD i.toNat d=a.getD i.toNat d:=by
 obtain⟨c,rfl⟩:=h
 rw [getD_lt h1,getD_lt (by rw [List.length_append];omega),List.getElem_append_left h1]
theorem uZ {t:List Atom} {a:Atom} (h:0≤(bM t a).2):(bM t a).2< (bM t a).1.length∧(((bM t a).1).getD ((bM t a).2).toNat default)=a:=by
 have hsp:=jf t a
 revert h
 unfold bM
 split
 ·intro h
  rcases hsp with⟨h1,_⟩ | ⟨_,h2,h3,_⟩
  ·exact absurd h (by dsimp only;omega)
  ·exact⟨h2,h3.symm⟩
 ·split
  ·intro h;exact absurd h (by dsimp only;omega)
  ·intro _
   dsimp only
   refine⟨by rw [List.length_append];simp only [List.length_cons,List.length_nil];omega,?_⟩
   rw [getD_lt (by rw [List.length_append];simp only [List.length_cons,List.length_nil];omega)]
   simp
theorem QO {u:List Atom} {a:Atom} (hu:aF u) {k:Int} (h0:0≤k) (h1:k<u.length) (h2:((u).getD (k).toNat default)=a):bM u a=(u,k):=by
 have hf:yN u a=k:=by
  refine(jf u a).uniq (Or.inr ⟨h0,h1,h2.symm,fun j j1 j2=> ?_⟩)
  have:=(kZ.1 hu).1 k h0 h1
  have g:=this.2 j j1 j2
  dsimp only at g ⊢
  rw [h2]at g;exact g
 unfold bM
 rw [hf,if_pos h0]
theorem yS {t u:List Atom} {a:Atom} (hu:aF u) (h:0≤(bM t a).2) (hp:(bM t a).1<+:u):bM u a=(u,(bM t a).2):=by
 obtain⟨g1,g2⟩:=uZ h
 have:=BA hp
 exact QO hu h (by omega) (by rw [XF hp (by omega),g2])
theorem MJ {op n:Int} {x y:List aj} (ux:aW x n) (uy:aW y n):aW (jo op x y).1 n:=by
 unfold jo
 split
 ·exact xE ux uy
 ·split
  ·refine xE ux ?_
   unfold gP
   split
   ·exact xG uy (kF _ _)
   ·exact iH _
  ·split
   ·exact xG ux uy
   ·unfold Gw
    repeat' split
    all_goals first | exact ux | exact uy | exact iH _ | exact kF _ _
structure afn (t:List Atom) (op:Int) (x y:List aj):Prop where
 tok:aF (tDo t op x y).1
 pre:t<+:(tDo t op x y).1
 len:(tDo t op x y).1.length≤t.length+1
 pok:aG (tDo t op x y).2
 und:aW (tDo t op x y).2 (tDo t op x y).1.length
 ok:tOk t op x y=true
theorem ZW {t:List Atom} {op:Int} {x y:List aj} (h:aF t) (h2:t.length<200) (h3:1≤op∧op≤5) (hx:aG x) (hy:aG y) (ux:aW x t.length) (uy:aW y t.length):afn t op x y:=by
 by_cases c:(jo op x y).2=true
 ·have e:tDo t op x y=(t,(jo op x y).1):=by unfold tDo;rw [if_pos c]
  refine⟨?_,?_,?_,?_,?_,by unfold tOk;rw [c];rfl⟩<;>rw [e]
  ·exact h
  ·exact List.prefix_refl _
  ·exact Nat.le_succ _
  ·exact XE h3 hx hy
  ·exact MJ ux uy
 ·have key:∀x' y',aG x'→aG y'→aW x' t.length→aW y' t.length→0≤(bM t ⟨4,op,x',y'⟩).2∧aF (bM t ⟨4,op,x',y'⟩).1∧(bM t ⟨4,op,x',y'⟩).1.length≤t.length+1:=fun x' y' a1 a2 a3 a4=>by
   have p1:=Bz (a:=⟨4,op,x',y'⟩) h h2
   have q1:=p1.2.2.2 (by unfold iO;rw [if_pos rfl];exact⟨h3,a1,a2,a3,a4⟩)
   exact⟨q1,p1.1,p1.2.2.1⟩
  by_cases c2:op≠2∧0<eu x y
  ·obtain⟨k1,k2,k3⟩:=key y x hy hx uy ux
   have e:tDo t op x y=((bM t ⟨4,op,y,x⟩).1,gV (bM t ⟨4,op,y,x⟩).2):=by unfold tDo;rw [if_neg c,if_pos c2,if_neg (by omega)]
   refine⟨?_,?_,?_,?_,?_,by unfold tOk;rw [if_pos c2,decide_eq_false (by omega),Bool.not_false,Bool.or_true]⟩<;>rw [e]
   ·exact k2
   ·exact tT _ _
   ·exact k3
   ·exact jU _
   ·exact lZ (uZ k1).1
  ·obtain⟨k1,k2,k3⟩:=key x y hx hy ux uy
   have e:tDo t op x y=((bM t ⟨4,op,x,y⟩).1,gV (bM t ⟨4,op,x,y⟩).2):=by unfold tDo;rw [if_neg c,if_neg c2,if_neg (by omega)]
   refine⟨?_,?_,?_,?_,?_,by unfold tOk;rw [if_neg c2,decide_eq_false (by omega),Bool.not_false,Bool.or_true]⟩<;>rw [e]
   ·exact k2
   ·exact tT _ _
   ·exact k3
   ·exact jU _
   ·exact lZ (uZ k1).1
theorem XG {t u:List Atom} {op:Int} {x y:List aj} (hu:aF u) (h:tOk t op x y=true) (hp:(tDo t op x y).1<+:u):tDo u op x y=(u,(tDo t op x y).2):=by
 by_cases c:(jo op x y).2=true
 ·unfold tDo;rw [if_pos c,if_pos c]
 ·by_cases c2:op≠2∧0<eu x y
  ·have k1:0≤(bM t ⟨4,op,y,x⟩).2:=by
    unfold tOk at h;rw [if_pos c2,Bool.or_eq_true,Bool.not_eq_true',decide_eq_false_iff_not]at h;have:=h.resolve_left c;omega
   have e:tDo t op x y=((bM t ⟨4,op,y,x⟩).1,gV (bM t ⟨4,op,y,x⟩).2):=by unfold tDo;rw [if_neg c,if_pos c2,if_neg (by omega)]
   rw [e]at hp ⊢
   have:=yS hu k1 hp
   unfold tDo;rw [if_neg c,if_pos c2,this,if_neg (by dsimp only;omega)]
  ·have k1:0≤(bM t ⟨4,op,x,y⟩).2:=by
    unfold tOk at h;rw [if_neg c2,Bool.or_eq_true,Bool.not_eq_true',decide_eq_false_iff_not]at h;have:=h.resolve_left c;omega
   have e:tDo t op x y=((bM t ⟨4,op,x,y⟩).1,gV (bM t ⟨4,op,x,y⟩).2):=by unfold tDo;rw [if_neg c,if_neg c2,if_neg (by omega)]
   rw [e]at hp ⊢
   have:=yS hu k1 hp
   unfold tDo;rw [if_neg c,if_neg c2,this,if_neg (by dsimp only;omega)]
end Go.TX.F
namespace Go.TX.F
open Go Go.AE Go.TX
structure SI (n:Int) (i:Nat) (s:SS):Prop where
 tok:aF s.t
 tl:(s.t.length:Int)≤n+i
 r4:s.regs.length=4
 rok:∀p∈s.regs,aG p∧aW p s.t.length
 vl:s.vals.length=i
 vok:∀p∈s.vals,aG p∧aW p s.t.length
 ld:0≤s.ld∧s.ld≤i
 inn:0≤s.inn∧s.inn≤i
theorem zW {l:List (List aj)} {n:Int} (h:∀p∈l,aG p∧aW p n) (i:Int):aG ((l).getD (i).toNat default)∧aW ((l).getD (i).toNat default) n:=by
 by_cases c:i.toNat<l.length
 ·rw [getD_lt c];exact h _ (List.getElem_mem _)
 ·rw [List.getD_eq_getElem?_getD,List.getElem?_eq_none (by omega)];exact⟨bL,iH _⟩
theorem SI.x {n:Int} {i:Nat} {s:SS} (h:SI n i s) (o:IOp):aG (xOf s o)∧aW (xOf s o) s.t.length:=by
 unfold xOf;split
 ·exact zW h.vok _
 ·exact⟨bL,iH _⟩
theorem SI.y {n:Int} {i:Nat} {s:SS} (h:SI n i s) (o:IOp):aG (yOf s o)∧aW (yOf s o) s.t.length:=by
 unfold yOf;split
 ·exact zW h.vok _
 ·exact⟨bL,iH _⟩
theorem ZX {n:Int} {i:Nat} {s:SS} (h:SI n i s) (hi:i<200) (o:IOp) (m:Int):iO (aOf s o) m:=by
 have h1:=h.ld
 have h2:=h.inn
 unfold aOf
 split
 ·unfold iO;rw [if_neg (by simp)];exact⟨⟨rfl,rfl⟩,Or.inr ⟨Or.inl rfl,by dsimp only;omega,by dsimp only;omega⟩⟩
 ·unfold iO;rw [if_neg (by simp)];exact⟨⟨rfl,rfl⟩,Or.inr ⟨Or.inr rfl,by dsimp only;omega,by dsimp only;omega⟩⟩
structure SOK (s:SS) (o:IOp):Prop where
 pre:s.t<+:(stp s o).t
 d:o.kind=3→afn s.t o.k (xOf s o) (yOf s o)
 p:o.kind=4∨o.kind=6→0≤(bM s.t (aOf s o)).2
theorem Jq {n:Int} {i:Nat} {s:SS} {o:IOp} (h:SI n i s) (hk:o.kind=3→1≤o.k∧o.k≤5) (hn:n+i<200) (hi:i<200):SI n (i+1) (stp s o)∧SOK s o:=by
 have hl:=h.tl
 have tl:s.t.length<200:=by omega
 have hd:o.kind=3→afn s.t o.k (xOf s o) (yOf s o):=fun e=>ZW h.tok tl (hk e) (h.x o).1 (h.y o).1 (h.x o).2 (h.y o).2
 have hput:=Bz (a:=aOf s o) h.tok tl
 have hp:=hput.2.2.2 (ZX h hi o _)
 have T:aF (nT s o)∧(nT s o).length≤s.t.length+1∧s.t<+:nT s o:=by
  unfold nT
  split
  ·rename_i e;have:=hd e;exact⟨this.tok,this.len,this.pre⟩
  ·split
   ·exact⟨hput.1,hput.2.2.1,tT _ _⟩
   ·exact⟨h.tok,Nat.le_succ _,List.prefix_refl _⟩
 have up:∀ {p:List aj},aG p∧aW p s.t.length→aG p∧aW p (nT s o).length:=fun hp=>⟨hp.1,uX hp.2 (by have:=BA T.2.2;omega)⟩
 have V:aG (nV s o)∧aW (nV s o) (nT s o).length:=by
  unfold nV
  split
  ·exact⟨bE _,kF _ _⟩
  ·split
   ·exact up (zW h.rok _)
   ·split
    ·rename_i e
     have:=hd e
     refine⟨this.pok,?_⟩
     have e2:nT s o=(tDo s.t o.k (xOf s o) (yOf s o)).1:=by unfold nT;rw [if_pos e]
     rw [e2];exact this.und
    ·split
     ·rename_i e1 e2
      have e3:nT s o=(bM s.t (aOf s o)).1:=by unfold nT;rw [if_neg (by omega),if_pos e2]
      rw [e3]
      exact⟨jU _,lZ (uZ hp).1⟩
     ·exact⟨bL,iH _⟩
 have g1:=h.ld
 have g2:=h.inn
 refine⟨⟨T.1,?_,?_,?_,?_,?_,?_,?_⟩,⟨T.2.2,hd,fun _=>hp⟩⟩
 ·have:=T.2.1;show((nT s o).length:Int)≤_;omega
 ·show(nR s o).length=4
  unfold nR;split
  ·rw [List.length_set];exact h.r4
  ·exact h.r4
 ·show∀p∈nR s o,_
  intro p hp
  unfold nR at hp;split at hp
  ·rcases List.mem_or_eq_of_mem_set hp with hp | rfl
   ·exact up (h.rok p hp)
   ·exact up (h.x o)
  ·exact up (h.rok p hp)
 ·show(s.vals++ [nV s o]).length=i+1
  rw [List.length_append,h.vl];rfl
 ·show∀p∈s.vals++ [nV s o],_
  intro p hp
  rw [List.mem_append,List.mem_singleton]at hp
  rcases hp with hp | rfl
  ·exact up (h.vok p hp)
  ·exact V
 ·show 0≤(if o.kind=4 then s.ld+1 else s.ld)∧(if o.kind=4 then s.ld+1 else s.ld)≤_
  split<;>omega
 ·show 0≤(if o.kind=6 then s.inn+1 else s.inn)∧(if o.kind=6 then s.inn+1 else s.inn)≤_
  split<;>omega
theorem zY {n:Int}:∀(ops:List IOp) (i:Nat) (s:SS),SI n i s→(∀o∈ops,o.kind=3→1≤o.k∧o.k≤5)→n+i+ops.length≤200→i+ops.length≤200→SI n (i+ops.length) (ops.foldl stp s)∧s.t<+:(ops.foldl stp s).t
 | [],i,s,h,_,_,_=>⟨h,List.prefix_refl _⟩
 | o::r,i,s,h,hk,h1,h2=>by
  rw [List.length_cons]at h1 h2
  obtain⟨a1,a2⟩:=Jq h (hk o List.mem_cons_self) (by omega) (by omega)
  obtain⟨b1,b2⟩:=zY r (i+1) (stp s o) a1 (fun o ho=>hk o (List.mem_cons_of_mem _ ho)) (by omega) (by omega)
  rw [List.foldl_cons,List.length_cons,show i+(r.length+1)=i+1+r.length by omega]
  exact⟨b1,a2.pre.trans b2⟩
structure RI (t:List Atom) (n:Nat) (r:List Atom×List (List aj)):Prop where
 tok:aF r.1
 tl:r.1.length≤t.length+n
 pre:t<+:r.1
 r4:r.2.length=n
 rok:∀p∈r.2,aG p∧aW p r.1.length
theorem FZ {t:List Atom} (h:aF t) (hl:t.length≤196):∀n:Nat,n≤4→RI t n (rN t n)
 | 0,_=>⟨h,Nat.le_refl _,List.prefix_refl _,rfl,fun p hp=>absurd hp (by simp [rN])⟩
 | n+1,hn=>by
  have ih:=FZ h hl n (by omega)
  have l:=ih.tl
  have hp:=Bz (a:=⟨1,n,[],[]⟩) ih.tok (by omega)
  have h0:=hp.2.2.2 (by unfold iO;rw [if_neg (by simp)];exact⟨⟨rfl,rfl⟩,Or.inl ⟨rfl,by dsimp only;omega,by dsimp only;omega⟩⟩)
  have pr:=tT (rN t n).1 ⟨1,n,[],[]⟩
  unfold rN
  refine⟨hp.1,?_,ih.pre.trans pr,?_,fun p h=> ?_⟩
  ·have:=hp.2.2.1;dsimp only;omega
  ·dsimp only;rw [List.length_append,ih.r4];rfl
  ·dsimp only at h ⊢
   rw [List.mem_append,List.mem_singleton]at h
   rcases h with h | rfl
   ·have:=ih.rok p h;exact⟨this.1,uX this.2 (by have:=BA pr;omega)⟩
   ·exact⟨jU _,lZ (uZ h0).1⟩
theorem QS {t:List Atom} (h:aF t) (hl:t.length≤196) {n:Nat} (hn:n<4):0≤(bM (rN t n).1 ⟨1,n,[],[]⟩).2:=by
 have ih:=FZ h hl n (by omega)
 have l:=ih.tl
 exact(Bz (a:=⟨1,n,[],[]⟩) ih.tok (by omega)).2.2.2 (by unfold iO;rw [if_neg (by simp)];exact⟨⟨rfl,rfl⟩,Or.inl ⟨rfl,by dsimp only;omega,by dsimp only;omega⟩⟩)
theorem Ib {t:List Atom} (h:aF t) (hl:t.length≤196):SI (t.length+4) 0 (s0 t):=by
 have:=FZ h hl 4 (by omega)
 have l:=this.tl
 exact⟨this.tok,by show((rN t 4).1.length:Int)≤_;omega,this.r4,this.rok,rfl,fun p hp=>absurd hp (by simp [s0]),by simp [s0],by simp [s0]⟩
theorem eF.k3 {b:Blk} (h:eF b):∀o∈b.ops,o.kind=3→1≤o.k∧o.k≤5:=fun o ho=>by
 obtain⟨i,hi,rfl⟩:=List.getElem_of_mem ho
 have:=(h.op i (by omega) (by omega)).k3
 rw [show(i:Int).toNat=i from rfl,getD_lt hi]at this
 exact this
theorem Jr {t:List Atom} {b:Blk} (h:aF t) (hl:t.length≤100) (hb:eF b):SI (t.length+4) b.ops.length (fJ t b)∧t<+:(fJ t b).t:=by
 have sz:=hb.sz
 obtain⟨h1,h2⟩:=zY b.ops 0 (s0 t) (Ib h (by omega)) hb.k3 (by omega) (by omega)
 rw [Nat.zero_add]at h1
 exact⟨h1,(FZ h (by omega) 4 (by omega)).pre.trans h2⟩
def SS.on (s:SS) (u:List Atom):SS:=⟨u,s.regs,s.vals,s.ld,s.inn,s.evs⟩
theorem afo {s:SS} {o:IOp} {u:List Atom} (hu:aF u) (h:SOK s o) (hp:(stp s o).t<+:u):stp (s.on u) o=(stp s o).on u:=by
 have hp:nT s o<+:u:=hp
 have ex:xOf (s.on u) o=xOf s o:=rfl
 have ey:yOf (s.on u) o=yOf s o:=rfl
 have ea:aOf (s.on u) o=aOf s o:=rfl
 have eT:nT (s.on u) o=u:=by
  unfold nT
  split
  ·rename_i e
   rw [ex,ey]
   have h3:=(h.d e).ok
   unfold nT at hp;rw [if_pos e]at hp
   rw [show(s.on u).t=u from rfl,XG hu h3 hp]
  ·split
   ·rename_i e1 e2
    unfold nT at hp;rw [if_neg e1,if_pos e2]at hp
    rw [ea,show(s.on u).t=u from rfl,yS hu (h.p e2) hp]
   ·rfl
 have eV:nV (s.on u) o=nV s o:=by
  unfold nV
  split
  ·rfl
  ·split
   ·rfl
   ·split
    ·rename_i e
     rw [ex,ey]
     have h3:=(h.d e).ok
     unfold nT at hp;rw [if_pos e]at hp
     rw [show(s.on u).t=u from rfl,XG hu h3 hp]
    ·split
     ·rename_i e1 e2
      unfold nT at hp;rw [if_neg e1,if_pos e2]at hp
      rw [ea,show(s.on u).t=u from rfl,yS hu (h.p e2) hp]
     ·rfl
 show SS.mk (nT (s.on u) o) (nR (s.on u) o) ((s.on u).vals++ [nV (s.on u) o]) _ _ (nE (s.on u) o)=SS.mk u (nR s o) (s.vals++ [nV s o]) _ _ (nE s o)
 rw [eT,eV];rfl
theorem XH {n:Int} {u:List Atom} (hu:aF u):∀(ops:List IOp) (i:Nat) (s:SS),SI n i s→(∀o∈ops,o.kind=3→1≤o.k∧o.k≤5)→n+i+ops.length≤200→i+ops.length≤200→(ops.foldl stp s).t<+:u→ops.foldl stp (s.on u)=(ops.foldl stp s).on u
 | [],i,s,h,_,_,_,_=>rfl
 | o::r,i,s,h,hk,h1,h2,hp=>by
  rw [List.length_cons]at h1 h2
  obtain⟨a1,a2⟩:=Jq h (hk o List.mem_cons_self) (by omega) (by omega)
  rw [List.foldl_cons]at hp
  obtain⟨_,b2⟩:=zY r (i+1) (stp s o) a1 (fun o ho=>hk o (List.mem_cons_of_mem _ ho)) (by omega) (by omega)
  rw [List.foldl_cons,List.foldl_cons,afo hu a2 (b2.trans hp)]
  exact XH hu r (i+1) (stp s o) a1 (fun o ho=>hk o (List.mem_cons_of_mem _ ho)) (by omega) (by omega) hp
theorem aaP {t u:List Atom} (h:aF t) (hl:t.length≤196) (hu:aF u):∀n:Nat,n≤4→(rN t n).1<+:u→rN u n=(u,(rN t n).2)
 | 0,_,_=>rfl
 | n+1,hn,hp=>by
  have h0:=QS h hl (n:=n) (by omega)
  have pr:=tT (rN t n).1 ⟨1,n,[],[]⟩
  have hp':(bM (rN t n).1 ⟨1,n,[],[]⟩).1<+:u:=hp
  have ih:=aaP h hl hu n (by omega) (pr.trans hp')
  show((bM (rN u n).1 ⟨1,n,[],[]⟩).1,(rN u n).2++ [gV (bM (rN u n).1 ⟨1,n,[],[]⟩).2])=(u,(rN t n).2++ [gV (bM (rN t n).1 ⟨1,n,[],[]⟩).2])
  rw [ih]
  dsimp only
  rw [yS hu h0 hp']
theorem ZY {t u:List Atom} {b:Blk} (h:aF t) (hl:t.length≤100) (hb:eF b) (hu:aF u) (hp:(fJ t b).t<+:u):fJ u b=(fJ t b).on u:=by
 have sz:=hb.sz
 have i0:=Ib h (by omega)
 obtain⟨_,h2⟩:=zY b.ops 0 (s0 t) i0 hb.k3 (by omega) (by omega)
 have e:s0 u=(s0 t).on u:=by
  unfold s0 SS.on
  rw [aaP h (by omega) hu 4 (by omega) (h2.trans hp)]
 unfold fJ at hp ⊢
 rw [e]
 exact XH hu b.ops 0 (s0 t) i0 hb.k3 (by omega) (by omega) hp
theorem xH {t:List Atom} {b:Blk} (h:aF t) (hl:t.length≤100) (hb:eF b):bJ t b=((fJ t b).t,symEnd (kI b (fJ t b)) (b.pc+b.len)):=by
 unfold bJ;rw [if_pos (bZ ⟨h,hl,hb⟩)]
theorem UN {t u:List Atom} {b:Blk} (h:aF t) (hl:t.length≤100) (hb:eF b) (hu:aF u) (hlu:u.length≤100) (hp:(bJ t b).1<+:u):bJ u b=(u,(bJ t b).2):=by
 rw [xH h hl hb]at hp ⊢
 rw [xH hu hlu hb,ZY h hl hb hu hp]
 rfl
theorem Ic {t:List Atom} {b:Blk} (h:aF t) (hl:t.length≤100) (hb:eF b):aF (bJ t b).1∧t<+:(bJ t b).1∧(bJ t b).1.length≤t.length+b.ops.length+4:=by
 unfold bJ
 rw [if_pos (bZ ⟨h,hl,hb⟩)]
 obtain⟨h1,h2⟩:=Jr h hl hb
 have:=h1.tl
 exact⟨h1.tok,h2,by dsimp only;omega⟩
end Go.TX.F
namespace Go.TX.F
open Go Go.AE Go.TX
def ShP (l:List (List aj)):Prop:=l.length<1000000000∧∀p∈l,Sh p
def ShE (e:Ev):Prop:=Sh e.x∧Sh e.y∧ShP e.regs
def Z0 (l:List Ev):Prop:=l.length<1000000000∧∀e∈l,ShE e
structure ShY (s:Sym):Prop where
 e:Z0 s.events
 r:ShP s.regs
 x:Sh s.x
 y:Sh s.y
theorem ShP.at {l:List (List aj)} (h:ShP l) (n:Nat):Sh (l.getD n default):=by
 by_cases c:n<l.length
 ·rw [getD_lt c];exact h.2 _ (List.getElem_mem _)
 ·rw [List.getD_eq_getElem?_getD,List.getElem?_eq_none (by omega)];exact qB
theorem Js:ShP []:=⟨by simp,fun p h=>absurd h (by simp)⟩
theorem Z0.at {l:List Ev} (h:Z0 l) (n:Nat):ShE (l.getD n default):=by
 by_cases c:n<l.length
 ·rw [getD_lt c];exact h.2 _ (List.getElem_mem _)
 ·rw [List.getD_eq_getElem?_getD,List.getElem?_eq_none (by omega)];exact⟨qB,qB,Js⟩
theorem Tw:ShY QN:=⟨⟨by simp [QN],fun e h=>absurd h (by simp [QN])⟩,Js,qB,qB⟩
theorem SI.regs {n:Int} {i:Nat} {s:SS} (h:SI n i s):ShP s.regs:=⟨by have:=h.r4;omega,fun p hp=>(h.rok p hp).1.sh⟩
theorem Z4 {n:Int} {i:Nat} {s:SS} {o:IOp} (h:SI n i s) (h2:s.evs.length≤i∧∀e∈s.evs,ShE e):(stp s o).evs.length≤i+1∧∀e∈(stp s o).evs,ShE e:=by
 show(nE s o).length≤i+1∧∀e∈nE s o,ShE e
 unfold nE
 split
 ·refine⟨by rw [List.length_append];have:=h2.1;simp only [List.length_cons,List.length_nil];omega,fun e he=> ?_⟩
  rw [List.mem_append,List.mem_singleton]at he
  rcases he with he | rfl
  ·exact h2.2 e he
  ·refine⟨(h.x o).1.sh,(h.y o).1.sh,?_⟩
   dsimp only
   split
   ·exact h.regs
   ·exact Js
 ·exact⟨by have:=h2.1;omega,h2.2⟩
theorem QT {n:Int}:∀(ops:List IOp) (i:Nat) (s:SS),SI n i s→(∀o∈ops,o.kind=3→1≤o.k∧o.k≤5)→n+i+ops.length≤200→i+ops.length≤200→(s.evs.length≤i∧∀e∈s.evs,ShE e)→(ops.foldl stp s).evs.length≤i+ops.length∧∀e∈(ops.foldl stp s).evs,ShE e
 | [],i,s,h,_,_,_,h3=>h3
 | o::r,i,s,h,hk,h1,h2,h3=>by
  rw [List.length_cons]at h1 h2
  obtain⟨a1,a2⟩:=Jq h (hk o List.mem_cons_self) (by omega) (by omega)
  have:=QT r (i+1) (stp s o) a1 (fun o ho=>hk o (List.mem_cons_of_mem _ ho)) (by omega) (by omega) (Z4 h h3)
  rw [List.foldl_cons,List.length_cons,show i+(r.length+1)=i+1+r.length by omega]
  exact this
def evT (e:Ev):Int×Int×Nat:=(e.kind,e.at_,e.regs.length)
def opT (o:IOp):Int×Int×Nat:=(o.kind,o.at_,if o.kind=4∨o.kind=5 then 4 else 0)
def Tx (ops:List IOp):List IOp:=ops.filter fun o=>decide (evO o)
theorem Tz:∀(ops:List IOp) (s:SS),s.regs.length=4→(ops.foldl stp s).evs.map evT=s.evs.map evT++(Tx ops).map opT
 | [],s,_=>by simp [Tx]
 | o::r,s,h=>by
  have h':(stp s o).regs.length=4:=by
   show(nR s o).length=4
   unfold nR;split
   ·rw [List.length_set];exact h
   ·exact h
  rw [List.foldl_cons,Tz r (stp s o) h']
  show(nE s o).map evT++_=_
  unfold nE Tx
  by_cases c:evO o
  ·have e:evT ⟨o.kind,o.at_,xOf s o,yOf s o,if o.kind=4∨o.kind=5 then s.regs else []⟩=opT o:=by
    unfold evT opT
    dsimp only
    split
    ·rw [h]
    ·rfl
   rw [if_pos c,List.filter_cons_of_pos (by simpa using c),List.map_append,List.append_assoc]
   refine congrArg (s.evs.map evT++ ·) ?_
   show evT _::_=opT o::_
   rw [e];rfl
  ·rw [if_neg c,List.filter_cons_of_neg (by simpa using c)]
theorem Jt {n:Int} {i:Nat} {s:SS} {b:Blk} (h:SI n i s):aG (kI b s).x∧aG (kI b s).y:=by
 unfold kI
 dsimp only
 constructor
 ·split
  ·exact bL
  ·exact(zW h.vok _).1
 ·split
  ·exact(zW h.vok _).1
  ·exact bL
theorem qD {s:Sym} {n:Int} (h:aG s.x∧aG s.y):(symEnd s n).events=s.events∧(symEnd s n).regs=s.regs∧aG (symEnd s n).x∧aG (symEnd s n).y:=by
 unfold symEnd
 rw [if_neg (by rw [bZ h];simp)]
 repeat' split
 all_goals first | exact⟨rfl,rfl,h⟩ | exact⟨rfl,rfl,bL,bL⟩ | exact⟨rfl,rfl,h.2,h.1⟩
structure aj7 (t:List Atom) (b:Blk):Prop where
 evs:(bJ t b).2.events.map evT=(Tx b.ops).map opT
 r4:(bJ t b).2.regs.length=4
 sh:ShY (bJ t b).2
 ne:0< (bJ t b).1.length
theorem MK {t:List Atom} {b:Blk} (h:aF t) (hl:t.length≤100) (hb:eF b):aj7 t b:=by
 have sz:=hb.sz
 have i0:=Ib h (by omega)
 obtain⟨h1,h2⟩:=Jr h hl hb
 have hs:=QT b.ops 0 (s0 t) i0 hb.k3 (by omega) (by omega) ⟨by simp [s0],fun e he=>absurd he (by simp [s0])⟩
 have he:=Tz b.ops (s0 t) i0.r4
 have hk:=qD (n:=b.pc+b.len) (Jt (b:=b) h1)
 have e:bJ t b=((fJ t b).t,symEnd (kI b (fJ t b)) (b.pc+b.len)):=by unfold bJ;rw [if_pos (bZ ⟨h,hl,hb⟩)]
 rw [Nat.zero_add]at hs
 refine⟨?_,?_,?_,?_⟩
 ·rw [e];dsimp only;rw [hk.1];show(fJ t b).evs.map evT=_;unfold fJ;rw [he];rfl
 ·rw [e];dsimp only;rw [hk.2.1];exact h1.r4
 ·rw [e]
  refine⟨?_,?_,hk.2.2.1.sh,hk.2.2.2.sh⟩
  ·rw [hk.1];exact⟨by have:=hs.1;show(b.ops.foldl stp (s0 t)).evs.length<_;omega,hs.2⟩
  ·rw [hk.2.1];exact h1.regs
 ·rw [e]
  have r:=zY b.ops 0 (s0 t) i0 hb.k3 (by omega) (by omega)
  have:=BA r.2
  have p:=uZ (QS h (by omega) (n:=3) (by omega))
  have p0:=QS h (by omega) (n:=3) (by omega)
  show 0< (fJ t b).t.length
  have:(s0 t).t.length=(bM (rN t 3).1 ⟨1,(3:Nat),[],[]⟩).1.length:=rfl
  unfold fJ
  omega
theorem Ju (t:List Atom) (b:Blk):ShY (bJ t b).2∧ShT (bJ t b).1:=by
 by_cases c:aF t∧t.length≤100∧eF b
 ·exact⟨(MK c.1 c.2.1 c.2.2).sh,(Ic c.1 c.2.1 c.2.2).1.sh⟩
 ·unfold bJ;rw [gG c,if_neg (by simp)];exact⟨Tw,ZU⟩
noncomputable def t4:List Atom:=(rN [] 4).1
theorem zZ:aF []:=kZ.2 ⟨All.zero,by simp⟩
theorem aaQ:aF t4∧t4.length≤4:=by
 have:=FZ zZ (by simp) 4 (by omega)
 exact⟨this.tok,Nat.le_trans this.tl (by simp)⟩
noncomputable def chk (b c:Blk):Bool:=bp (eF b∧eF c∧b.pc=c.pc∧b.len=c.len∧(b=c∨(bJ t4 b).2=(bJ (bJ t4 b).1 c).2))
structure Lk (b c:Blk):Prop where
 ob:eF b
 oc:eF c
 pc:b.pc=c.pc
 len:b.len=c.len
 run:∀u,aF u→u.length≤100→(bJ u b).1=u→bJ u c=bJ u b
theorem Lk.refl {b:Blk} (h:eF b):Lk b b:=⟨h,h,rfl,rfl,fun _ _ _ _=>rfl⟩
theorem Lk.trans {b c d:Blk} (h:Lk b c) (g:Lk c d):Lk b d:=⟨h.ob,g.oc,h.pc.trans g.pc,h.len.trans g.len,fun u h1 h2 h3=>by
 have e:=h.run u h1 h2 h3
 rw [g.run u h1 h2 (by rw [e];exact h3),e]⟩
theorem Z5 {b:Blk} (hb:eF b):aF (bJ t4 b).1∧(bJ t4 b).1.length≤100∧bJ (bJ t4 b).1 b=bJ t4 b:=by
 have h4:=aaQ
 have hr:=Ic h4.1 (by omega) hb
 have sz:=hb.sz
 refine⟨hr.1,by omega,?_⟩
 have:=UN h4.1 (by omega) hb hr.1 (by omega) (List.prefix_refl _)
 rw [this]
theorem Lk.chk {b c:Blk} (h:Lk b c):chk b c=true:=by
 obtain⟨h1,h2,h3⟩:=Z5 h.ob
 refine bZ ⟨h.ob,h.oc,h.pc,h.len,Or.inr ?_⟩
 rw [h.run _ h1 h2 (by rw [h3]),h3]
end Go.TX.F
namespace Go.TX.F
open Go Go.AE Go.TX
def Z6:Blk:=⟨0,0,[],0,0,0,0⟩
theorem iI {α:Type} {d x:α} {l:List α} {i:Nat}:(l++ [x]).getD i d=if i<l.length then l.getD i d else if i=l.length then x else d:=by
 split
 ·rename_i h;rw [getD_lt (by rw [List.length_append];omega),getD_lt h,List.getElem_append_left]
 ·split
  ·rename_i h1 h2;subst h2;rw [getD_lt (by simp)];simp
  ·rw [List.getD_eq_getElem?_getD,List.getElem?_eq_none (by rw [List.length_append];simp only [List.length_cons,List.length_nil];omega)];rfl
theorem mg (f:SS→IOp→SS) (s:SS) {l:List IOp} {i:Nat} (h:i<l.length):(l.take (i+1)).foldl f s=f ((l.take i).foldl f s) l[i]:=by
 rw [List.take_succ_eq_append_getElem h,List.foldl_append];rfl
theorem z8:∀(l:List IOp) (s:SS),(l.foldl stp s).vals.length=s.vals.length+l.length
 | [],_=>rfl
 | o::r,s=>by
  rw [List.foldl_cons,z8 r,List.length_cons]
  show(s.vals++ [nV s o]).length+_=_
  rw [List.length_append];simp only [List.length_cons,List.length_nil];omega
def ren (nm:List Int) (o:IOp):IOp:=⟨o.kind,if hX o then((nm).getD (o.x).toNat default)else o.x,if hY o then((nm).getD (o.y).toNat default)else o.y,o.k,o.at_⟩
def QU (nm:List Int) (b:Blk) (ops:List IOp):Blk:=⟨b.pc,b.len,ops.map (ren nm),b.fin,if b.fin=1 then b.x else((nm).getD (b.x).toNat default),if 3≤b.fin then((nm).getD (b.y).toNat default)else b.y,b.k⟩
def cpN (s:List Int×List Int) (i:Int) (o:IOp):Int:=if o.kind=2∧0≤((s.2).getD (o.k).toNat default)then((s.2).getD (o.k).toNat default)else i
def cpL (s:List Int×List Int) (i:Int) (o:IOp):List Int:=if o.kind=2 then(if 0≤((s.2).getD (o.k).toNat default)then s.2 else s.2.set o.k.toNat i)else if o.kind=8 then s.2.set o.k.toNat ((s.1).getD (o.x).toNat default)else s.2
def cpS (ops:List IOp):Nat→List Int×List Int
 | 0=>([],[-1, -1, -1, -1])
 | i+1=>((cpS ops i).1++ [cpN (cpS ops i) i (ops.getD i default)],cpL (cpS ops i) i (ops.getD i default))
noncomputable def dx (b:Blk):Blk:=if bp (eF b)=true then QU (cpS b.ops b.ops.length).1 b b.ops else Z6
theorem yT (ops:List IOp):∀i,(cpS ops i).1.length=i∧(cpS ops i).2.length=4
 | 0=>⟨rfl,rfl⟩
 | i+1=>by
  obtain⟨h1,h2⟩:=yT ops i
  constructor
  ·show((cpS ops i).1++ [_]).length=_
   rw [List.length_append,h1];rfl
  ·show(cpL (cpS ops i) i (ops.getD i default)).length=4
   unfold cpL
   repeat' split
   all_goals first | exact h2 | (rw [List.length_set];exact h2)
theorem QV (ops:List IOp):∀ {i n:Nat} {j:Nat},j<i→i≤n→(cpS ops n).1.getD j default=(cpS ops i).1.getD j default:=by
  intro i n j h1 h2
  induction n with
  | zero => have : i = 0 := by omega
            subst this;rfl
  | succ n ih=>
    by_cases c:i=n+1
    · subst c;rfl
    · have:=ih (by omega)
      rw [←this]
      show((cpS ops n).1++ [_]).getD j default=_
      rw [iI,if_pos (by rw [(yT ops n).1];omega)]
structure CI (ops:List IOp) (i:Nat) (s:SS):Prop where
 nm:∀j:Int,0≤j→j<i→(0≤(((cpS ops i).1).getD (j).toNat default)∧(((cpS ops i).1).getD (j).toNat default)≤j)∧((s.vals).getD ((((cpS ops i).1).getD (j).toNat default)).toNat default)=((s.vals).getD (j).toNat default)∧(mkV ((ops).getD (j).toNat default)→mkV ((ops).getD ((((cpS ops i).1).getD (j).toNat default)).toNat default))
 la:∀r:Int,0≤r→r≤3→0≤(((cpS ops i).2).getD (r).toNat default)→(((cpS ops i).2).getD (r).toNat default)<i∧((s.vals).getD ((((cpS ops i).2).getD (r).toNat default)).toNat default)=((s.regs).getD (r).toNat default)∧mkV ((ops).getD ((((cpS ops i).2).getD (r).toNat default)).toNat default)
theorem Jv {α:Type} {d x:α} {l:List α} {i j:Int} (h0:0≤i) (h1:0≤j) (h2:j<l.length):(l.set j.toNat x).getD i.toNat d=if i=j then x else l.getD i.toNat d:=by
 by_cases c:i<l.length
 ·rw [getD_lt (by rw [List.length_set];omega),getD_lt (by omega),List.getElem_set]
  by_cases e:i=j
  ·subst e;rw [if_pos rfl,if_pos rfl]
  ·rw [if_neg (by omega),if_neg e]
 ·rw [if_neg (by omega)]
  simp only [List.getD_eq_getElem?_getD]
  rw [List.getElem?_eq_none (by rw [List.length_set];omega),List.getElem?_eq_none (by omega)]
theorem F3 {b:Blk} (hb:eF b) (t:List Atom) (h4:(s0 t).regs.length=4):∀i:Nat,i≤b.ops.length→
  ((b.ops.map (ren (cpS b.ops b.ops.length).1)).take i).foldl stp (s0 t)=(b.ops.take i).foldl stp (s0 t)∧((b.ops.take i).foldl stp (s0 t)).regs.length=4∧CI b.ops i ((b.ops.take i).foldl stp (s0 t))
 | 0,_=>⟨rfl,h4,⟨fun j h1 h2=>absurd h2 (by omega),fun r h1 h2 h3=>by
   exfalso
   have:(((cpS b.ops 0).2).getD (r).toNat default)= -1:=by
    show((([-1, -1, -1, -1]:List Int)).getD (r).toNat default)= -1
    rcases(by omega:r=0∨r=1∨r=2∨r=3)with h | h | h | h<;>subst h<;>rfl
   omega⟩⟩
 | i+1,hi=>by
  obtain⟨ih1,ihr,ih2⟩:=F3 hb t h4 i (by omega)
  have hlt:i<b.ops.length:=hi
  have hok:=hb.op i (by omega) (by omega)
  rw [show(i:Int).toNat=i from rfl,getD_lt hlt]at hok
  have eo:b.ops.getD i default=b.ops[i]:=getD_lt hlt
  have hv:=z8 (b.ops.take i) (s0 t)
  rw [List.length_take,Nat.min_eq_left (by omega),show(s0 t).vals.length=0 from rfl,Nat.zero_add]at hv
  obtain⟨cl1,cl2⟩:=yT b.ops i
  rw [mg _ _ (by rw [List.length_map];exact hlt),mg _ _ hlt,ih1,List.getElem_map]
  clear ih1
  generalize (b.ops.take i).foldl stp (s0 t)=s at ihr ih2 hv ⊢
  generalize ho:b.ops[i]=o at hok eo ⊢
  have nmx:∀j:Int,0≤j→j<i→(((cpS b.ops b.ops.length).1).getD (j).toNat default)=(((cpS b.ops i).1).getD (j).toNat default):=fun j h1 h2=>QV b.ops (by omega) (by omega)
  have vx:∀j:Int,0≤j→j<i→((s.vals).getD ((((cpS b.ops b.ops.length).1).getD (j).toNat default)).toNat default)=((s.vals).getD (j).toNat default):=fun j h1 h2=>by rw [nmx j h1 h2];exact(ih2.nm j h1 h2).2.1
  have ex:xOf s (ren (cpS b.ops b.ops.length).1 o)=xOf s o:=by
   unfold xOf
   by_cases c:hX o
   ·rw [if_pos (show hX (ren _ o)from c),if_pos c]
    show((s.vals).getD ((if hX o then(((cpS b.ops b.ops.length).1).getD (o.x).toNat default)else o.x)).toNat default)=_
    rw [if_pos c];exact vx _ (hok.x1 c).1 (hok.x1 c).2.1
   ·rw [if_neg (show¬hX (ren _ o)from c),if_neg c]
  have ey:yOf s (ren (cpS b.ops b.ops.length).1 o)=yOf s o:=by
   unfold yOf
   by_cases c:hY o
   ·rw [if_pos (show hY (ren _ o)from c),if_pos c]
    show((s.vals).getD ((if hY o then(((cpS b.ops b.ops.length).1).getD (o.y).toNat default)else o.y)).toNat default)=_
    rw [if_pos c];exact vx _ (hok.y1 c).1 (hok.y1 c).2.1
   ·rw [if_neg (show¬hY (ren _ o)from c),if_neg c]
  have es:stp s (ren (cpS b.ops b.ops.length).1 o)=stp s o:=by
   unfold stp nT nV nR nE aOf
   rw [ex,ey];rfl
  have r4:(stp s o).regs.length=4:=by
   show(nR s o).length=4
   unfold nR;split
   ·rw [List.length_set];exact ihr
   ·exact ihr
  refine⟨es,r4,?_⟩
  have vs:∀j:Int,0≤j→j<i→(((stp s o).vals).getD (j).toNat default)=((s.vals).getD (j).toNat default):=fun j h1 h2=>by
   show(((s.vals++ [nV s o])).getD (j).toNat default)=_
   rw [iI,if_pos (by omega)]
  have vi:(((stp s o).vals).getD ((i:Int)).toNat default)=nV s o:=by
   show(((s.vals++ [nV s o])).getD ((i:Int)).toNat default)=_
   rw [iI,if_neg (by omega),if_pos (by omega)]
  have ns:∀j:Int,0≤j→j<i→(((cpS b.ops (i+1)).1).getD (j).toNat default)=(((cpS b.ops i).1).getD (j).toNat default):=fun j h1 h2=>QV b.ops (by omega) (by omega)
  have ni:(((cpS b.ops (i+1)).1).getD ((i:Int)).toNat default)=cpN (cpS b.ops i) i o:=by
   show((((cpS b.ops i).1++ [cpN (cpS b.ops i) i (b.ops.getD i default)])).getD ((i:Int)).toNat default)=_
   rw [iI,if_neg (by omega),if_pos (by omega),eo]
  have nl:(cpS b.ops (i+1)).2=cpL (cpS b.ops i) i o:=by
   show cpL (cpS b.ops i) i (b.ops.getD i default)=_
   rw [eo]
  have eoi:((b.ops).getD ((i:Int)).toNat default)=o:=by rw [show(i:Int).toNat=i from rfl,eo]
  refine⟨fun j h1 h2=> ?_,fun r h1 h2 h3=> ?_⟩
  ·by_cases c:j<i
   ·obtain⟨⟨g1,g2⟩,g3,g4⟩:=ih2.nm j h1 c
    rw [ns j h1 c]
    exact⟨⟨g1,g2⟩,by rw [vs _ g1 (by omega),vs j h1 c];exact g3,g4⟩
   ·have:j=(i:Int):=by omega
    subst this
    rw [ni]
    unfold cpN
    by_cases c2:o.kind=2∧0≤(((cpS b.ops i).2).getD (o.k).toNat default)
    ·rw [if_pos c2]
     have hk:=hok.k2 (Or.inl c2.1)
     obtain⟨g1,g2,g3⟩:=ih2.la o.k hk.1 hk.2 c2.2
     refine⟨⟨c2.2,by omega⟩,?_,fun _=>g3⟩
     rw [vs _ c2.2 g1,vi,g2]
     unfold nV;rw [if_neg (by omega),if_pos c2.1]
    ·rw [if_neg c2]
     exact⟨⟨by omega,Int.le_refl _⟩,rfl,fun h=>h⟩
  ·rw [nl]at h3 ⊢
   unfold cpL at h3 ⊢
   have old:0≤(((cpS b.ops i).2).getD (r).toNat default)→(o.kind=8→r≠o.k)→(((cpS b.ops i).2).getD (r).toNat default)< ((i+1:Nat):Int)∧(((stp s o).vals).getD ((((cpS b.ops i).2).getD (r).toNat default)).toNat default)=(((stp s o).regs).getD (r).toNat default)∧mkV ((b.ops).getD ((((cpS b.ops i).2).getD (r).toNat default)).toNat default):=fun g0 g=>by
    obtain⟨g1,g2,g3⟩:=ih2.la r h1 h2 g0
    refine⟨by omega,?_,g3⟩
    rw [vs _ g0 g1,g2]
    show _=(((nR s o)).getD (r).toNat default)
    unfold nR
    split
    ·rename_i c8
     have hk:=hok.k2 (Or.inr c8)
     rw [Jv h1 hk.1 (by omega),if_neg (g c8)]
    ·rfl
   by_cases c2:o.kind=2
   ·have hk:=hok.k2 (Or.inl c2)
    rw [if_pos c2]at h3 ⊢
    by_cases c3:0≤(((cpS b.ops i).2).getD (o.k).toNat default)
    ·rw [if_pos c3]at h3 ⊢
     exact old h3 (fun e=>absurd e (by omega))
    ·rw [if_neg c3]at h3 ⊢
     rw [Jv h1 hk.1 (by omega)]at h3 ⊢
     by_cases c4:r=o.k
     ·rw [if_pos c4]at h3 ⊢
      refine⟨by omega,?_,by rw [eoi];exact Or.inl (by omega)⟩
      rw [vi]
      show nV s o=(((nR s o)).getD (r).toNat default)
      unfold nV nR
      rw [if_neg (by omega),if_pos c2,if_neg (by omega),c4]
     ·rw [if_neg c4]at h3 ⊢
      exact old h3 (fun e=>absurd e (by omega))
   ·rw [if_neg c2]at h3 ⊢
    by_cases c8:o.kind=8
    ·have hk:=hok.k2 (Or.inr c8)
     have hx:hX o:=by unfold hX;omega
     have v:=hok.x1 hx
     obtain⟨⟨g1,g2⟩,g3,g4⟩:=ih2.nm o.x v.1 v.2.1
     rw [if_pos c8]at h3 ⊢
     rw [Jv h1 hk.1 (by omega)]at h3 ⊢
     by_cases c4:r=o.k
     ·rw [if_pos c4]at h3 ⊢
      have v1:=v.2.1
      refine⟨by omega,?_,g4 v.2.2⟩
      rw [vs _ g1 (by omega),g3]
      show _=(((nR s o)).getD (r).toNat default)
      unfold nR
      rw [if_pos c8,Jv h1 hk.1 (by omega),if_pos c4]
      unfold xOf;rw [if_pos hx]
     ·rw [if_neg c4]at h3 ⊢
      exact old h3 (fun _=>c4)
    ·rw [if_neg c8]at h3 ⊢
     exact old h3 (fun e=>absurd e c8)
theorem XI {nm:List Int} {b:Blk} {ops:List IOp} (i:Int):((((ops.map (ren nm))).getD (i).toNat default)).kind=(((ops).getD (i).toNat default)).kind:=by
 by_cases c:i.toNat<ops.length
 ·rw [getD_lt (by rw [List.length_map];exact c),getD_lt c,List.getElem_map];rfl
 ·simp only [List.getD_eq_getElem?_getD]
  rw [List.getElem?_eq_none (by rw [List.length_map];omega),List.getElem?_eq_none (by omega)]
theorem AX {b:Blk} (hb:eF b):Lk b (dx b)∧(dx b).ops.length=b.ops.length∧∀u,aF u→u.length≤100→bJ u (dx b)=bJ u b:=by
 have e:dx b=QU (cpS b.ops b.ops.length).1 b b.ops:=by unfold dx;rw [if_pos (bZ hb)]
 have i0:=Ib zZ (by simp)
 obtain⟨_,_,ci⟩:=F3 hb [] i0.r4 b.ops.length (Nat.le_refl _)
 have kd:∀i:Int,((((b.ops.map (ren (cpS b.ops b.ops.length).1))).getD (i).toNat default)).kind=(((b.ops).getD (i).toNat default)).kind:=fun i=>XI (b:=b) i
 have vl:∀ {x n:Int},Vl b.ops x n→n≤b.ops.length→Vl (b.ops.map (ren (cpS b.ops b.ops.length).1)) (((cpS b.ops b.ops.length).1).getD (x).toNat default) n:=fun {x n} ⟨h1,h2,h3⟩ hn=>by
  obtain⟨⟨g1,g2⟩,_,g4⟩:=ci.nm x h1 (by omega)
  have:=g4 h3
  exact⟨g1,by omega,by unfold mkV at this ⊢;rw [kd];exact this⟩
 have ok:eF (dx b):=by
  rw [e]
  refine⟨hb.ln,hb.pc,by show(b.ops.map _).length≤48;rw [List.length_map];exact hb.sz,fun i h1 h2=> ?_,?_⟩
  ·have h2:i< (b.ops.map (ren (cpS b.ops b.ops.length).1)).length:=h2
   rw [List.length_map]at h2
   have ho:=hb.op i h1 h2
   show Jp (b.ops.map _) b.len i (((b.ops.map (ren (cpS b.ops b.ops.length).1))).getD (i).toNat default)
   rw [getD_lt (show i.toNat< (b.ops.map (ren (cpS b.ops b.ops.length).1)).length by rw [List.length_map];omega),List.getElem_map]
   rw [getD_lt (show i.toNat<b.ops.length by omega)]at ho
   generalize b.ops[i.toNat]=o at ho
   refine⟨ho.kd,fun h=> ?_,fun h=> ?_,fun h=> ?_,fun h=> ?_,ho.k1,ho.k2,ho.k3,ho.k0,ho.a1,ho.a0⟩
   ·have h:hX o:=h
    show Vl _ (if hX o then _ else _) i;rw [if_pos h];exact vl (ho.x1 h) (by omega)
   ·have h:¬hX o:=h
    show(if hX o then _ else _)=_;rw [if_neg h];exact ho.x0 h
   ·have h:hY o:=h
    show Vl _ (if hY o then _ else _) i;rw [if_pos h];exact vl (ho.y1 h) (by omega)
   ·have h:¬hY o:=h
    show(if hY o then _ else _)=_;rw [if_neg h];exact ho.y0 h
  ·have he:=hb.en
   refine⟨he.f,fun h=> ?_,fun h=> ?_,fun h=> ?_,fun h=> ?_,he.k1,he.k0⟩
   ·have h:b.fin≠1:=h
    show Vl (b.ops.map _) (if b.fin=1 then _ else _) ((b.ops.map _).length:Nat)
    rw [if_neg h,List.length_map];exact vl (he.x1 h) (Int.le_refl _)
   ·have h:b.fin=1:=h
    show(if b.fin=1 then _ else _)=_;rw [if_pos h];exact he.x0 h
   ·have h:3≤b.fin:=h
    show Vl (b.ops.map _) (if 3≤b.fin then _ else _) ((b.ops.map _).length:Nat)
    rw [if_pos h,List.length_map];exact vl (he.y1 h) (Int.le_refl _)
   ·have h:b.fin≤2:=h
    show(if 3≤b.fin then _ else _)=_;rw [if_neg (by omega)];exact he.y0 h
 suffices R:∀u,aF u→u.length≤100→bJ u (dx b)=bJ u b from⟨⟨hb,ok,by rw [e];rfl,by rw [e];rfl,fun u h1 h2 _=>R u h1 h2⟩,by rw [e];exact List.length_map _,R⟩
 intro u h1 h2
 have i1:=Ib h1 (by omega)
 obtain⟨r1,_,r3⟩:=F3 hb u i1.r4 b.ops.length (Nat.le_refl _)
 rw [List.take_of_length_le (by rw [List.length_map];omega),List.take_of_length_le (by omega)]at r1
 rw [List.take_of_length_le (by omega)]at r3
 have es:fJ u (dx b)=fJ u b:=by rw [e];exact r1
 unfold bJ
 rw [if_pos (bZ ⟨h1,h2,ok⟩),if_pos (bZ ⟨h1,h2,hb⟩),es]
 have em:kI (dx b) (fJ u b)=kI b (fJ u b):=by
  rw [e]
  unfold kI QU
  dsimp only
  have en:=hb.en
  have xe:b.fin≠1→(((fJ u b).vals).getD ((((cpS b.ops b.ops.length).1).getD (b.x).toNat default)).toNat default)=(((fJ u b).vals).getD (b.x).toNat default):=fun h=>(r3.nm b.x (en.x1 h).1 (en.x1 h).2.1).2.1
  have ye:3≤b.fin→(((fJ u b).vals).getD ((((cpS b.ops b.ops.length).1).getD (b.y).toNat default)).toNat default)=(((fJ u b).vals).getD (b.y).toNat default):=fun h=>(r3.nm b.y (en.y1 h).1 (en.y1 h).2.1).2.1
  congr 1
  ·split
   ·rfl
   ·rename_i h;exact xe h
  ·split
   ·rename_i h;exact ye h
   ·rfl
 rw [em]
 rw [show(dx b).pc=b.pc by rw [e];rfl,show(dx b).len=b.len by rw [e];rfl]
theorem QW {b:Blk} (hb:eF b):Lk b (dx b)∧(dx b).ops.length=b.ops.length:=⟨(AX hb).1,(AX hb).2.1⟩
end Go.TX.F
