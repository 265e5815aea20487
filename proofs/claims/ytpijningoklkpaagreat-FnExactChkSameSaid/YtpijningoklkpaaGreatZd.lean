/- Part 4 of a proof: what the last part needs. No condition. -/
import Derived.Test.YtpijningoklkpaaGreatZc
import Derived.Test.YtpijningoklkpaaGreatProg
import Derived.KernelRfl
set_option linter.all false
set_option linter.unusedSectionVars false
set_option linter.unusedVariables false
set_option linter.unusedSimpArgs false
namespace Go.TX.Seat
open Go Go.AE Go.TX Go.Proofs
set_option maxRecDepth 100000
def ty:TypeId→Option TY
 | 2=>some ⟨(.int .i64),1,8,[.d true (.int .i64 0)]⟩
 | 3=>some ⟨(.int .i64),1,8,[.d true (.int .i64 0)]⟩
 | 4=>some ⟨.bool,1,1,[.d true (.bool false)]⟩
 | 5=>some ⟨(.int .u8),1,1,[.d true (.int .u8 0)]⟩
 | 6=>some ⟨(.int .u8),1,1,[.d true (.int .u8 0)]⟩
 | 7=>some ⟨(.struct [(0,2),(1,3),(2,4),(3,6)]),4,24,[.d true (.int .i64 0),.d true (.int .i64 0),.d true (.bool false),.d true (.int .u8 0)]⟩
 | 8=>some ⟨(.struct [(0,2),(1,3),(2,4),(3,6)]),4,24,[.d true (.int .i64 0),.d true (.int .i64 0),.d true (.bool false),.d true (.int .u8 0)]⟩
 | 9=>some ⟨.str,1,16,[.d true (.str ⟨#[]⟩)]⟩
 | 10=>some ⟨.str,1,16,[.d true (.str ⟨#[]⟩)]⟩
 | 11=>some ⟨.str,1,16,[.d true (.str ⟨#[]⟩)]⟩
 | 12=>some ⟨(.int .u64),1,8,[.d true (.int .u64 0)]⟩
 | 13=>some ⟨(.struct [(0,9),(1,12)]),2,24,[.d true (.str ⟨#[]⟩),.d true (.int .u64 0)]⟩
 | 14=>some ⟨(.struct [(0,9),(1,12)]),2,24,[.d true (.str ⟨#[]⟩),.d true (.int .u64 0)]⟩
 | 15=>some ⟨.scalar,1,8,[.np]⟩
 | 16=>some ⟨.scalar,1,8,[.np]⟩
 | 17=>some ⟨.scalar,1,8,[.np]⟩
 | 18=>some ⟨(.struct [(0,17)]),1,8,[.np]⟩
 | 19=>some ⟨(.struct [(0,17)]),1,8,[.np]⟩
 | 21=>some ⟨(.int .i32),1,4,[.d true (.int .i32 0)]⟩
 | 22=>some ⟨(.slice 107),1,24,[.nil]⟩
 | 23=>some ⟨(.struct [(0,3),(1,3),(2,22),(3,3),(4,3),(5,3),(6,3)]),7,72,[.d true (.int .i64 0),.d true (.int .i64 0),.nil,.d true (.int .i64 0),.d true (.int .i64 0),.d true (.int .i64 0),.d true (.int .i64 0)]⟩
 | 24=>some ⟨(.struct [(0,3),(1,3),(2,22),(3,3),(4,3),(5,3),(6,3)]),7,72,[.d true (.int .i64 0),.d true (.int .i64 0),.nil,.d true (.int .i64 0),.d true (.int .i64 0),.d true (.int .i64 0),.d true (.int .i64 0)]⟩
 | 27=>some ⟨(.slice 84),1,24,[.nil]⟩
 | 28=>some ⟨(.struct [(0,3),(1,3),(2,27),(3,3),(4,3),(5,3),(6,3)]),7,72,[.d true (.int .i64 0),.d true (.int .i64 0),.nil,.d true (.int .i64 0),.d true (.int .i64 0),.d true (.int .i64 0),.d true (.int .i64 0)]⟩
 | 29=>some ⟨(.struct [(0,3),(1,3),(2,27),(3,3),(4,3),(5,3),(6,3)]),7,72,[.d true (.int .i64 0),.d true (.int .i64 0),.nil,.d true (.int .i64 0),.d true (.int .i64 0),.d true (.int .i64 0),.d true (.int .i64 0)]⟩
 | 32=>some ⟨(.slice 68),1,24,[.nil]⟩
 | 35=>some ⟨(.slice 41),1,24,[.nil]⟩
 | 39=>some ⟨(.slice 5),1,24,[.nil]⟩
 | 40=>some ⟨(.struct [(0,29),(7,29)]),14,144,[.d true (.int .i64 0),.d true (.int .i64 0),.nil,.d true (.int .i64 0),.d true (.int .i64 0),.d true (.int .i64 0),.d true (.int .i64 0),.d true (.int .i64 0),.d true (.int .i64 0),.nil,.d true (.int .i64 0),.d true (.int .i64 0),.d true (.int .i64 0),.d true (.int .i64 0)]⟩
 | 41=>some ⟨(.struct [(0,29),(7,29)]),14,144,[.d true (.int .i64 0),.d true (.int .i64 0),.nil,.d true (.int .i64 0),.d true (.int .i64 0),.d true (.int .i64 0),.d true (.int .i64 0),.d true (.int .i64 0),.d true (.int .i64 0),.nil,.d true (.int .i64 0),.d true (.int .i64 0),.d true (.int .i64 0),.d true (.int .i64 0)]⟩
 | 49=>some ⟨(.slice 86),1,24,[.nil]⟩
 | 50=>some ⟨(.struct [(0,49)]),1,24,[.nil]⟩
 | 51=>some ⟨(.struct [(0,49)]),1,24,[.nil]⟩
 | 52=>some ⟨(.slice 58),1,24,[.nil]⟩
 | 55=>some ⟨(.slice 97),1,24,[.nil]⟩
 | 56=>some ⟨(.slice 136),1,24,[.nil]⟩
 | 57=>some ⟨(.struct [(0,56)]),1,24,[.nil]⟩
 | 58=>some ⟨(.struct [(0,56)]),1,24,[.nil]⟩
 | 59=>some ⟨(.struct [(0,55),(1,52),(2,3),(3,58),(4,58),(5,3)]),6,112,[.nil,.nil,.d true (.int .i64 0),.nil,.nil,.d true (.int .i64 0)]⟩
 | 60=>some ⟨(.struct [(0,55),(1,52),(2,3),(3,58),(4,58),(5,3)]),6,112,[.nil,.nil,.d true (.int .i64 0),.nil,.nil,.d true (.int .i64 0)]⟩
 | 67=>some ⟨(.struct [(0,24),(7,24)]),14,144,[.d true (.int .i64 0),.d true (.int .i64 0),.nil,.d true (.int .i64 0),.d true (.int .i64 0),.d true (.int .i64 0),.d true (.int .i64 0),.d true (.int .i64 0),.d true (.int .i64 0),.nil,.d true (.int .i64 0),.d true (.int .i64 0),.d true (.int .i64 0),.d true (.int .i64 0)]⟩
 | 68=>some ⟨(.struct [(0,24),(7,24)]),14,144,[.d true (.int .i64 0),.d true (.int .i64 0),.nil,.d true (.int .i64 0),.d true (.int .i64 0),.d true (.int .i64 0),.d true (.int .i64 0),.d true (.int .i64 0),.d true (.int .i64 0),.nil,.d true (.int .i64 0),.d true (.int .i64 0),.d true (.int .i64 0),.d true (.int .i64 0)]⟩
 | 73=>some ⟨.scalar,1,8,[.np]⟩
 | 83=>some ⟨(.struct [(0,3),(1,3),(2,3),(3,3),(4,3)]),5,40,[.d true (.int .i64 0),.d true (.int .i64 0),.d true (.int .i64 0),.d true (.int .i64 0),.d true (.int .i64 0)]⟩
 | 84=>some ⟨(.struct [(0,3),(1,3),(2,3),(3,3),(4,3)]),5,40,[.d true (.int .i64 0),.d true (.int .i64 0),.d true (.int .i64 0),.d true (.int .i64 0),.d true (.int .i64 0)]⟩
 | 85=>some ⟨(.struct [(0,3),(1,3),(2,58),(3,58)]),4,64,[.d true (.int .i64 0),.d true (.int .i64 0),.nil,.nil]⟩
 | 86=>some ⟨(.struct [(0,3),(1,3),(2,58),(3,58)]),4,64,[.d true (.int .i64 0),.d true (.int .i64 0),.nil,.nil]⟩
 | 96=>some ⟨(.struct [(0,3),(1,3),(2,58),(3,58),(4,52)]),5,88,[.d true (.int .i64 0),.d true (.int .i64 0),.nil,.nil,.nil]⟩
 | 97=>some ⟨(.struct [(0,3),(1,3),(2,58),(3,58),(4,52)]),5,88,[.d true (.int .i64 0),.d true (.int .i64 0),.nil,.nil,.nil]⟩
 | 107=>some ⟨(.struct [(0,3),(1,3),(2,3),(3,3),(4,3)]),5,40,[.d true (.int .i64 0),.d true (.int .i64 0),.d true (.int .i64 0),.d true (.int .i64 0),.d true (.int .i64 0)]⟩
 | 110=>some ⟨.scalar,1,8,[.np]⟩
 | 111=>some ⟨(.struct [(0,51),(1,4)]),2,32,[.nil,.d true (.bool false)]⟩
 | 112=>some ⟨(.struct [(0,51),(1,4)]),2,32,[.nil,.d true (.bool false)]⟩
 | 126=>some ⟨(.struct [(0,39),(1,3)]),2,32,[.nil,.d true (.int .i64 0)]⟩
 | 127=>some ⟨(.struct [(0,39),(1,3)]),2,32,[.nil,.d true (.int .i64 0)]⟩
 | 134=>some ⟨(.slice 3),1,24,[.nil]⟩
 | 135=>some ⟨(.struct [(0,3),(1,134)]),2,32,[.d true (.int .i64 0),.nil]⟩
 | 136=>some ⟨(.struct [(0,3),(1,134)]),2,32,[.d true (.int .i64 0),.nil]⟩
 | 154=>some ⟨(.slice 174),1,24,[.nil]⟩
 | 173=>some ⟨(.struct [(0,3),(1,3),(2,3),(3,3)]),4,32,[.d true (.int .i64 0),.d true (.int .i64 0),.d true (.int .i64 0),.d true (.int .i64 0)]⟩
 | 174=>some ⟨(.struct [(0,3),(1,3),(2,3),(3,3)]),4,32,[.d true (.int .i64 0),.d true (.int .i64 0),.d true (.int .i64 0),.d true (.int .i64 0)]⟩
 | 179=>some ⟨(.slice 4),1,24,[.nil]⟩
 | 202=>some ⟨(.slice 56),1,24,[.nil]⟩
 | 204=>some ⟨(.slice 134),1,24,[.nil]⟩
 | 208=>some ⟨(.int .u64),1,8,[.d true (.int .u64 0)]⟩
 | 211=>some ⟨(.int .i64),1,8,[.d true (.int .i64 0)]⟩
 | 218=>some ⟨(.int .u32),1,4,[.d true (.int .u32 0)]⟩
 | 220=>some ⟨(.int .u64),1,8,[.d true (.int .u64 0)]⟩
 | 223=>some ⟨(.int .u64),1,8,[.d true (.int .u64 0)]⟩
 | 227=>some ⟨.scalar,1,8,[.np]⟩
 | 229=>some ⟨.scalar,1,8,[.np]⟩
 | 233=>some ⟨(.struct [(0,17),(1,17),(2,17),(3,9)]),4,40,[.np,.np,.np,.d true (.str ⟨#[]⟩)]⟩
 | 234=>some ⟨(.struct [(0,17),(1,17),(2,17),(3,9)]),4,40,[.np,.np,.np,.d true (.str ⟨#[]⟩)]⟩
 | 239=>some ⟨(.int .u8),1,1,[.d true (.int .u8 0)]⟩
 | 240=>some ⟨(.int .u8),1,1,[.d true (.int .u8 0)]⟩
 | 242=>some ⟨.scalar,1,8,[.np]⟩
 | 243=>some ⟨(.int .i32),1,4,[.d true (.int .i32 0)]⟩
 | 244=>some ⟨(.int .i32),1,4,[.d true (.int .i32 0)]⟩
 | _=>none
theorem ok2:bJ Tryz.prog 2 ⟨(.int .i64),1,8,[.d true (.int .i64 0)]⟩:=⟨⟨Tryz.t2,by kernel_rfl,rfl,rfl,_,rfl,fun c w=>aD (by rfl)⟩,Tryz.underlying2,rfl⟩
theorem ok3:bJ Tryz.prog 3 ⟨(.int .i64),1,8,[.d true (.int .i64 0)]⟩:=⟨⟨Tryz.t3,by kernel_rfl,rfl,rfl,_,rfl,fun c w=>aD (by rfl)⟩,Tryz.underlying3,rfl⟩
theorem ok4:bJ Tryz.prog 4 ⟨.bool,1,1,[.d true (.bool false)]⟩:=⟨⟨Tryz.t4,by kernel_rfl,rfl,rfl,_,rfl,fun c w=>aD (by rfl)⟩,Tryz.underlying4,rfl⟩
theorem ok5:bJ Tryz.prog 5 ⟨(.int .u8),1,1,[.d true (.int .u8 0)]⟩:=⟨⟨Tryz.t5,by kernel_rfl,rfl,rfl,_,rfl,fun c w=>aD (by rfl)⟩,Tryz.underlying5,rfl⟩
theorem ok6:bJ Tryz.prog 6 ⟨(.int .u8),1,1,[.d true (.int .u8 0)]⟩:=⟨⟨Tryz.t6,by kernel_rfl,rfl,rfl,_,rfl,fun c w=>aD (by rfl)⟩,Tryz.underlying6,rfl⟩
theorem ok7:bJ Tryz.prog 7 ⟨(.struct [(0,2),(1,3),(2,4),(3,6)]),4,24,[.d true (.int .i64 0),.d true (.int .i64 0),.d true (.bool false),.d true (.int .u8 0)]⟩:=⟨⟨Tryz.t7,by kernel_rfl,rfl,rfl,_,rfl,fun c w=>aD (by rfl)⟩,⟨_,Tryz.underlying7,by rfl⟩,rfl⟩
theorem ok8:bJ Tryz.prog 8 ⟨(.struct [(0,2),(1,3),(2,4),(3,6)]),4,24,[.d true (.int .i64 0),.d true (.int .i64 0),.d true (.bool false),.d true (.int .u8 0)]⟩:=⟨⟨Tryz.t8,by kernel_rfl,rfl,rfl,_,rfl,fun c w=>aD (by rfl)⟩,⟨_,Tryz.underlying8,by rfl⟩,rfl⟩
theorem ok9:bJ Tryz.prog 9 ⟨.str,1,16,[.d true (.str ⟨#[]⟩)]⟩:=⟨⟨Tryz.t9,by kernel_rfl,rfl,rfl,_,rfl,fun c w=>aD (by rfl)⟩,Tryz.underlying9,rfl⟩
theorem aqJ:bJ Tryz.prog 10 ⟨.str,1,16,[.d true (.str ⟨#[]⟩)]⟩:=⟨⟨Tryz.t10,by kernel_rfl,rfl,rfl,_,rfl,fun c w=>aD (by rfl)⟩,Tryz.underlying10,rfl⟩
theorem aqK:bJ Tryz.prog 11 ⟨.str,1,16,[.d true (.str ⟨#[]⟩)]⟩:=⟨⟨Tryz.t11,by kernel_rfl,rfl,rfl,_,rfl,fun c w=>aD (by rfl)⟩,Tryz.underlying11,rfl⟩
theorem aqL:bJ Tryz.prog 12 ⟨(.int .u64),1,8,[.d true (.int .u64 0)]⟩:=⟨⟨Tryz.t12,by kernel_rfl,rfl,rfl,_,rfl,fun c w=>aD (by rfl)⟩,Tryz.underlying12,rfl⟩
theorem aqM:bJ Tryz.prog 13 ⟨(.struct [(0,9),(1,12)]),2,24,[.d true (.str ⟨#[]⟩),.d true (.int .u64 0)]⟩:=⟨⟨Tryz.t13,by kernel_rfl,rfl,rfl,_,rfl,fun c w=>aD (by rfl)⟩,⟨_,Tryz.underlying13,by rfl⟩,rfl⟩
theorem aqN:bJ Tryz.prog 14 ⟨(.struct [(0,9),(1,12)]),2,24,[.d true (.str ⟨#[]⟩),.d true (.int .u64 0)]⟩:=⟨⟨Tryz.t14,by kernel_rfl,rfl,rfl,_,rfl,fun c w=>aD (by rfl)⟩,⟨_,Tryz.underlying14,by rfl⟩,rfl⟩
theorem aqO:bJ Tryz.prog 15 ⟨.scalar,1,8,[.np]⟩:=⟨⟨Tryz.t15,by kernel_rfl,rfl,rfl,_,rfl,fun c w=>aD (by rfl)⟩,⟨_,Tryz.underlying15,(fun _ h=>by cases h),(fun _ _ h=>by cases h)⟩,rfl⟩
theorem ok16:bJ Tryz.prog 16 ⟨.scalar,1,8,[.np]⟩:=⟨⟨Tryz.t16,by kernel_rfl,rfl,rfl,_,rfl,fun c w=>aD (by rfl)⟩,⟨_,Tryz.underlying16,(fun _ h=>by cases h),(fun _ _ h=>by cases h)⟩,rfl⟩
theorem aqP:bJ Tryz.prog 17 ⟨.scalar,1,8,[.np]⟩:=⟨⟨Tryz.t17,by kernel_rfl,rfl,rfl,_,rfl,fun c w=>aD (by rfl)⟩,⟨_,Tryz.underlying17,(fun _ h=>by cases h),(fun _ _ h=>by cases h)⟩,rfl⟩
theorem aqQ:bJ Tryz.prog 18 ⟨(.struct [(0,17)]),1,8,[.np]⟩:=⟨⟨Tryz.t18,by kernel_rfl,rfl,rfl,_,rfl,fun c w=>aD (by rfl)⟩,⟨_,Tryz.underlying18,by rfl⟩,rfl⟩
theorem aqR:bJ Tryz.prog 19 ⟨(.struct [(0,17)]),1,8,[.np]⟩:=⟨⟨Tryz.t19,by kernel_rfl,rfl,rfl,_,rfl,fun c w=>aD (by rfl)⟩,⟨_,Tryz.underlying19,by rfl⟩,rfl⟩
theorem aqS:bJ Tryz.prog 21 ⟨(.int .i32),1,4,[.d true (.int .i32 0)]⟩:=⟨⟨Tryz.t21,by kernel_rfl,rfl,rfl,_,rfl,fun c w=>aD (by rfl)⟩,Tryz.underlying21,rfl⟩
theorem aqT:bJ Tryz.prog 22 ⟨(.slice 107),1,24,[.nil]⟩:=⟨⟨Tryz.t22,by kernel_rfl,rfl,rfl,_,rfl,fun c w=>aD (by rfl)⟩,Tryz.underlying22,rfl⟩
theorem aqU:bJ Tryz.prog 23 ⟨(.struct [(0,3),(1,3),(2,22),(3,3),(4,3),(5,3),(6,3)]),7,72,[.d true (.int .i64 0),.d true (.int .i64 0),.nil,.d true (.int .i64 0),.d true (.int .i64 0),.d true (.int .i64 0),.d true (.int .i64 0)]⟩:=⟨⟨Tryz.t23,by kernel_rfl,rfl,rfl,_,rfl,fun c w=>aD (by rfl)⟩,⟨_,Tryz.underlying23,by rfl⟩,rfl⟩
theorem aqV:bJ Tryz.prog 24 ⟨(.struct [(0,3),(1,3),(2,22),(3,3),(4,3),(5,3),(6,3)]),7,72,[.d true (.int .i64 0),.d true (.int .i64 0),.nil,.d true (.int .i64 0),.d true (.int .i64 0),.d true (.int .i64 0),.d true (.int .i64 0)]⟩:=⟨⟨Tryz.t24,by kernel_rfl,rfl,rfl,_,rfl,fun c w=>aD (by rfl)⟩,⟨_,Tryz.underlying24,by rfl⟩,rfl⟩
theorem aqW:bJ Tryz.prog 27 ⟨(.slice 84),1,24,[.nil]⟩:=⟨⟨Tryz.t27,by kernel_rfl,rfl,rfl,_,rfl,fun c w=>aD (by rfl)⟩,Tryz.underlying27,rfl⟩
theorem aqX:bJ Tryz.prog 28 ⟨(.struct [(0,3),(1,3),(2,27),(3,3),(4,3),(5,3),(6,3)]),7,72,[.d true (.int .i64 0),.d true (.int .i64 0),.nil,.d true (.int .i64 0),.d true (.int .i64 0),.d true (.int .i64 0),.d true (.int .i64 0)]⟩:=⟨⟨Tryz.t28,by kernel_rfl,rfl,rfl,_,rfl,fun c w=>aD (by rfl)⟩,⟨_,Tryz.underlying28,by rfl⟩,rfl⟩
theorem aqY:bJ Tryz.prog 29 ⟨(.struct [(0,3),(1,3),(2,27),(3,3),(4,3),(5,3),(6,3)]),7,72,[.d true (.int .i64 0),.d true (.int .i64 0),.nil,.d true (.int .i64 0),.d true (.int .i64 0),.d true (.int .i64 0),.d true (.int .i64 0)]⟩:=⟨⟨Tryz.t29,by kernel_rfl,rfl,rfl,_,rfl,fun c w=>aD (by rfl)⟩,⟨_,Tryz.underlying29,by rfl⟩,rfl⟩
theorem ok32:bJ Tryz.prog 32 ⟨(.slice 68),1,24,[.nil]⟩:=⟨⟨Tryz.t32,by kernel_rfl,rfl,rfl,_,rfl,fun c w=>aD (by rfl)⟩,Tryz.underlying32,rfl⟩
theorem aqZ:bJ Tryz.prog 35 ⟨(.slice 41),1,24,[.nil]⟩:=⟨⟨Tryz.t35,by kernel_rfl,rfl,rfl,_,rfl,fun c w=>aD (by rfl)⟩,Tryz.underlying35,rfl⟩
theorem aq0:bJ Tryz.prog 39 ⟨(.slice 5),1,24,[.nil]⟩:=⟨⟨Tryz.t39,by kernel_rfl,rfl,rfl,_,rfl,fun c w=>aD (by rfl)⟩,Tryz.underlying39,rfl⟩
theorem aq1:bJ Tryz.prog 40 ⟨(.struct [(0,29),(7,29)]),14,144,[.d true (.int .i64 0),.d true (.int .i64 0),.nil,.d true (.int .i64 0),.d true (.int .i64 0),.d true (.int .i64 0),.d true (.int .i64 0),.d true (.int .i64 0),.d true (.int .i64 0),.nil,.d true (.int .i64 0),.d true (.int .i64 0),.d true (.int .i64 0),.d true (.int .i64 0)]⟩:=⟨⟨Tryz.t40,by kernel_rfl,rfl,rfl,_,rfl,fun c w=>aD (by rfl)⟩,⟨_,Tryz.underlying40,by rfl⟩,rfl⟩
theorem aq2:bJ Tryz.prog 41 ⟨(.struct [(0,29),(7,29)]),14,144,[.d true (.int .i64 0),.d true (.int .i64 0),.nil,.d true (.int .i64 0),.d true (.int .i64 0),.d true (.int .i64 0),.d true (.int .i64 0),.d true (.int .i64 0),.d true (.int .i64 0),.nil,.d true (.int .i64 0),.d true (.int .i64 0),.d true (.int .i64 0),.d true (.int .i64 0)]⟩:=⟨⟨Tryz.t41,by kernel_rfl,rfl,rfl,_,rfl,fun c w=>aD (by rfl)⟩,⟨_,Tryz.underlying41,by rfl⟩,rfl⟩
theorem aq3:bJ Tryz.prog 49 ⟨(.slice 86),1,24,[.nil]⟩:=⟨⟨Tryz.t49,by kernel_rfl,rfl,rfl,_,rfl,fun c w=>aD (by rfl)⟩,Tryz.underlying49,rfl⟩
theorem aq4:bJ Tryz.prog 50 ⟨(.struct [(0,49)]),1,24,[.nil]⟩:=⟨⟨Tryz.t50,by kernel_rfl,rfl,rfl,_,rfl,fun c w=>aD (by rfl)⟩,⟨_,Tryz.underlying50,by rfl⟩,rfl⟩
theorem aq5:bJ Tryz.prog 51 ⟨(.struct [(0,49)]),1,24,[.nil]⟩:=⟨⟨Tryz.t51,by kernel_rfl,rfl,rfl,_,rfl,fun c w=>aD (by rfl)⟩,⟨_,Tryz.underlying51,by rfl⟩,rfl⟩
theorem aq6:bJ Tryz.prog 52 ⟨(.slice 58),1,24,[.nil]⟩:=⟨⟨Tryz.t52,by kernel_rfl,rfl,rfl,_,rfl,fun c w=>aD (by rfl)⟩,Tryz.underlying52,rfl⟩
theorem aq7:bJ Tryz.prog 55 ⟨(.slice 97),1,24,[.nil]⟩:=⟨⟨Tryz.t55,by kernel_rfl,rfl,rfl,_,rfl,fun c w=>aD (by rfl)⟩,Tryz.underlying55,rfl⟩
theorem aq8:bJ Tryz.prog 56 ⟨(.slice 136),1,24,[.nil]⟩:=⟨⟨Tryz.t56,by kernel_rfl,rfl,rfl,_,rfl,fun c w=>aD (by rfl)⟩,Tryz.underlying56,rfl⟩
theorem aq9:bJ Tryz.prog 57 ⟨(.struct [(0,56)]),1,24,[.nil]⟩:=⟨⟨Tryz.t57,by kernel_rfl,rfl,rfl,_,rfl,fun c w=>aD (by rfl)⟩,⟨_,Tryz.underlying57,by rfl⟩,rfl⟩
theorem ara:bJ Tryz.prog 58 ⟨(.struct [(0,56)]),1,24,[.nil]⟩:=⟨⟨Tryz.t58,by kernel_rfl,rfl,rfl,_,rfl,fun c w=>aD (by rfl)⟩,⟨_,Tryz.underlying58,by rfl⟩,rfl⟩
theorem arb:bJ Tryz.prog 59 ⟨(.struct [(0,55),(1,52),(2,3),(3,58),(4,58),(5,3)]),6,112,[.nil,.nil,.d true (.int .i64 0),.nil,.nil,.d true (.int .i64 0)]⟩:=⟨⟨Tryz.t59,by kernel_rfl,rfl,rfl,_,rfl,fun c w=>aD (by rfl)⟩,⟨_,Tryz.underlying59,by rfl⟩,rfl⟩
theorem ard:bJ Tryz.prog 60 ⟨(.struct [(0,55),(1,52),(2,3),(3,58),(4,58),(5,3)]),6,112,[.nil,.nil,.d true (.int .i64 0),.nil,.nil,.d true (.int .i64 0)]⟩:=⟨⟨Tryz.t60,by kernel_rfl,rfl,rfl,_,rfl,fun c w=>aD (by rfl)⟩,⟨_,Tryz.underlying60,by rfl⟩,rfl⟩
theorem arf:bJ Tryz.prog 67 ⟨(.struct [(0,24),(7,24)]),14,144,[.d true (.int .i64 0),.d true (.int .i64 0),.nil,.d true (.int .i64 0),.d true (.int .i64 0),.d true (.int .i64 0),.d true (.int .i64 0),.d true (.int .i64 0),.d true (.int .i64 0),.nil,.d true (.int .i64 0),.d true (.int .i64 0),.d true (.int .i64 0),.d true (.int .i64 0)]⟩:=⟨⟨Tryz.t67,by kernel_rfl,rfl,rfl,_,rfl,fun c w=>aD (by rfl)⟩,⟨_,Tryz.underlying67,by rfl⟩,rfl⟩
theorem arh:bJ Tryz.prog 68 ⟨(.struct [(0,24),(7,24)]),14,144,[.d true (.int .i64 0),.d true (.int .i64 0),.nil,.d true (.int .i64 0),.d true (.int .i64 0),.d true (.int .i64 0),.d true (.int .i64 0),.d true (.int .i64 0),.d true (.int .i64 0),.nil,.d true (.int .i64 0),.d true (.int .i64 0),.d true (.int .i64 0),.d true (.int .i64 0)]⟩:=⟨⟨Tryz.t68,by kernel_rfl,rfl,rfl,_,rfl,fun c w=>aD (by rfl)⟩,⟨_,Tryz.underlying68,by rfl⟩,rfl⟩
theorem ari:bJ Tryz.prog 73 ⟨.scalar,1,8,[.np]⟩:=⟨⟨Tryz.t73,by kernel_rfl,rfl,rfl,_,rfl,fun c w=>aD (by rfl)⟩,⟨_,Tryz.underlying73,(fun _ h=>by cases h),(fun _ _ h=>by cases h)⟩,rfl⟩
theorem arj:bJ Tryz.prog 83 ⟨(.struct [(0,3),(1,3),(2,3),(3,3),(4,3)]),5,40,[.d true (.int .i64 0),.d true (.int .i64 0),.d true (.int .i64 0),.d true (.int .i64 0),.d true (.int .i64 0)]⟩:=⟨⟨Tryz.t83,by kernel_rfl,rfl,rfl,_,rfl,fun c w=>aD (by rfl)⟩,⟨_,Tryz.underlying83,by rfl⟩,rfl⟩
theorem ark:bJ Tryz.prog 84 ⟨(.struct [(0,3),(1,3),(2,3),(3,3),(4,3)]),5,40,[.d true (.int .i64 0),.d true (.int .i64 0),.d true (.int .i64 0),.d true (.int .i64 0),.d true (.int .i64 0)]⟩:=⟨⟨Tryz.t84,by kernel_rfl,rfl,rfl,_,rfl,fun c w=>aD (by rfl)⟩,⟨_,Tryz.underlying84,by rfl⟩,rfl⟩
theorem arl:bJ Tryz.prog 85 ⟨(.struct [(0,3),(1,3),(2,58),(3,58)]),4,64,[.d true (.int .i64 0),.d true (.int .i64 0),.nil,.nil]⟩:=⟨⟨Tryz.t85,by kernel_rfl,rfl,rfl,_,rfl,fun c w=>aD (by rfl)⟩,⟨_,Tryz.underlying85,by rfl⟩,rfl⟩
theorem arn:bJ Tryz.prog 86 ⟨(.struct [(0,3),(1,3),(2,58),(3,58)]),4,64,[.d true (.int .i64 0),.d true (.int .i64 0),.nil,.nil]⟩:=⟨⟨Tryz.t86,by kernel_rfl,rfl,rfl,_,rfl,fun c w=>aD (by rfl)⟩,⟨_,Tryz.underlying86,by rfl⟩,rfl⟩
theorem aro:bJ Tryz.prog 96 ⟨(.struct [(0,3),(1,3),(2,58),(3,58),(4,52)]),5,88,[.d true (.int .i64 0),.d true (.int .i64 0),.nil,.nil,.nil]⟩:=⟨⟨Tryz.t96,by kernel_rfl,rfl,rfl,_,rfl,fun c w=>aD (by rfl)⟩,⟨_,Tryz.underlying96,by rfl⟩,rfl⟩
theorem arp:bJ Tryz.prog 97 ⟨(.struct [(0,3),(1,3),(2,58),(3,58),(4,52)]),5,88,[.d true (.int .i64 0),.d true (.int .i64 0),.nil,.nil,.nil]⟩:=⟨⟨Tryz.t97,by kernel_rfl,rfl,rfl,_,rfl,fun c w=>aD (by rfl)⟩,⟨_,Tryz.underlying97,by rfl⟩,rfl⟩
theorem alF:bJ Tryz.prog 107 ⟨(.struct [(0,3),(1,3),(2,3),(3,3),(4,3)]),5,40,[.d true (.int .i64 0),.d true (.int .i64 0),.d true (.int .i64 0),.d true (.int .i64 0),.d true (.int .i64 0)]⟩:=⟨⟨Tryz.t107,by kernel_rfl,rfl,rfl,_,rfl,fun c w=>aD (by rfl)⟩,⟨_,Tryz.underlying107,by rfl⟩,rfl⟩
theorem alG:bJ Tryz.prog 110 ⟨.scalar,1,8,[.np]⟩:=⟨⟨Tryz.t110,by kernel_rfl,rfl,rfl,_,rfl,fun c w=>aD (by rfl)⟩,⟨_,Tryz.underlying110,(fun _ h=>by cases h),(fun _ _ h=>by cases h)⟩,rfl⟩
theorem alH:bJ Tryz.prog 111 ⟨(.struct [(0,51),(1,4)]),2,32,[.nil,.d true (.bool false)]⟩:=⟨⟨Tryz.t111,by kernel_rfl,rfl,rfl,_,rfl,fun c w=>aD (by rfl)⟩,⟨_,Tryz.underlying111,by rfl⟩,rfl⟩
theorem alI:bJ Tryz.prog 112 ⟨(.struct [(0,51),(1,4)]),2,32,[.nil,.d true (.bool false)]⟩:=⟨⟨Tryz.t112,by kernel_rfl,rfl,rfl,_,rfl,fun c w=>aD (by rfl)⟩,⟨_,Tryz.underlying112,by rfl⟩,rfl⟩
theorem alJ:bJ Tryz.prog 126 ⟨(.struct [(0,39),(1,3)]),2,32,[.nil,.d true (.int .i64 0)]⟩:=⟨⟨Tryz.t126,by kernel_rfl,rfl,rfl,_,rfl,fun c w=>aD (by rfl)⟩,⟨_,Tryz.underlying126,by rfl⟩,rfl⟩
theorem alK:bJ Tryz.prog 127 ⟨(.struct [(0,39),(1,3)]),2,32,[.nil,.d true (.int .i64 0)]⟩:=⟨⟨Tryz.t127,by kernel_rfl,rfl,rfl,_,rfl,fun c w=>aD (by rfl)⟩,⟨_,Tryz.underlying127,by rfl⟩,rfl⟩
theorem alL:bJ Tryz.prog 134 ⟨(.slice 3),1,24,[.nil]⟩:=⟨⟨Tryz.t134,by kernel_rfl,rfl,rfl,_,rfl,fun c w=>aD (by rfl)⟩,Tryz.underlying134,rfl⟩
theorem alM:bJ Tryz.prog 135 ⟨(.struct [(0,3),(1,134)]),2,32,[.d true (.int .i64 0),.nil]⟩:=⟨⟨Tryz.t135,by kernel_rfl,rfl,rfl,_,rfl,fun c w=>aD (by rfl)⟩,⟨_,Tryz.underlying135,by rfl⟩,rfl⟩
theorem alN:bJ Tryz.prog 136 ⟨(.struct [(0,3),(1,134)]),2,32,[.d true (.int .i64 0),.nil]⟩:=⟨⟨Tryz.t136,by kernel_rfl,rfl,rfl,_,rfl,fun c w=>aD (by rfl)⟩,⟨_,Tryz.underlying136,by rfl⟩,rfl⟩
theorem alO:bJ Tryz.prog 154 ⟨(.slice 174),1,24,[.nil]⟩:=⟨⟨Tryz.t154,by kernel_rfl,rfl,rfl,_,rfl,fun c w=>aD (by rfl)⟩,Tryz.underlying154,rfl⟩
theorem alP:bJ Tryz.prog 173 ⟨(.struct [(0,3),(1,3),(2,3),(3,3)]),4,32,[.d true (.int .i64 0),.d true (.int .i64 0),.d true (.int .i64 0),.d true (.int .i64 0)]⟩:=⟨⟨Tryz.t173,by kernel_rfl,rfl,rfl,_,rfl,fun c w=>aD (by rfl)⟩,⟨_,Tryz.underlying173,by rfl⟩,rfl⟩
theorem alQ:bJ Tryz.prog 174 ⟨(.struct [(0,3),(1,3),(2,3),(3,3)]),4,32,[.d true (.int .i64 0),.d true (.int .i64 0),.d true (.int .i64 0),.d true (.int .i64 0)]⟩:=⟨⟨Tryz.t174,by kernel_rfl,rfl,rfl,_,rfl,fun c w=>aD (by rfl)⟩,⟨_,Tryz.underlying174,by rfl⟩,rfl⟩
theorem alR:bJ Tryz.prog 179 ⟨(.slice 4),1,24,[.nil]⟩:=⟨⟨Tryz.t179,by kernel_rfl,rfl,rfl,_,rfl,fun c w=>aD (by rfl)⟩,Tryz.underlying179,rfl⟩
theorem alS:bJ Tryz.prog 202 ⟨(.slice 56),1,24,[.nil]⟩:=⟨⟨Tryz.t202,by kernel_rfl,rfl,rfl,_,rfl,fun c w=>aD (by rfl)⟩,Tryz.underlying202,rfl⟩
theorem alT:bJ Tryz.prog 204 ⟨(.slice 134),1,24,[.nil]⟩:=⟨⟨Tryz.t204,by kernel_rfl,rfl,rfl,_,rfl,fun c w=>aD (by rfl)⟩,Tryz.underlying204,rfl⟩
theorem alU:bJ Tryz.prog 208 ⟨(.int .u64),1,8,[.d true (.int .u64 0)]⟩:=⟨⟨Tryz.t208,by kernel_rfl,rfl,rfl,_,rfl,fun c w=>aD (by rfl)⟩,Tryz.underlying208,rfl⟩
theorem alV:bJ Tryz.prog 211 ⟨(.int .i64),1,8,[.d true (.int .i64 0)]⟩:=⟨⟨Tryz.t211,by kernel_rfl,rfl,rfl,_,rfl,fun c w=>aD (by rfl)⟩,Tryz.underlying211,rfl⟩
theorem alW:bJ Tryz.prog 218 ⟨(.int .u32),1,4,[.d true (.int .u32 0)]⟩:=⟨⟨Tryz.t218,by kernel_rfl,rfl,rfl,_,rfl,fun c w=>aD (by rfl)⟩,Tryz.underlying218,rfl⟩
theorem alX:bJ Tryz.prog 220 ⟨(.int .u64),1,8,[.d true (.int .u64 0)]⟩:=⟨⟨Tryz.t220,by kernel_rfl,rfl,rfl,_,rfl,fun c w=>aD (by rfl)⟩,Tryz.underlying220,rfl⟩
theorem alY:bJ Tryz.prog 223 ⟨(.int .u64),1,8,[.d true (.int .u64 0)]⟩:=⟨⟨Tryz.t223,by kernel_rfl,rfl,rfl,_,rfl,fun c w=>aD (by rfl)⟩,Tryz.underlying223,rfl⟩
theorem alZ:bJ Tryz.prog 227 ⟨.scalar,1,8,[.np]⟩:=⟨⟨Tryz.t227,by kernel_rfl,rfl,rfl,_,rfl,fun c w=>aD (by rfl)⟩,⟨_,Tryz.underlying227,(fun _ h=>by cases h),(fun _ _ h=>by cases h)⟩,rfl⟩
theorem al0:bJ Tryz.prog 229 ⟨.scalar,1,8,[.np]⟩:=⟨⟨Tryz.t229,by kernel_rfl,rfl,rfl,_,rfl,fun c w=>aD (by rfl)⟩,⟨_,Tryz.underlying229,(fun _ h=>by cases h),(fun _ _ h=>by cases h)⟩,rfl⟩
theorem al1:bJ Tryz.prog 233 ⟨(.struct [(0,17),(1,17),(2,17),(3,9)]),4,40,[.np,.np,.np,.d true (.str ⟨#[]⟩)]⟩:=⟨⟨Tryz.t233,by kernel_rfl,rfl,rfl,_,rfl,fun c w=>aD (by rfl)⟩,⟨_,Tryz.underlying233,by rfl⟩,rfl⟩
theorem al2:bJ Tryz.prog 234 ⟨(.struct [(0,17),(1,17),(2,17),(3,9)]),4,40,[.np,.np,.np,.d true (.str ⟨#[]⟩)]⟩:=⟨⟨Tryz.t234,by kernel_rfl,rfl,rfl,_,rfl,fun c w=>aD (by rfl)⟩,⟨_,Tryz.underlying234,by rfl⟩,rfl⟩
theorem al3:bJ Tryz.prog 239 ⟨(.int .u8),1,1,[.d true (.int .u8 0)]⟩:=⟨⟨Tryz.t239,by kernel_rfl,rfl,rfl,_,rfl,fun c w=>aD (by rfl)⟩,Tryz.underlying239,rfl⟩
theorem al4:bJ Tryz.prog 240 ⟨(.int .u8),1,1,[.d true (.int .u8 0)]⟩:=⟨⟨Tryz.t240,by kernel_rfl,rfl,rfl,_,rfl,fun c w=>aD (by rfl)⟩,Tryz.underlying240,rfl⟩
theorem al5:bJ Tryz.prog 242 ⟨.scalar,1,8,[.np]⟩:=⟨⟨Tryz.t242,by kernel_rfl,rfl,rfl,_,rfl,fun c w=>aD (by rfl)⟩,⟨_,Tryz.underlying242,(fun _ h=>by cases h),(fun _ _ h=>by cases h)⟩,rfl⟩
theorem al6:bJ Tryz.prog 243 ⟨(.int .i32),1,4,[.d true (.int .i32 0)]⟩:=⟨⟨Tryz.t243,by kernel_rfl,rfl,rfl,_,rfl,fun c w=>aD (by rfl)⟩,Tryz.underlying243,rfl⟩
theorem al7:bJ Tryz.prog 244 ⟨(.int .i32),1,4,[.d true (.int .i32 0)]⟩:=⟨⟨Tryz.t244,by kernel_rfl,rfl,rfl,_,rfl,fun c w=>aD (by rfl)⟩,Tryz.underlying244,rfl⟩
theorem arq:∀t y,ty t=some y→bJ Tryz.prog t y:=by
 intro t y h
 unfold ty at h
 split at h<;>first | (cases h;done) | skip
 ·cases h;exact ok2
 ·cases h;exact ok3
 ·cases h;exact ok4
 ·cases h;exact ok5
 ·cases h;exact ok6
 ·cases h;exact ok7
 ·cases h;exact ok8
 ·cases h;exact ok9
 ·cases h;exact aqJ
 ·cases h;exact aqK
 ·cases h;exact aqL
 ·cases h;exact aqM
 ·cases h;exact aqN
 ·cases h;exact aqO
 ·cases h;exact ok16
 ·cases h;exact aqP
 ·cases h;exact aqQ
 ·cases h;exact aqR
 ·cases h;exact aqS
 ·cases h;exact aqT
 ·cases h;exact aqU
 ·cases h;exact aqV
 ·cases h;exact aqW
 ·cases h;exact aqX
 ·cases h;exact aqY
 ·cases h;exact ok32
 ·cases h;exact aqZ
 ·cases h;exact aq0
 ·cases h;exact aq1
 ·cases h;exact aq2
 ·cases h;exact aq3
 ·cases h;exact aq4
 ·cases h;exact aq5
 ·cases h;exact aq6
 ·cases h;exact aq7
 ·cases h;exact aq8
 ·cases h;exact aq9
 ·cases h;exact ara
 ·cases h;exact arb
 ·cases h;exact ard
 ·cases h;exact arf
 ·cases h;exact arh
 ·cases h;exact ari
 ·cases h;exact arj
 ·cases h;exact ark
 ·cases h;exact arl
 ·cases h;exact arn
 ·cases h;exact aro
 ·cases h;exact arp
 ·cases h;exact alF
 ·cases h;exact alG
 ·cases h;exact alH
 ·cases h;exact alI
 ·cases h;exact alJ
 ·cases h;exact alK
 ·cases h;exact alL
 ·cases h;exact alM
 ·cases h;exact alN
 ·cases h;exact alO
 ·cases h;exact alP
 ·cases h;exact alQ
 ·cases h;exact alR
 ·cases h;exact alS
 ·cases h;exact alT
 ·cases h;exact alU
 ·cases h;exact alV
 ·cases h;exact alW
 ·cases h;exact alX
 ·cases h;exact alY
 ·cases h;exact alZ
 ·cases h;exact al0
 ·cases h;exact al1
 ·cases h;exact al2
 ·cases h;exact al3
 ·cases h;exact al4
 ·cases h;exact al5
 ·cases h;exact al6
 ·cases h;exact al7
def co:TypeId→Option Co
 | 3=>some .i64
 | 4=>some .bool
 | 5=>some .u8
 | 9=>some .str
 | 24=>some .blk
 | 29=>some .blk
 | 41=>some .cer
 | 51=>some .tab
 | 56=>some .poly
 | 58=>some .poly
 | 60=>some .sym
 | 68=>some .cer
 | 84=>some .iop
 | 86=>some .atom
 | 97=>some .ev
 | 107=>some .iop
 | 134=>some .ints
 | 136=>some .mono
 | 174=>some .ins
 | _=>none
def ieq:TypeId→Option Co
 | 84=>some .iop
 | 107=>some .iop
 | 174=>some .ins
 | _=>none
def X:XT:={ty:=ty,co:=co,glob:=fun g=>none,ieq:=ieq}
noncomputable def E:Tab:={P:=Tryz.prog,ty:=ty,glob:=fun g=>none,ieq:=fun t=>(ieq t).map fun c=>c.size}
end Go.TX.Seat
namespace Go.TX.Seat
open Go Go.AE Go.TX Go.TX.F Go.Proofs
set_option maxRecDepth 100000
theorem al8 (A:Alg): @Ru aH.z X E A [] .u LP Tryz.f21 [] (WS A):=fun _=>by kernel_rfl
theorem al9 (A:Alg) (Nc:Ct A.ah LP): @Ru aH.z X E A [] .u LQ Tryz.f6 [(21,⟨_,Nc⟩)] (WT A Nc.pre Nc.fn):=fun _=>by kernel_rfl
theorem afA (A:Alg): @Ru aH.z X E A [] .u fO Tryz.f47 [] (PL A):=fun _=>by kernel_rfl
theorem afB (A:Alg): @Ru aH.z X E A [] .u jW Tryz.f99 [] (PN A):=fun _=>by kernel_rfl
theorem afC (A:Alg) (bP:Ct A.ah fO): @Ru aH.z X E A [] .u DV Tryz.f136 [(47,⟨_,bP⟩)] (PO A bP.pre bP.fn):=fun _=>by kernel_rfl
theorem afD (A:Alg) (Fw:Ct A.ah DV): @Ru aH.z X E A [] .u tN Tryz.f100 [(136,⟨_,Fw⟩)] (PS A Fw.pre Fw.fn):=fun _=>by kernel_rfl
theorem afE (A:Alg) (gU:Ct A.ah jW) (bP:Ct A.ah fO) (oK:Ct A.ah tN): @Ru aH.z X E A [] (.seq .u (.seq .u (.seq (.seq .u (.block (.seq .u (.cond .u (.seq .u (.cond .u (.seq .u (.cond .u (.seq (.seq .u (.cut ⟨[(0,.c (.rows false .iop)),(1,.c (.int .i64)),(2,.c (.int .i64)),(7,.c (.pb 0 5 0)),(13,.c (.int .i64)),(78,.c (.bool))],[.box (.sv false .iop)]⟩ (.cond .u .u))) .u))))))))) .u))) DW Tryz.f48 [(99,⟨_,gU⟩),(47,⟨_,bP⟩),(100,⟨_,oK⟩)] (PU A gU.pre gU.fn bP.pre bP.fn oK.pre oK.fn):=fun _=>by kernel_rfl
theorem afF (A:Alg) (gU:Ct A.ah jW) (oK:Ct A.ah tN): @Ru aH.z X E A [] (.seq .u (.seq .u (.seq (.seq .u (.block (.seq .u (.cond .u (.seq .u (.cond .u (.seq (.seq .u (.cut ⟨[(1,.c (.pb 0 7 0)),(3,.c (.int .i64)),(42,.c (.bool))],[.box (.sv false .blk)]⟩ (.cond .u .u))) .u))))))) .u))) DX Tryz.f49 [(99,⟨_,gU⟩),(100,⟨_,oK⟩)] (PW A gU.pre gU.fn oK.pre oK.fn):=fun _=>by kernel_rfl
theorem afG (A:Alg) (bP:Ct A.ah fO) (Fx:Ct A.ah DX) (Fy:Ct A.ah DW): @Ru aH.z X E A [] (.seq .u (.seq .u (.seq (.seq .u (.block (.loop ⟨[(1,.c (.pb 0 7 0)),(3,.c (.int .i64))],[.box (.sv false .blk)]⟩ .u))) .u))) tO Tryz.f22 [(47,⟨_,bP⟩),(49,⟨_,Fx⟩),(48,⟨_,Fy⟩)] (PX A bP.pre bP.fn Fx.pre Fx.fn Fy.pre Fy.fn):=fun _=>by kernel_rfl
theorem afH (A:Alg): @Ru aH.z X E A [(6,[(0,([2],[])),(1,([62],[])),(2,([5],[])),(3,([63,64],[])),(4,([65],[])),(5,([3],[])),(6,([67],[])),(7,([5],[])),(8,([68,69],[])),(9,([70],[])),(10,([66,71],[]))])] (.seq .u (.seq .u (.seq (.seq .u (.block (.loop ⟨[(2,.c (.pb 0 7 0)),(3,.c (.pb 1 7 0)),(5,.c (.int .i64))],[.box (.sv false .blk),.box (.sv false .blk)]⟩ .u))) .u))) DY Tryz.f23 [] (PY A):=fun _=>by kernel_rfl
theorem afI (A:Alg) (bP:Ct A.ah fO): @Ru aH.z X E A [] .u jX Tryz.f50 [(47,⟨_,bP⟩)] (PZ A bP.pre bP.fn):=fun _=>by kernel_rfl
theorem afJ (A:Alg) (gV:Ct A.ah jX): @Ru aH.z X E A [] (.seq .u (.seq .u (.seq .u (.seq (.seq .u (.block (.loop ⟨[(0,.c (.pb 0 1 0)),(2,.c (.pb 1 1 0)),(3,.c (.own 2)),(4,.c (.int .i64))],[.box (.agg [.nil]),.box (.agg [.own 3]),.rows true .poly,.rows true .atom]⟩ .u))) .u)))) tQ Tryz.f24 [(50,⟨_,gV⟩)] (P5 A gV.pre gV.fn):=fun _=>by kernel_rfl
theorem afK (A:Alg): @Ru aH.z X E A [(8,[(0,([0],[])),(1,([5],[])),(2,([22,23],[])),(3,([24],[])),(4,([1],[])),(5,([5],[])),(6,([26,27],[])),(7,([28],[])),(8,([25,29],[]))]),(10,[(0,([0],[])),(1,([5],[])),(2,([31,32],[])),(3,([33],[])),(4,([1],[])),(5,([5],[])),(6,([35,36],[])),(7,([37],[])),(8,([34,38],[]))])] (.seq .u (.seq .u (.seq (.seq .u (.block (.loop ⟨[(0,.c (.rows false .i64)),(1,.c (.rows false .i64)),(5,.c (.int .i64))],[]⟩ .u))) .u))) mI Tryz.f111 [] (P6 A):=fun _=>by kernel_rfl
theorem afL (A:Alg) (bP:Ct A.ah fO): @Ru aH.z X E A [(6,[(0,([1],[])),(1,([21],[])),(2,([3],[])),(3,([22,23],[])),(4,([24],[])),(5,([25],[])),(6,([26],[])),(7,([27],[])),(8,([3,28],[])),(9,([28,29],[])),(10,([28,30],[])),(11,([1,31],[])),(12,([31,32],[])),(13,([3,31],[])),(14,([31,34],[])),(15,([31,33,35],[])),(16,([31,36],[])),(17,([1,31],[])),(18,([31,38],[])),(19,([3,31],[])),(20,([31,39,40],[])),(21,([31,41],[])),(22,([31,37,42],[])),(23,([28,31,43],[])),(24,([28,44],[]))])] (.seq .u (.seq .u (.seq (.seq .u (.block (.loop ⟨[(1,.c (.pb 0 2 0)),(3,.c (.int .i64))],[.box (.sv false .mono)]⟩ .u))) .u))) DZ Tryz.f144 [(47,⟨_,bP⟩)] (P7 A bP.pre bP.fn):=fun _=>by kernel_rfl
theorem afM (A:Alg) (Fz:Ct A.ah DZ) (jw:Ct A.ah mI): @Ru aH.z X E A [(6,[(0,([1],[])),(1,([15],[])),(2,([3],[])),(3,([16,17],[])),(4,([18],[])),(5,([19],[])),(6,([20],[])),(7,([21],[])),(8,([3,22],[])),(9,([22,23],[])),(10,([22,24],[])),(11,([1,25],[])),(12,([25,26],[])),(13,([3,25],[])),(14,([25,28],[])),(15,([25,27,29],[])),(16,([25,30],[])),(17,([25,31],[])),(18,([1,25],[])),(19,([25,33],[])),(20,([3,25],[])),(21,([25,34,35],[])),(22,([25,36],[])),(23,([25,37],[])),(24,([25,32,38],[])),(25,([25,39],[])),(26,([22,25,40],[])),(27,([22,41],[]))])] (.seq .u (.seq .u (.seq (.seq .u (.block (.loop ⟨[(1,.c (.pb 0 1 0)),(3,.c (.int .i64))],[.box (.sv false .poly)]⟩ .u))) .u))) gT Tryz.f107 [(144,⟨_,Fz⟩),(111,⟨_,jw⟩)] (P8 A Fz.pre Fz.fn jw.pre jw.fn):=fun _=>by kernel_rfl
theorem afN (A:Alg): @Ru aH.z X E A [] .u D5 Tryz.f137 [] (P9 A):=fun _=>by kernel_rfl
theorem afO (A:Alg): @Ru aH.z X E A [] (.seq .u (.seq (.seq .u (.block (.loop ⟨[(1,.c (.int .i64)),(2,.c (.pb 0 1 0)),(5,.c (.int .i64))],[.box (.sv false .poly)]⟩ (.seq .u (.seq (.block (.seq .u (.block (.loop ⟨[(1,.c (.int .i64)),(2,.c (.pb 0 1 0)),(5,.c (.int .i64)),(6,.c (.int .i64))],[.box (.sv false .poly)]⟩ .u)))) .u))))) .u)) D6 Tryz.f138 [] (Qa A):=fun _=>by kernel_rfl
theorem afP (A:Alg) (bP:Ct A.ah fO) (dD:Ct A.ah gT) (FB:Ct A.ah D6) (FC:Ct A.ah D5): @Ru aH.z X E A [] (.seq .u (.seq (.seq .u (.block (.seq .u (.cond .u (.seq (.seq .u (.cut ⟨[(1,.c (.int .i64)),(2,.c (.pb 0 4 0)),(6,.c (.int .i64)),(16,.c (.bool))],[.box (.sv false .atom)]⟩ (.cond .u .u))) .u))))) .u)) tT Tryz.f101 [(47,⟨_,bP⟩),(107,⟨_,dD⟩),(138,⟨_,FB⟩),(137,⟨_,FC⟩)] (Qb A bP.pre bP.fn dD.pre dD.fn FB.pre FB.fn FC.pre FC.fn):=fun _=>by kernel_rfl
theorem afQ (A:Alg) (jw:Ct A.ah mI): @Ru aH.z X E A [(8,[(0,([2],[])),(1,([28],[])),(2,([5],[])),(3,([29,30],[])),(4,([31],[])),(5,([32],[])),(6,([3],[])),(7,([34],[])),(8,([5],[])),(9,([35,36],[])),(10,([37],[])),(11,([38],[])),(12,([33,39],[])),(13,([40],[]))]),(11,[(0,([2],[])),(1,([44],[])),(2,([5],[])),(3,([45,46],[])),(4,([47],[])),(5,([48],[])),(6,([3],[])),(7,([50],[])),(8,([5],[])),(9,([51,52],[])),(10,([53],[])),(11,([54],[])),(12,([49,55],[]))]),(12,[(0,([2],[])),(1,([57],[])),(2,([5],[])),(3,([58,59],[])),(4,([60],[])),(5,([61],[])),(6,([3],[])),(7,([63],[])),(8,([5],[])),(9,([64,65],[])),(10,([66],[])),(11,([67],[])),(12,([62,68],[]))])] (.seq .u (.seq .u (.seq (.seq .u (.block (.loop ⟨[(2,.c (.pb 0 1 0)),(3,.c (.pb 1 1 0)),(5,.c (.int .i64))],[.box (.sv false .poly),.box (.sv false .poly)]⟩ .u))) .u))) fP Tryz.f65 [(111,⟨_,jw⟩)] (Qc A jw.pre jw.fn):=fun _=>by kernel_rfl
theorem afR (A:Alg) (bQ:Ct A.ah fP): @Ru aH.z X E A [] .u tV Tryz.f102 [(65,⟨_,bQ⟩)] (Qd A bQ.pre bQ.fn):=fun _=>by kernel_rfl
theorem afS (A:Alg) (oL:Ct A.ah tT) (oM:Ct A.ah tV): @Ru aH.z X E A [(11,[(0,([1],[])),(1,([29],[])),(2,([4],[])),(3,([30,31],[])),(4,([32],[])),(5,([1],[])),(6,([34],[])),(7,([3],[])),(8,([35,36],[])),(9,([37],[])),(10,([33,38],[]))])] (.seq .u (.seq .u (.seq (.seq .u (.block (.loop ⟨[(1,.c (.pb 0 1 0)),(3,.c (.int .i64))],[.box (.sv false .tab)]⟩ (.seq .u (.seq (.block (.seq .u (.seq .u (.block (.loop ⟨[(1,.c (.pb 0 1 0)),(3,.c (.int .i64)),(4,.c (.int .i64))],[.box (.sv false .tab)]⟩ .u))))) .u))))) .u))) D7 Tryz.f51 [(101,⟨_,oL⟩),(102,⟨_,oM⟩)] (Qe A oL.pre oL.fn oM.pre oM.fn):=fun _=>by kernel_rfl
theorem afT (A:Alg): @Ru ⟨[26],[]⟩ X E A [(5,[(0,([3],[])),(1,([12],[])),(2,([0],[])),(3,([4],[])),(4,([14,15],[])),(5,([16],[])),(6,([17],[])),(7,([],[])),(8,([0],[])),(9,([4],[])),(10,([20,21],[])),(11,([22],[])),(12,([23],[])),(13,([19,24],[1,6])),(14,([18,25],[])),(15,([26],[1])),(16,([13,27],[])),(17,([3],[])),(18,([28,29],[]))])] (.seq .u (.seq .u (.seq (.seq .u (.block (.loop ⟨[(0,.c (.rows false .mono)),(2,.c (.pb 0 1 0)),(3,.c (.pb 1 1 0)),(4,.c (.int .i64))],[.box (.agg [.nil]),.box (.agg [.own 2]),.rows true .mono]⟩ .u))) .u))) dI Tryz.f60 [] (Qj A):=fun _=>by kernel_rfl
theorem afU (A:Alg) (bA:Ct A.ah dI): @Ru aH.z X E A [(1,[(0,([1],[])),(1,([3],[])),(2,([1],[])),(3,([5],[])),(4,([1],[])),(5,([7],[])),(6,([8],[])),(8,([1],[])),(9,([11],[])),(10,([12],[])),(7,([9],[1,3,10])),(11,([13],[1,3])),(12,([4,6,10,14],[])),(13,([2,15],[]))])] .u tX Tryz.f103 [(60,⟨_,bA⟩)] (Qk A bA.pre bA.fn):=fun _=>by kernel_rfl
theorem afV (A:Alg) (oN:Ct A.ah tX): @Ru ⟨[20],[]⟩ X E A [(5,[(0,([3],[])),(1,([13],[])),(2,([1],[])),(3,([15],[])),(4,([4],[])),(5,([16,17],[])),(6,([18],[])),(7,([19],[1])),(8,([20],[1])),(9,([14,21],[])),(10,([3],[])),(11,([22,23],[]))])] (.seq .u (.seq .u (.seq (.seq .u (.block (.loop ⟨[(1,.c (.pb 0 1 0)),(2,.c (.pb 1 1 0)),(3,.c (.pb 2 1 0)),(4,.c (.int .i64))],[.box (.sv false .tab),.box (.agg [.nil]),.box (.agg [.own 3]),.rows true .atom]⟩ .u))) .u))) D8 Tryz.f52 [(103,⟨_,oN⟩)] (Ql A oN.pre oN.fn):=fun _=>by kernel_rfl
theorem afW (A:Alg) (oL:Ct A.ah tT) (oM:Ct A.ah tV) (oN:Ct A.ah tX): @Ru ⟨[38],[]⟩ X E A [(6,[(0,([2],[])),(1,([21],[])),(2,([6],[])),(3,([22,23],[])),(4,([24],[])),(5,([3],[])),(6,([25,26],[]))]),(10,[(0,([2],[])),(1,([35],[])),(2,([3],[])),(3,([37],[1])),(4,([38],[1])),(5,([36,39],[])),(6,([2],[])),(7,([40,41],[]))]),(11,[(0,([2],[])),(1,([2],[])),(2,([43],[])),(3,([44],[])),(4,([45],[])),(5,([4,42],[2])),(6,([46],[]))])] (.seq .u (.seq .u (.seq (.seq .u (.block (.loop ⟨[(2,.c (.pb 1 1 0)),(3,.c (.pb 2 4 0)),(4,.c (.pb 3 1 0)),(6,.c (.int .i64))],[.rows true .atom,.box (.agg [.own 0]),.box (.sv false .atom),.box (.agg [.nil])]⟩ .u))) .u))) mJ Tryz.f53 [(101,⟨_,oL⟩),(102,⟨_,oM⟩),(103,⟨_,oN⟩)] (Qo A oL.pre oL.fn oM.pre oM.fn oN.pre oN.fn):=fun _=>by kernel_rfl
theorem afX (A:Alg): @Ru aH.z X E A [] .u D9 Tryz.f54 [] (Qp A):=fun _=>by kernel_rfl
theorem afY (A:Alg) (bP:Ct A.ah fO): @Ru aH.z X E A [] .u tY Tryz.f55 [(47,⟨_,bP⟩)] (Qq A bP.pre bP.fn):=fun _=>by kernel_rfl
theorem afZ (A:Alg): @Ru aH.z X E A [] (.seq .u (.seq .u (.seq (.seq .u (.cut ⟨[(3,.c (.int .i64))],[]⟩ (.cond .u .u))) .u))) jY Tryz.f173 [] (Qr A):=fun _=>by kernel_rfl
theorem af0 (A:Alg) (jw:Ct A.ah mI) (gW:Ct A.ah jY): @Ru aH.z X E A [(6,[(0,([3],[])),(1,([17],[])),(2,([0],[])),(3,([7],[])),(4,([19,20],[])),(5,([21],[])),(6,([22],[])),(7,([18,23],[])),(8,([24],[]))]),(12,[(0,([0],[])),(1,([7],[])),(2,([37,38],[])),(3,([39],[])),(4,([40],[])),(5,([3],[])),(6,([42],[])),(7,([41,43],[])),(8,([44],[])),(9,([45],[]))])] (.seq .u (.seq .u (.seq .u (.seq (.seq .u (.block (.loop ⟨[(0,.c (.rows false .mono)),(3,.c (.pb 0 2 0)),(5,.c (.own 1)),(6,.c (.bool)),(7,.c (.int .i64))],[.box (.sv false .mono),.rows false .mono]⟩ (.seq .u (.seq (.block (.seq .u (.seq (.seq .u (.cut ⟨[(0,.c (.rows false .mono)),(3,.c (.pb 0 2 0)),(5,.c (.own 1)),(6,.c (.bool)),(7,.c (.int .i64)),(8,.c (.int .i64))],[.box (.sv false .mono),.rows false .mono]⟩ (.cond .u .u))) (.seq .u (.cut ⟨[(0,.c (.rows false .mono)),(3,.c (.pb 0 2 0)),(5,.c (.own 1)),(6,.c (.bool)),(7,.c (.int .i64))],[.box (.sv false .mono),.rows false .mono]⟩ (.cond (.seq .u (.seq .u (.seq .u (.cut ⟨[(0,.c (.rows false .mono)),(3,.c (.pb 0 2 0)),(5,.c (.own 1)),(6,.c (.bool)),(7,.c (.int .i64))],[.box (.sv false .mono),.rows false .mono]⟩ (.cond .u .u))))) .u)))))) .u))))) (.seq (.seq .u (.cut ⟨[(5,.c (.own 0))],[.rows false .mono]⟩ (.cond .u .u))) .u))))) tZ Tryz.f171 [(111,⟨_,jw⟩),(173,⟨_,gW⟩)] (Qs A jw.pre jw.fn gW.pre gW.fn):=fun _=>by kernel_rfl
theorem af2 (A:Alg) (bA:Ct A.ah dI): @Ru aH.z X E A [] (.seq .u (.seq .u (.seq (.seq .u (.block (.loop ⟨[(0,.c (.rows false .mono)),(2,.c (.pb 0 1 0)),(4,.c (.int .i64))],[.box (.agg [.nil])]⟩ .u))) .u))) uf Tryz.f172 [(60,⟨_,bA⟩)] (Qt A bA.pre bA.fn):=fun _=>by kernel_rfl
theorem af3 (A:Alg) (dD:Ct A.ah gT) (oO:Ct A.ah tZ) (oP:Ct A.ah uf): @Ru aH.z X E A [] (.seq .u (.seq .u (.seq .u (.seq (.seq .u (.block (.loop ⟨[(3,.c (.pb 0 1 0)),(4,.c (.pb 1 1 0)),(6,.c (.rows false .mono)),(7,.c (.int .i64))],[.box (.sv false .poly),.box (.agg [.nil])]⟩ .u))) .u)))) Ea Tryz.f139 [(107,⟨_,dD⟩),(171,⟨_,oO⟩),(172,⟨_,oP⟩)] (Qu A dD.pre dD.fn oO.pre oO.fn oP.pre oP.fn):=fun _=>by kernel_rfl
theorem af4 (A:Alg) (dD:Ct A.ah gT) (gW:Ct A.ah jY) (bA:Ct A.ah dI) (gU:Ct A.ah jW): @Ru aH.z X E A [] (.seq .u (.seq .u (.seq .u (.seq (.seq .u (.block (.loop ⟨[(1,.c (.int .i64)),(2,.c (.pb 0 1 0)),(4,.c (.pb 1 1 0)),(5,.c (.own 2)),(6,.c (.int .i64))],[.box (.sv false .poly),.box (.agg [.nil]),.rows false .mono]⟩ (.seq .u (.seq (.block (.seq .u (.seq .u (.cut ⟨[(1,.c (.int .i64)),(2,.c (.pb 0 1 0)),(4,.c (.pb 1 1 0)),(5,.c (.own 2)),(6,.c (.int .i64))],[.box (.sv false .poly),.box (.agg [.nil]),.rows false .mono]⟩ (.cond .u .u))))) .u))))) .u)))) Eb Tryz.f140 [(107,⟨_,dD⟩),(173,⟨_,gW⟩),(60,⟨_,bA⟩),(99,⟨_,gU⟩)] (Qz A dD.pre dD.fn gW.pre gW.fn bA.pre bA.fn gU.pre gU.fn):=fun _=>by kernel_rfl
theorem af5 (A:Alg): @Ru aH.z X E A [(6,[(0,([6],[])),(1,([0],[])),(2,([16],[])),(3,([15,17],[])),(4,([18],[])),(5,([0,19],[])),(6,([6,19],[])),(7,([19,20,21],[])),(8,([19,22],[])),(9,([1,19],[])),(10,([7,19],[])),(11,([19,24,25],[])),(12,([19,26],[])),(13,([19,23,27],[])),(14,([19,28],[]))])] (.seq .u (.seq .u (.seq .u (.seq (.seq .u (.block (.loop ⟨[(0,.c (.rows false .i64)),(1,.c (.rows false .i64)),(5,.c (.own 0)),(6,.c (.int .i64)),(7,.c (.int .i64))],[.rows true .i64]⟩ (.seq .u (.seq (.block (.seq (.block (.loop ⟨[(0,.c (.rows false .i64)),(1,.c (.rows false .i64)),(5,.c (.own 0)),(6,.c (.int .i64)),(7,.c (.int .i64))],[.rows true .i64]⟩ .u)) .u)) .u))))) .u)))) Ec Tryz.f174 [] (QA A):=fun _=>by kernel_rfl
theorem af6 (A:Alg) (dD:Ct A.ah gT) (gW:Ct A.ah jY) (oO:Ct A.ah tZ) (FD:Ct A.ah Ec) (oP:Ct A.ah uf): @Ru aH.z X E A [(10,[(0,([2],[])),(1,([34],[])),(2,([7],[])),(3,([35,36],[])),(4,([37],[])),(5,([38],[])),(6,([3],[])),(7,([40],[])),(8,([8],[])),(9,([41,42],[])),(10,([43],[])),(11,([44],[])),(12,([39,45],[])),(13,([46],[])),(14,([47],[]))]),(12,[(0,([6],[])),(1,([9],[])),(2,([2],[])),(3,([52],[])),(4,([7],[])),(5,([53,54],[])),(6,([55],[])),(7,([56],[])),(8,([3],[])),(9,([58],[])),(10,([8],[])),(11,([59,60],[])),(12,([61],[])),(13,([62],[])),(14,([57,63],[])),(15,([51,64],[])),(16,([50,65],[])),(17,([66],[]))])] (.seq .u (.seq .u (.seq .u (.seq (.seq .u (.block (.loop ⟨[(2,.c (.pb 0 1 0)),(3,.c (.pb 1 1 0)),(4,.c (.pb 2 1 0)),(6,.c (.own 3)),(7,.c (.int .i64))],[.box (.sv false .poly),.box (.sv false .poly),.box (.agg [.nil]),.rows false .mono]⟩ (.seq .u (.seq (.block (.seq .u (.block (.loop ⟨[(2,.c (.pb 0 1 0)),(3,.c (.pb 1 1 0)),(4,.c (.pb 2 1 0)),(6,.c (.own 3)),(7,.c (.int .i64)),(8,.c (.int .i64))],[.box (.sv false .poly),.box (.sv false .poly),.box (.agg [.nil]),.rows false .mono]⟩ (.seq .u (.seq (.block (.seq .u (.seq .u (.cut ⟨[(2,.c (.pb 0 1 0)),(3,.c (.pb 1 1 0)),(4,.c (.pb 2 1 0)),(6,.c (.own 3)),(7,.c (.int .i64)),(8,.c (.int .i64))],[.box (.sv false .poly),.box (.sv false .poly),.box (.agg [.nil]),.rows false .mono]⟩ (.cond .u .u))))) .u)))))) .u))))) .u)))) Ed Tryz.f141 [(107,⟨_,dD⟩),(173,⟨_,gW⟩),(171,⟨_,oO⟩),(174,⟨_,FD⟩),(172,⟨_,oP⟩)] (QB A dD.pre dD.fn gW.pre gW.fn oO.pre oO.fn FD.pre FD.fn oP.pre oP.fn):=fun _=>by kernel_rfl
theorem af7 (A:Alg) (FH:Ct A.ah Ed) (FJ:Ct A.ah Ea) (FK:Ct A.ah Eb): @Ru aH.z X E A [(5,[(0,([4],[])),(1,([5],[])),(2,([19],[0])),(3,([18,20],[])),(4,([21],[])),(5,([21],[])),(6,([6,22],[])),(7,([23],[]))])] .u Ee Tryz.f104 [(141,⟨_,FH⟩),(139,⟨_,FJ⟩),(140,⟨_,FK⟩)] (QC A FH.pre FH.fn FJ.pre FJ.fn FK.pre FK.fn):=fun _=>by kernel_rfl
theorem af8 (A:Alg) (dD:Ct A.ah gT): @Ru aH.z X E A [] .u mK Tryz.f108 [(107,⟨_,dD⟩)] (QD A dD.pre dD.fn):=fun _=>by kernel_rfl
theorem af9 (A:Alg) (gW:Ct A.ah jY) (gU:Ct A.ah jW): @Ru aH.z X E A [] .u Ef Tryz.f142 [(173,⟨_,gW⟩),(99,⟨_,gU⟩)] (QE A gW.pre gW.fn gU.pre gU.fn):=fun _=>by kernel_rfl
theorem aga (A:Alg) (bA:Ct A.ah dI): @Ru aH.z X E A [] .u Eh Tryz.f143 [(60,⟨_,bA⟩)] (QF A bA.pre bA.fn):=fun _=>by kernel_rfl
theorem agb (A:Alg) (bQ:Ct A.ah fP) (bA:Ct A.ah dI) (FL:Ct A.ah Ef) (oQ:Ct A.ah tY) (jy:Ct A.ah mK) (FN:Ct A.ah Eh): @Ru aH.z X E A [] .u Ei Tryz.f105 [(65,⟨_,bQ⟩),(60,⟨_,bA⟩),(142,⟨_,FL⟩),(55,⟨_,oQ⟩),(108,⟨_,jy⟩),(143,⟨_,FN⟩)] (QG A bQ.pre bQ.fn bA.pre bA.fn FL.pre FL.fn oQ.pre oQ.fn jy.pre jy.fn FN.pre FN.fn):=fun _=>by kernel_rfl
theorem agc (A:Alg) (gV:Ct A.ah jX) (bQ:Ct A.ah fP) (FP:Ct A.ah Ee) (FQ:Ct A.ah Ei) (jA:Ct A.ah mJ): @Ru aH.z X E A [(5,[(0,([4],[])),(1,([10],[])),(2,([8,36],[1])),(3,([9,37],[]))]),(12,[(0,([13],[])),(1,([14],[])),(2,([65],[0])),(3,([8,64],[])),(4,([9,66],[]))])] (.seq .u (.seq .u (.seq (.seq .u (.cut ⟨[(1,.c (.int .i64)),(4,.c (.pb 1 1 0)),(6,.c (.pb 2 1 0)),(7,.c (.pb 3 1 0)),(8,.c (.pb 4 1 0)),(9,.c (.pb 5 1 0)),(10,.c (.pb 6 1 0)),(11,.c (.bool))],[.rows true .atom,.box (.agg [.own 0]),.box (.sv false .poly),.box (.sv false .poly),.box (.agg [.nil]),.box (.agg [.nil]),.box (.agg [.own 7]),.rows true .mono]⟩ (.cond .u .u))) (.seq .u (.seq .u (.seq (.seq .u (.cut ⟨[(4,.c (.pb 1 1 0)),(8,.c (.pb 2 1 0)),(9,.c (.pb 3 1 0)),(12,.c (.pb 4 4 0))],[.rows true .atom,.box (.agg [.own 0]),.box (.agg [.nil]),.box (.agg [.nil]),.box (.agg [.int .i64,.int .i64,.rows false .mono,.rows false .mono])]⟩ (.cond .u .u))) .u)))))) Ej Tryz.f56 [(50,⟨_,gV⟩),(65,⟨_,bQ⟩),(104,⟨_,FP⟩),(105,⟨_,FQ⟩),(53,⟨_,jA⟩)] (QJ A gV.pre gV.fn bQ.pre bQ.fn FP.pre FP.fn FQ.pre FQ.fn jA.pre jA.fn):=fun _=>by kernel_rfl
theorem agd (A:Alg): @Ru aH.z X E A [] (.seq .u (.seq .u (.seq (.seq .u (.block (.loop ⟨[(0,.c (.rows false .ev)),(1,.c (.int .i64)),(5,.c (.int .i64)),(6,.c (.int .i64))],[]⟩ (.seq .u (.seq (.block (.seq .u (.cut ⟨[(0,.c (.rows false .ev)),(1,.c (.int .i64)),(5,.c (.int .i64)),(6,.c (.int .i64))],[]⟩ (.cond .u .u)))) .u))))) .u))) El Tryz.f106 [] (QK A):=fun _=>by kernel_rfl
theorem agf (A:Alg) (gV:Ct A.ah jX) (jA:Ct A.ah mJ) (FR:Ct A.ah El): @Ru aH.z X E A [(5,[(0,([9],[])),(1,([10],[])),(2,([25],[0])),(3,([6,24],[])),(4,([7,26],[]))])] (.seq .u (.seq .u (.seq (.seq .u (.cut ⟨[(3,.c (.pb 1 1 0)),(6,.c (.pb 2 1 0)),(7,.c (.pb 3 1 0)),(8,.c (.pb 4 4 0))],[.rows true .atom,.box (.agg [.own 0]),.box (.agg [.nil]),.box (.agg [.nil]),.box (.agg [.int .i64,.int .i64,.nil,.nil])]⟩ (.cond .u .u))) .u))) Em Tryz.f57 [(50,⟨_,gV⟩),(53,⟨_,jA⟩),(106,⟨_,FR⟩)] (QL A gV.pre gV.fn jA.pre jA.fn FR.pre FR.fn):=fun _=>by kernel_rfl
theorem agh (A:Alg) (bA:Ct A.ah dI): @Ru aH.z X E A [] (.seq .u (.seq .u (.seq (.seq .u (.block (.loop ⟨[(0,.c (.rows false .poly)),(3,.c (.own 0)),(4,.c (.int .i64))],[.rows true .poly]⟩ .u))) .u))) mM Tryz.f59 [(60,⟨_,bA⟩)] (QM A bA.pre bA.fn):=fun _=>by kernel_rfl
theorem agi (A:Alg) (bA:Ct A.ah dI) (jB:Ct A.ah mM): @Ru aH.z X E A [] (.seq .u (.seq .u (.seq (.seq .u (.cut ⟨[(3,.c (.rows false .poly)),(4,.c (.pb 0 5 0)),(6,.c (.pb 1 1 0)),(8,.c (.pb 2 5 0)),(9,.c (.pb 3 5 0))],[.box (.sv false .iop),.box (.sv false .poly),.box (.agg [.int .i64,.int .i64,.nil,.nil,.nil]),.box (.agg [.int .i64,.int .i64,.own 4,.nil,.nil]),.rows true .mono]⟩ (.cond .u .u))) (.seq (.seq .u (.cut ⟨[(3,.c (.rows false .poly)),(4,.c (.pb 0 5 0)),(8,.c (.pb 1 5 0)),(9,.c (.pb 2 5 0))],[.box (.sv false .iop),.box (.agg [.int .i64,.int .i64,.nil,.nil,.nil]),.box (.agg [.int .i64,.int .i64,.own 3,.own 4,.nil]),.rows true .mono,.rows true .mono]⟩ (.cond .u .u))) (.seq (.seq .u (.cut ⟨[(8,.c (.pb 0 5 0)),(9,.c (.pb 1 5 0))],[.box (.agg [.int .i64,.int .i64,.nil,.nil,.nil]),.box (.agg [.int .i64,.int .i64,.own 2,.own 3,.own 4]),.rows true .mono,.rows true .mono,.rows true .poly]⟩ (.cond .u .u))) .u))))) En Tryz.f58 [(60,⟨_,bA⟩),(59,⟨_,jB⟩)] (QN A bA.pre bA.fn jB.pre jB.fn):=fun _=>by kernel_rfl
theorem agj (A:Alg): @Ru aH.z X E A [] .u Eo Tryz.f61 [] (QO A):=fun _=>by kernel_rfl
theorem agk (A:Alg): @Ru aH.z X E A [] .u Ep Tryz.f62 [] (QS A):=fun _=>by kernel_rfl
theorem agl (A:Alg): @Ru aH.z X E A [] .u ug Tryz.f109 [] (QT A):=fun _=>by kernel_rfl
theorem agm (A:Alg) (jy:Ct A.ah mK) (bQ:Ct A.ah fP) (oU:Ct A.ah ug): @Ru aH.z X E A [] (.seq .u (.seq .u (.seq .u (.seq .u (.seq (.block (.seq (.seq .u (.cut ⟨[(1,.c (.int .i64)),(2,.c (.pb 0 6 0)),(4,.c (.pb 1 6 0)),(6,.c (.bool)),(8,.c (.bool)),(9,.c (.bool)),(29,.c (.bool))],[.box (.sv false .sym),.box (.agg [.nil,.nil,.int .i64,.nil,.nil,.int .i64])]⟩ (.cond .u .u))) (.cond .u (.seq (.seq .u (.cut ⟨[(1,.c (.int .i64)),(2,.c (.pb 0 6 0)),(4,.c (.pb 1 6 0)),(54,.c (.bool))],[.box (.sv false .sym),.box (.agg [.nil,.nil,.int .i64,.nil,.nil,.int .i64])]⟩ (.cond .u .u))) .u)))) (.seq (.seq .u (.cut ⟨[(2,.c (.pb 0 6 0)),(4,.c (.pb 1 6 0))],[.box (.sv false .sym),.box (.agg [.nil,.nil,.int .i64,.nil,.nil,.int .i64])]⟩ (.cond .u .u))) .u)))))) Er Tryz.f110 [(108,⟨_,jy⟩),(65,⟨_,bQ⟩),(109,⟨_,oU⟩)] (QU A jy.pre jy.fn bQ.pre bQ.fn oU.pre oU.fn):=fun _=>by kernel_rfl
theorem agn (A:Alg) (jy:Ct A.ah mK) (dD:Ct A.ah gT) (bA:Ct A.ah dI) (oU:Ct A.ah ug) (FT:Ct A.ah Er) (jB:Ct A.ah mM): @Ru ⟨[53],[]⟩ X E A [(9,[(0,([5],[])),(1,([36],[])),(2,([7],[])),(3,([38],[])),(4,([7],[])),(5,([40],[])),(6,([7],[])),(7,([42],[])),(8,([43],[])),(10,([7],[])),(11,([46],[])),(12,([47],[])),(14,([7],[])),(15,([50],[])),(9,([44],[1,3,5,12,15])),(13,([48],[1,3,5,15])),(16,([51],[1,3,5])),(17,([39,41,45,49,52],[])),(18,([53],[1])),(19,([37,54],[])),(20,([5],[])),(21,([55,56],[]))])] (.seq .u (.seq .u (.seq .u (.seq .u (.seq (.seq .u (.block (.loop ⟨[(1,.c (.int .i64)),(2,.c (.pb 0 6 0)),(4,.c (.pb 1 6 0)),(5,.c (.pb 2 6 0)),(6,.c (.int .i64))],[.box (.sv false .sym),.box (.agg [.nil,.nil,.int .i64,.nil,.nil,.int .i64]),.box (.agg [.own 3,.rows false .poly,.int .i64,.rows false .mono,.rows false .mono,.int .i64]),.rows true .ev]⟩ .u))) (.seq .u (.seq .u (.seq .u (.seq (.seq .u (.block (.seq .u (.cut ⟨[(4,.c (.pb 0 6 0)),(5,.c (.pb 1 6 0))],[.box (.agg [.nil,.nil,.int .i64,.nil,.nil,.int .i64]),.box (.agg [.own 2,.own 3,.int .i64,.own 4,.own 5,.int .i64]),.rows true .ev,.rows true .poly,.rows true .mono,.rows true .mono]⟩ (.cond .u (.seq (.seq .u (.cut ⟨[(1,.c (.int .i64)),(4,.c (.pb 0 6 0)),(5,.c (.pb 1 6 0)),(85,.c (.bool))],[.box (.agg [.nil,.nil,.int .i64,.nil,.nil,.int .i64]),.box (.agg [.own 2,.own 3,.int .i64,.own 4,.own 5,.int .i64]),.rows true .ev,.rows true .poly,.rows true .mono,.rows true .mono]⟩ (.cond .u .u))) .u)))))) .u))))))))) Es Tryz.f63 [(108,⟨_,jy⟩),(107,⟨_,dD⟩),(60,⟨_,bA⟩),(109,⟨_,oU⟩),(110,⟨_,FT⟩),(59,⟨_,jB⟩)] (QV A jy.pre jy.fn dD.pre dD.fn bA.pre bA.fn oU.pre oU.fn FT.pre FT.fn jB.pre jB.fn):=fun _=>by kernel_rfl
theorem agp (A:Alg) (oV:Ct A.ah tO) (gV:Ct A.ah jX) (oQ:Ct A.ah tY) (FU:Ct A.ah Es) (oW:Ct A.ah tQ) (FV:Ct A.ah D7) (bA:Ct A.ah dI) (FW:Ct A.ah D8) (FX:Ct A.ah Ej) (jA:Ct A.ah mJ) (FY:Ct A.ah Em) (FZ:Ct A.ah En) (F3:Ct A.ah D9) (jB:Ct A.ah mM) (F4:Ct A.ah Eo) (F5:Ct A.ah Ep): @Ru ⟨[116],[]⟩ X E A [(25,[(0,([7],[])),(1,([110],[])),(2,([15],[])),(3,([16],[])),(4,([17],[])),(5,([9],[])),(6,([112,113,114,115],[1])),(7,([116],[1])),(8,([111,117],[])),(9,([7],[])),(10,([118,119],[]))]),(40,[(0,([6],[])),(1,([7],[])),(2,([3],[])),(3,([175],[])),(4,([3],[])),(5,([177],[])),(6,([176,178],[])),(7,([174,179],[0])),(8,([4,173],[])),(9,([5,180],[]))])] (.seq .u (.seq .u (.seq .u (.seq .u (.seq .u (.seq (.seq .u (.block (.loop ⟨[(3,.c (.pb 0 7 0)),(4,.c (.pb 1 1 0)),(5,.c (.pb 2 6 0)),(6,.c (.pb 3 1 0)),(7,.c (.pb 4 6 0)),(9,.c (.own 5)),(10,.c (.int .i64))],[.box (.sv false .blk),.box (.agg [.nil]),.box (.agg [.nil,.nil,.int .i64,.nil,.nil,.int .i64]),.box (.agg [.own 6]),.box (.agg [.nil,.nil,.int .i64,.nil,.nil,.int .i64]),.rows true .poly,.rows true .atom]⟩ .u))) (.seq .u (.seq (.seq .u (.block (.loop ⟨[(3,.c (.pb 0 7 0)),(4,.c (.pb 1 1 0)),(5,.c (.pb 2 6 0)),(6,.c (.pb 3 1 0)),(7,.c (.pb 4 6 0)),(9,.c (.own 5)),(13,.c (.own 6)),(14,.c (.int .i64))],[.box (.sv false .blk),.box (.agg [.nil]),.box (.agg [.nil,.nil,.int .i64,.nil,.nil,.int .i64]),.box (.agg [.own 7]),.box (.agg [.own 8,.nil,.int .i64,.nil,.nil,.int .i64]),.rows false .poly,.rows false .poly,.rows true .atom,.rows true .ev]⟩ (.seq .u (.seq (.block (.seq .u (.seq .u (.seq .u (.seq .u (.seq (.seq .u (.block (.seq .u (.cut ⟨[(3,.c (.pb 0 7 0)),(4,.c (.pb 1 1 0)),(5,.c (.pb 2 6 0)),(6,.c (.pb 3 1 0)),(7,.c (.pb 4 6 0)),(9,.c (.own 5)),(13,.c (.own 6)),(14,.c (.int .i64)),(18,.c (.pb 7 1 0))],[.box (.sv false .blk),.box (.agg [.nil]),.box (.agg [.nil,.nil,.int .i64,.nil,.nil,.int .i64]),.box (.agg [.own 8]),.box (.agg [.own 9,.nil,.int .i64,.nil,.nil,.int .i64]),.rows false .poly,.rows false .poly,.box (.sv false .poly),.rows true .atom,.rows true .ev]⟩ (.cond .u (.seq .u (.cut ⟨[(3,.c (.pb 0 7 0)),(4,.c (.pb 1 1 0)),(5,.c (.pb 2 6 0)),(6,.c (.pb 3 1 0)),(7,.c (.pb 4 6 0)),(9,.c (.own 5)),(13,.c (.own 6)),(14,.c (.int .i64)),(18,.c (.pb 7 1 0))],[.box (.sv false .blk),.box (.agg [.nil]),.box (.agg [.nil,.nil,.int .i64,.nil,.nil,.int .i64]),.box (.agg [.own 8]),.box (.agg [.own 9,.nil,.int .i64,.nil,.nil,.int .i64]),.rows false .poly,.rows false .poly,.box (.sv false .poly),.rows true .atom,.rows true .ev]⟩ (.cond .u (.seq .u (.cut ⟨[(3,.c (.pb 0 7 0)),(4,.c (.pb 1 1 0)),(5,.c (.pb 2 6 0)),(6,.c (.pb 3 1 0)),(7,.c (.pb 4 6 0)),(9,.c (.own 5)),(13,.c (.own 6)),(14,.c (.int .i64)),(18,.c (.pb 7 1 0))],[.box (.sv false .blk),.box (.agg [.nil]),.box (.agg [.nil,.nil,.int .i64,.nil,.nil,.int .i64]),.box (.agg [.own 8]),.box (.agg [.own 9,.nil,.int .i64,.nil,.nil,.int .i64]),.rows false .poly,.rows false .poly,.box (.agg [.own 10]),.rows true .atom,.rows true .ev,.rows true .mono]⟩ (.cond .u (.seq .u (.cut ⟨[(3,.c (.pb 0 7 0)),(4,.c (.pb 1 1 0)),(5,.c (.pb 2 6 0)),(6,.c (.pb 3 1 0)),(7,.c (.pb 4 6 0)),(9,.c (.own 5)),(13,.c (.own 6)),(14,.c (.int .i64)),(18,.c (.pb 7 1 0))],[.box (.sv false .blk),.box (.agg [.nil]),.box (.agg [.nil,.nil,.int .i64,.nil,.nil,.int .i64]),.box (.agg [.own 8]),.box (.agg [.own 9,.nil,.int .i64,.nil,.nil,.int .i64]),.rows false .poly,.rows false .poly,.box (.agg [.own 10]),.rows true .atom,.rows true .ev,.rows true .mono]⟩ (.cond .u (.seq (.seq .u (.cut ⟨[(3,.c (.pb 0 7 0)),(4,.c (.pb 1 1 0)),(5,.c (.pb 2 6 0)),(6,.c (.pb 3 1 0)),(7,.c (.pb 4 6 0)),(9,.c (.own 5)),(13,.c (.own 6)),(14,.c (.int .i64)),(15,.c (.pb 7 5 0)),(16,.c (.pb 8 1 0)),(17,.c (.pb 9 1 0)),(18,.c (.pb 10 1 0))],[.box (.sv false .blk),.box (.agg [.nil]),.box (.agg [.nil,.nil,.int .i64,.nil,.nil,.int .i64]),.box (.agg [.own 11]),.box (.agg [.own 12,.nil,.int .i64,.nil,.nil,.int .i64]),.rows false .poly,.rows false .poly,.box (.sv false .iop),.box (.sv false .poly),.box (.sv false .poly),.box (.agg [.own 13]),.rows true .atom,.rows true .ev,.rows true .mono]⟩ (.cond .u .u))) .u))))))))))))))) .u)))))) .u))))) .u)))))))) Eu Tryz.f25 [(22,⟨_,oV⟩),(50,⟨_,gV⟩),(55,⟨_,oQ⟩),(63,⟨_,FU⟩),(24,⟨_,oW⟩),(51,⟨_,FV⟩),(60,⟨_,bA⟩),(52,⟨_,FW⟩),(56,⟨_,FX⟩),(53,⟨_,jA⟩),(57,⟨_,FY⟩),(58,⟨_,FZ⟩),(54,⟨_,F3⟩),(59,⟨_,jB⟩),(61,⟨_,F4⟩),(62,⟨_,F5⟩)] (QW A oV.pre oV.fn gV.pre gV.fn oQ.pre oQ.fn FU.pre FU.fn oW.pre oW.fn FV.pre FV.fn bA.pre bA.fn FW.pre FW.fn FX.pre FX.fn jA.pre jA.fn FY.pre FY.fn FZ.pre FZ.fn F3.pre F3.fn jB.pre jB.fn F4.pre F4.fn F5.pre F5.fn):=fun _=>by kernel_rfl
theorem agq (A:Alg) (bQ:Ct A.ah fP): @Ru aH.z X E A [(6,[(0,([0],[])),(1,([5],[])),(2,([17,18],[])),(3,([19],[])),(4,([1],[])),(5,([5],[])),(6,([21,22],[])),(7,([23],[])),(8,([20,24],[])),(9,([25],[]))])] (.seq .u (.seq .u (.seq (.seq .u (.block (.loop ⟨[(0,.c (.rows false .poly)),(1,.c (.rows false .poly)),(5,.c (.int .i64))],[]⟩ .u))) .u))) uh Tryz.f64 [(65,⟨_,bQ⟩)] (QZ A bQ.pre bQ.fn):=fun _=>by kernel_rfl
theorem agr (A:Alg) (bQ:Ct A.ah fP) (oZ:Ct A.ah uh): @Ru aH.z X E A [] .u Ew Tryz.f66 [(65,⟨_,bQ⟩),(64,⟨_,oZ⟩)] (Q0 A bQ.pre bQ.fn oZ.pre oZ.fn):=fun _=>by kernel_rfl
theorem ags (A:Alg) (bQ:Ct A.ah fP) (F6:Ct A.ah Ew) (oZ:Ct A.ah uh): @Ru aH.z X E A [(6,[(0,([2],[])),(1,([58],[])),(2,([5],[])),(3,([59,60],[])),(4,([61],[])),(5,([3],[])),(6,([63],[])),(7,([5],[])),(8,([64,65],[])),(9,([66],[])),(10,([62,67],[])),(11,([68],[]))])] (.seq .u (.seq .u (.seq (.seq .u (.block (.loop ⟨[(2,.c (.pb 0 6 0)),(3,.c (.pb 1 6 0)),(5,.c (.int .i64))],[.box (.sv false .sym),.box (.sv false .sym)]⟩ .u))) .u))) Ey Tryz.f26 [(65,⟨_,bQ⟩),(66,⟨_,F6⟩),(64,⟨_,oZ⟩)] (Q7 A bQ.pre bQ.fn F6.pre F6.fn oZ.pre oZ.fn):=fun _=>by kernel_rfl
theorem agt (A:Alg) (oV:Ct A.ah tO) (F7:Ct A.ah DY) (oW:Ct A.ah tQ) (F8:Ct A.ah Eu) (F9:Ct A.ah Ey): @Ru aH.z X E A [] .u Ez Tryz.f7 [(22,⟨_,oV⟩),(23,⟨_,F7⟩),(24,⟨_,oW⟩),(25,⟨_,F8⟩),(26,⟨_,F9⟩)] (Q8 A oV.pre oV.fn F7.pre F7.fn oW.pre oW.fn F8.pre F8.fn F9.pre F9.fn):=fun _=>by kernel_rfl
theorem ama (A:Alg): @Ru aH.z X E A [] .u LU Tryz.f67 [] (Xe A):=fun _=>by kernel_rfl
theorem amb (A:Alg) (Ng:Ct A.ah LU): @Ru aH.z X E A [] (.seq .u (.seq .u (.seq (.seq .u (.block (.loop ⟨[(0,.c (.rows false .iop)),(3,.c (.own 0)),(4,.c (.int .i64))],[.rows true .iop]⟩ .u))) .u))) LW Tryz.f27 [(67,⟨_,Ng⟩)] (Xf A Ng.pre Ng.fn):=fun _=>by kernel_rfl
theorem amc (A:Alg) (Nh:Ct A.ah LW): @Ru aH.z X E A [] .u LY Tryz.f8 [(27,⟨_,Nh⟩)] (Xg A Nh.pre Nh.fn):=fun _=>by kernel_rfl
theorem amd (A:Alg): @Ru aH.z X E A [] .u bY Tryz.f68 [] (Xh A):=fun _=>by kernel_rfl
theorem ame (A:Alg) (aV:Ct A.ah bY): @Ru aH.z X E A [] .u A8 Tryz.f75 [(68,⟨_,aV⟩)] (Xi A aV.pre aV.fn):=fun _=>by kernel_rfl
theorem amf (A:Alg) (aV:Ct A.ah bY): @Ru aH.z X E A [] .u kR Tryz.f112 [(68,⟨_,aV⟩)] (Xj A aV.pre aV.fn):=fun _=>by kernel_rfl
theorem amg (A:Alg) (aV:Ct A.ah bY): @Ru aH.z X E A [] .u A9 Tryz.f113 [(68,⟨_,aV⟩)] (Xk A aV.pre aV.fn):=fun _=>by kernel_rfl
theorem amh (A:Alg) (aV:Ct A.ah bY): @Ru aH.z X E A [] .u Ba Tryz.f114 [(68,⟨_,aV⟩)] (Xl A aV.pre aV.fn):=fun _=>by kernel_rfl
theorem ami (A:Alg) (aV:Ct A.ah bY): @Ru aH.z X E A [] .u LZ Tryz.f145 [(68,⟨_,aV⟩)] (Xm A aV.pre aV.fn):=fun _=>by kernel_rfl
theorem amj (A:Alg) (Ni:Ct A.ah LZ) (aV:Ct A.ah bY): @Ru aH.z X E A [] .u Bb Tryz.f115 [(145,⟨_,Ni⟩),(68,⟨_,aV⟩)] (Xn A Ni.pre Ni.fn aV.pre aV.fn):=fun _=>by kernel_rfl
theorem amk (A:Alg) (vT:Ct A.ah Bb) (vU:Ct A.ah A8) (iE:Ct A.ah kR) (aV:Ct A.ah bY) (vV:Ct A.ah Ba) (vW:Ct A.ah A9): @Ru ⟨[],[27,40]⟩ X E A [(5,[(0,([],[])),(1,([5],[])),(2,([28],[])),(5,([5],[])),(6,([31],[])),(9,([5],[])),(10,([34],[])),(13,([5],[])),(14,([37],[])),(18,([5],[])),(19,([41],[])),(3,([29],[6,10,14,19])),(4,([27,30],[])),(7,([32],[10,14,19])),(8,([27,33],[])),(11,([35],[14,19])),(12,([27,36],[])),(15,([38],[19])),(16,([27,39],[])),(17,([27],[])),(20,([30,33,36,39,40,42],[])),(21,([43],[]))])] .u L6 Tryz.f69 [(115,⟨_,vT⟩),(75,⟨_,vU⟩),(112,⟨_,iE⟩),(68,⟨_,aV⟩),(114,⟨_,vV⟩),(113,⟨_,vW⟩)] (Xo A vT.pre vT.fn vU.pre vU.fn iE.pre iE.fn aV.pre aV.fn vV.pre vV.fn vW.pre vW.fn):=fun _=>by kernel_rfl
theorem aml (A:Alg): @Ru aH.z X E A [(1,[(0,([1],[])),(1,([5],[])),(2,([6],[])),(3,([1],[])),(4,([8],[])),(5,([9],[])),(6,([1],[])),(7,([11],[])),(8,([12],[])),(9,([7],[])),(10,([10],[])),(11,([13],[]))])] .u Bc Tryz.f81 [] (Xu A):=fun _=>by kernel_rfl
theorem amm (A:Alg) (vX:Ct A.ah Bc) (vT:Ct A.ah Bb) (iE:Ct A.ah kR) (aV:Ct A.ah bY): @Ru aH.z X E A [] .u L8 Tryz.f70 [(81,⟨_,vX⟩),(115,⟨_,vT⟩),(112,⟨_,iE⟩),(68,⟨_,aV⟩)] (Xv A vX.pre vX.fn vT.pre vT.fn iE.pre iE.fn aV.pre aV.fn):=fun _=>by kernel_rfl
end Go.TX.Seat
namespace Go.TX.Seat
open Go Go.AE Go.TX Go.TX.F Go.Proofs
set_option maxRecDepth 100000
theorem amn (A:Alg) (Nj:Ct A.ah L8) (Nk:Ct A.ah L6) (aV:Ct A.ah bY): @Ru aH.z X E A [] (.seq .u (.seq .u (.seq (.seq .u (.block (.loop ⟨[(1,.c (.pb 0 7 0)),(25,.c (.int .i64)),(26,.c (.int .i64))],[.box (.sv false .blk)]⟩ .u))) .u))) Bd Tryz.f28 [(70,⟨_,Nj⟩),(69,⟨_,Nk⟩),(68,⟨_,aV⟩)] (Xy A Nj.pre Nj.fn Nk.pre Nk.fn aV.pre aV.fn):=fun _=>by kernel_rfl
theorem amo (A:Alg): @Ru aH.z X E A [(6,[(0,([0],[])),(1,([5],[])),(2,([16,17],[])),(3,([18],[])),(4,([1],[])),(5,([5],[])),(6,([20,21],[])),(7,([22],[])),(8,([19,23],[]))])] (.seq .u (.seq .u (.seq (.seq .u (.block (.loop ⟨[(0,.c (.rows false .iop)),(1,.c (.rows false .iop)),(12,.c (.int .i64)),(13,.c (.int .i64))],[]⟩ .u))) .u))) L9 Tryz.f71 [] (Xz A):=fun _=>by kernel_rfl
theorem amq (A:Alg) (Nl:Ct A.ah L9): @Ru aH.z X E A [] .u Ma Tryz.f29 [(71,⟨_,Nl⟩)] (XA A Nl.pre Nl.fn):=fun _=>by kernel_rfl
theorem amr (A:Alg): @Ru aH.z X E A [] .u Mc Tryz.f176 [] (XB A):=fun _=>by kernel_rfl
theorem agu (A:Alg) (Nn:Ct A.ah Mc): @Ru aH.z X E A [] (.seq .u (.seq (.seq .u (.block (.loop ⟨[(0,.c (.rows false .i64)),(1,.c (.fn 176 [(0,1)])),(7,.c (.int .i64)),(8,.c (.int .i64))],[.box (.c (.int .i64))]⟩ .u))) .u)) EA Tryz.f198 [(176,⟨_,Nn⟩)] (Q9 A Nn.pre Nn.fn):=fun _=>by kernel_rfl
theorem ams (A:Alg) (Ga:Ct A.ah EA): @Ru aH.z X E A [] .u Md Tryz.f175 [(198,⟨_,Ga⟩)] (XC A Ga.pre Ga.fn):=fun _=>by kernel_rfl
theorem amt (A:Alg) (Np:Ct A.ah Md): @Ru aH.z X E A [] (.seq .u (.seq (.seq .u (.block (.loop ⟨[(3,.c (.pb 0 1 0)),(8,.c (.rows false .mono)),(9,.c (.int .i64)),(10,.c (.int .i64))],[.box (.c (.int .i64))]⟩ .u))) .u)) Bf Tryz.f147 [(175,⟨_,Np⟩)] (XD A Np.pre Np.fn):=fun _=>by kernel_rfl
theorem ars (A:Alg): @Ru aH.z X E A [] .u Me Tryz.f182 [] (aeW A):=fun _=>by kernel_rfl
theorem aru (A:Alg) (GZ:Ct A.ah Me): @Ru aH.z X E A [] .u EB Tryz.f155 [(182,⟨_,GZ⟩)] (aeX A GZ.pre GZ.fn):=fun _=>by kernel_rfl
theorem arv (A:Alg): @Ru aH.z X E A [] (.seq .u (.seq .u (.seq (.seq .u (.block (.loop ⟨[(3,.c (.int .i64)),(6,.c (.rows false .i64)),(7,.c (.int .i64)),(8,.c (.int .i64))],[]⟩ .u))) .u))) Mf Tryz.f156 [] (aeY A):=fun _=>by kernel_rfl
theorem amu (A:Alg) (xX:Ct A.ah EB): @Ru aH.z X E A [] (.seq .u (.seq (.seq .u (.block (.loop ⟨[(0,.c (.rows false .i64)),(1,.c (.rows false .i64)),(9,.c (.rows false .i64)),(10,.c (.int .i64)),(11,.c (.int .i64))],[]⟩ .u))) .u)) Mg Tryz.f183 [(155,⟨_,xX⟩)] (XG A xX.pre xX.fn):=fun _=>by kernel_rfl
theorem amv (A:Alg) (G5:Ct A.ah Mf) (xX:Ct A.ah EB) (Nq:Ct A.ah Mg): @Ru aH.z X E A [] .u nO Tryz.f157 [(156,⟨_,G5⟩),(155,⟨_,xX⟩),(183,⟨_,Nq⟩)] (XH A G5.pre G5.fn xX.pre xX.fn Nq.pre Nq.fn):=fun _=>by kernel_rfl
theorem arw (A:Alg) (GZ:Ct A.ah Me): @Ru aH.z X E A [] .u EC Tryz.f184 [(182,⟨_,GZ⟩)] (ae1 A GZ.pre GZ.fn):=fun _=>by kernel_rfl
theorem agv (A:Alg) (xY:Ct A.ah EC): @Ru aH.z X E A [(4,[(0,([0],[])),(1,([3],[])),(2,([11,12],[])),(3,([13],[])),(4,([0],[])),(5,([3],[])),(6,([16],[])),(7,([15,17],[])),(8,([18],[])),(9,([14,19],[]))])] (.seq .u (.seq (.seq .u (.block (.loop ⟨[(0,.c (.rows false .i64)),(3,.c (.int .i64))],[]⟩ .u))) .u)) ED Tryz.f159 [(184,⟨_,xY⟩)] (Ra A xY.pre xY.fn):=fun _=>by kernel_rfl
theorem amw (A:Alg): @Ru aH.z X E A [] .u Mh Tryz.f161 [] (XK A):=fun _=>by kernel_rfl
theorem agw (A:Alg) (Nr:Ct A.ah Mh): @Ru aH.z X E A [] (.seq .u (.seq (.seq .u (.block (.loop ⟨[(0,.c (.rows false .mono)),(1,.c (.fn 161 [])),(7,.c (.int .i64)),(8,.c (.int .i64))],[]⟩ .u))) .u)) EF Tryz.f185 [(161,⟨_,Nr⟩)] (Rb A Nr.pre Nr.fn):=fun _=>by kernel_rfl
theorem amx (A:Alg) (Gb:Ct A.ah EF): @Ru aH.z X E A [] .u Mi Tryz.f160 [(185,⟨_,Gb⟩)] (XL A Gb.pre Gb.fn):=fun _=>by kernel_rfl
theorem amy (A:Alg) (aV:Ct A.ah bY) (vY:Ct A.ah Bf) (Gc:Ct A.ah ED) (jK:Ct A.ah nO) (Ns:Ct A.ah Mi): @Ru aH.z X E A [(4,[(0,([4],[])),(1,([13],[])),(2,([14],[])),(3,([15],[])),(4,([16],[])),(5,([4,17],[])),(6,([17,18],[])),(7,([17,19],[])),(8,([17,20],[])),(9,([17,21],[])),(10,([22],[])),(11,([4,23],[])),(12,([23,24],[])),(13,([23,25],[])),(14,([23,26],[])),(15,([23,27],[])),(16,([28],[])),(17,([3,29],[])),(18,([29,30],[])),(19,([29,31],[])),(20,([1,32],[])),(21,([32,33],[])),(22,([3,32],[])),(23,([32,35],[])),(24,([32,34,36],[])),(25,([32,37],[])),(26,([32,38],[])),(27,([4,32],[])),(28,([32,40],[])),(29,([32,39,41],[])),(30,([32,42],[])),(31,([29,32,43],[])),(32,([29,44],[]))])] (.seq .u (.seq (.seq .u (.block (.loop ⟨[(1,.c (.pb 0 1 0)),(6,.c (.rows false .mono)),(7,.c (.int .i64)),(8,.c (.int .i64))],[.box (.sv false .poly)]⟩ .u))) .u)) iN Tryz.f123 [(68,⟨_,aV⟩),(147,⟨_,vY⟩),(159,⟨_,Gc⟩),(157,⟨_,jK⟩),(160,⟨_,Ns⟩)] (XM A aV.pre aV.fn vY.pre vY.fn Gc.pre Gc.fn jK.pre jK.fn Ns.pre Ns.fn):=fun _=>by kernel_rfl
theorem amA (A:Alg) (aV:Ct A.ah bY) (vV:Ct A.ah Ba) (vY:Ct A.ah Bf) (eH:Ct A.ah iN) (vW:Ct A.ah A9): @Ru aH.z X E A [] .u Bg Tryz.f117 [(68,⟨_,aV⟩),(114,⟨_,vV⟩),(147,⟨_,vY⟩),(123,⟨_,eH⟩),(113,⟨_,vW⟩)] (XO A aV.pre aV.fn vV.pre vV.fn vY.pre vY.fn eH.pre eH.fn vW.pre vW.fn):=fun _=>by kernel_rfl
theorem amB (A:Alg) (G5:Ct A.ah Mf) (xX:Ct A.ah EB) (jK:Ct A.ah nO): @Ru aH.z X E A [(7,[(0,([7],[])),(1,([27],[])),(2,([3],[])),(3,([29],[])),(4,([6],[])),(5,([30,31],[])),(6,([32],[])),(7,([33],[])),(9,([7],[])),(10,([36],[])),(11,([3],[])),(12,([38],[])),(13,([6],[])),(14,([39,40],[])),(15,([41],[])),(16,([42],[])),(8,([28,34],[10,12,16])),(17,([37,43],[])),(18,([35,44],[])),(19,([45],[])),(20,([46],[]))])] (.seq .u (.seq .u (.seq (.seq .u (.block (.loop ⟨[(3,.c (.pb 0 1 0)),(20,.c (.rows false .mono)),(21,.c (.int .i64)),(22,.c (.int .i64))],[.box (.sv false .poly)]⟩ .u))) .u))) uj Tryz.f120 [(156,⟨_,G5⟩),(155,⟨_,xX⟩),(157,⟨_,jK⟩)] (XP A G5.pre G5.fn xX.pre xX.fn jK.pre jK.fn):=fun _=>by kernel_rfl
theorem amC (A:Alg) (mP:Ct A.ah uj): @Ru aH.z X E A [] .u jJ Tryz.f85 [(120,⟨_,mP⟩)] (XQ A mP.pre mP.fn):=fun _=>by kernel_rfl
theorem amD (A:Alg) (fV:Ct A.ah jJ): @Ru aH.z X E A [] .u Mj Tryz.f150 [(85,⟨_,fV⟩)] (XR A fV.pre fV.fn):=fun _=>by kernel_rfl
theorem amE (A:Alg) (Nt:Ct A.ah Mj): @Ru aH.z X E A [] .u Mk Tryz.f149 [(150,⟨_,Nt⟩)] (XU A Nt.pre Nt.fn):=fun _=>by kernel_rfl
theorem agx (A:Alg) (Nu:Ct A.ah Mk): @Ru aH.z X E A [] (.seq .u (.seq (.seq .u (.block (.loop ⟨[(0,.c (.rows false .atom)),(1,.c (.fn 149 [(0,4)])),(7,.c (.int .i64)),(8,.c (.int .i64))],[.box (.sv false .atom)]⟩ .u))) .u)) EG Tryz.f148 [(149,⟨_,Nu⟩)] (Rc A Nu.pre Nu.fn):=fun _=>by kernel_rfl
theorem amF (A:Alg) (Gd:Ct A.ah EG): @Ru aH.z X E A [] .u Bh Tryz.f118 [(148,⟨_,Gd⟩)] (XV A Gd.pre Gd.fn):=fun _=>by kernel_rfl
theorem amG (A:Alg): @Ru aH.z X E A [] .u Ml Tryz.f158 [] (XW A):=fun _=>by kernel_rfl
theorem amH (A:Alg) (vZ:Ct A.ah Bg) (wm:Ct A.ah Bh) (Nv:Ct A.ah Ml): @Ru aH.z X E A [(6,[(0,([2],[])),(1,([28],[])),(3,([3],[])),(4,([31],[])),(2,([29],[3])),(5,([30,32],[])),(6,([33],[])),(7,([],[])),(8,([7,34],[]))]),(7,[(0,([7],[])),(1,([2],[])),(2,([36],[])),(3,([37],[])),(4,([4,35],[2])),(5,([38],[]))])] .u Bj Tryz.f121 [(117,⟨_,vZ⟩),(118,⟨_,wm⟩),(158,⟨_,Nv⟩)] (XY A vZ.pre vZ.fn wm.pre wm.fn Nv.pre Nv.fn):=fun _=>by kernel_rfl
theorem amI (A:Alg) (aV:Ct A.ah bY): @Ru aH.z X E A [] .u Bn Tryz.f122 [(68,⟨_,aV⟩)] (X5 A aV.pre aV.fn):=fun _=>by kernel_rfl
theorem amJ (A:Alg) (wo:Ct A.ah Bn) (wu:Ct A.ah Bj): @Ru aH.z X E A [] .u Bo Tryz.f80 [(122,⟨_,wo⟩),(121,⟨_,wu⟩)] (X6 A wo.pre wo.fn wu.pre wu.fn):=fun _=>by kernel_rfl
theorem amK (A:Alg) (wz:Ct A.ah Bo): @Ru aH.z X E A [] (.seq .u (.seq .u (.seq (.seq .u (.block (.loop ⟨[(0,.c (.pb 0 2 0)),(3,.c (.own 1)),(5,.c (.int .i64))],[.box (.agg [.rows true .atom,.bool]),.rows true .poly]⟩ .u))) .u))) Bp Tryz.f72 [(80,⟨_,wz⟩)] (Yb A wz.pre wz.fn):=fun _=>by kernel_rfl
theorem amL (A:Alg): @Ru aH.z X E A [] .u Bq Tryz.f146 [] (Yc A):=fun _=>by kernel_rfl
theorem amM (A:Alg) (wB:Ct A.ah Bq): @Ru ⟨[20],[]⟩ X E A [(5,[(0,([3],[])),(1,([13],[])),(2,([5],[])),(3,([15],[])),(4,([5],[])),(5,([17],[])),(6,([18],[1,3])),(7,([16,19],[])),(8,([20],[1])),(9,([14,21],[])),(10,([3],[])),(11,([22,23],[]))])] (.seq .u (.seq .u (.seq (.seq .u (.block (.loop ⟨[(2,.c (.pb 0 1 0)),(3,.c (.pb 1 1 0)),(7,.c (.rows false .mono)),(8,.c (.int .i64)),(9,.c (.int .i64))],[.box (.agg [.nil]),.box (.agg [.own 2]),.rows true .mono]⟩ .u))) .u))) um Tryz.f116 [(146,⟨_,wB⟩)] (Yd A wB.pre wB.fn):=fun _=>by kernel_rfl
theorem amN (A:Alg) (mQ:Ct A.ah um): @Ru ⟨[25],[]⟩ X E A [(5,[(0,([3],[])),(1,([13],[])),(2,([5],[])),(3,([15],[])),(4,([5],[])),(5,([17],[])),(6,([5],[])),(7,([19],[])),(9,([5],[])),(10,([22],[])),(8,([20],[1,3,5,10])),(11,([23],[1,3,5])),(12,([16,18,21,24],[])),(13,([25],[1])),(14,([14,26],[])),(15,([3],[])),(16,([27,28],[]))])] (.seq .u (.seq .u (.seq (.seq .u (.block (.loop ⟨[(2,.c (.pb 0 1 0)),(3,.c (.pb 1 1 0)),(7,.c (.rows false .atom)),(8,.c (.int .i64)),(9,.c (.int .i64))],[.box (.agg [.nil]),.box (.agg [.own 2]),.rows true .atom]⟩ .u))) .u))) Br Tryz.f73 [(116,⟨_,mQ⟩)] (Yg A mQ.pre mQ.fn):=fun _=>by kernel_rfl
theorem amO (A:Alg) (wC:Ct A.ah Br) (wD:Ct A.ah Bp): @Ru aH.z X E A [] .u Mq Tryz.f30 [(73,⟨_,wC⟩),(72,⟨_,wD⟩)] (Yh A wC.pre wC.fn wD.pre wD.fn):=fun _=>by kernel_rfl
theorem amP (A:Alg) (vZ:Ct A.ah Bg) (wm:Ct A.ah Bh): @Ru aH.z X E A [] (.seq .u (.seq (.seq .u (.block (.loop ⟨[(1,.c (.pb 0 1 0)),(6,.c (.rows false .atom)),(7,.c (.int .i64)),(8,.c (.int .i64))],[.box (.sv false .tab)]⟩ .u))) .u)) Mr Tryz.f74 [(117,⟨_,vZ⟩),(118,⟨_,wm⟩)] (Ym A vZ.pre vZ.fn wm.pre wm.fn):=fun _=>by kernel_rfl
theorem amQ (A:Alg) (aV:Ct A.ah bY): @Ru aH.z X E A [] .u Ms Tryz.f76 [(68,⟨_,aV⟩)] (Yn A aV.pre aV.fn):=fun _=>by kernel_rfl
theorem amR (A:Alg): @Ru aH.z X E A [] .u Mt Tryz.f77 [] (Yo A):=fun _=>by kernel_rfl
theorem amS (A:Alg) (aV:Ct A.ah bY): @Ru aH.z X E A [] .u uo Tryz.f78 [(68,⟨_,aV⟩)] (Yp A aV.pre aV.fn):=fun _=>by kernel_rfl
theorem amT (A:Alg) (eH:Ct A.ah iN): @Ru aH.z X E A [] .u Bu Tryz.f125 [(123,⟨_,eH⟩)] (Yq A eH.pre eH.fn):=fun _=>by kernel_rfl
theorem amU (A:Alg): @Ru aH.z X E A [] .u uw Tryz.f181 [] (Yr A):=fun _=>by kernel_rfl
theorem amV (A:Alg) (jK:Ct A.ah nO): @Ru aH.z X E A [] .u Bv Tryz.f200 [(157,⟨_,jK⟩)] (Yt A jK.pre jK.fn):=fun _=>by kernel_rfl
theorem agy (A:Alg) (nP:Ct A.ah Bv): @Ru aH.z X E A [(4,[(0,([9],[])),(1,([1],[])),(2,([18,19],[])),(3,([20],[])),(4,([3,21],[])),(5,([0,21],[])),(6,([9,21],[])),(7,([21,23,24],[])),(8,([21,25],[])),(9,([0,21],[])),(10,([9,21],[])),(11,([21,28],[])),(12,([21,27,29],[])),(13,([21,30],[])),(14,([21,22,26,31],[])),(15,([21,32],[])),(16,([21,33],[]))]),(6,[(0,([0],[])),(1,([9],[])),(2,([0],[])),(3,([9],[])),(4,([40],[])),(5,([0],[])),(6,([9],[])),(7,([43],[])),(8,([42,44],[])),(9,([45],[])),(10,([0],[])),(11,([9],[])),(12,([47,48],[])),(13,([49],[])),(14,([37,38],[])),(15,([46,51],[])),(16,([39,41],[])),(17,([50,52],[]))])] (.seq .u (.block (.loop ⟨[(0,.c (.own 0)),(1,.c (.int .i64)),(2,.c (.int .i64)),(3,.c (.fn 200 [])),(8,.c (.int .i64))],[.rows false .mono]⟩ (.seq .u (.seq (.block (.seq .u (.block (.loop ⟨[(0,.c (.own 0)),(1,.c (.int .i64)),(2,.c (.int .i64)),(3,.c (.fn 200 [])),(8,.c (.int .i64)),(9,.c (.int .i64))],[.rows false .mono]⟩ .u)))) .u))))) EH Tryz.f217 [(200,⟨_,nP⟩)] (Rf A nP.pre nP.fn):=fun _=>by kernel_rfl
theorem agz (A:Alg): @Ru aH.z X E A [(3,[(0,([0],[])),(1,([1],[])),(2,([10],[])),(3,([17,18],[])),(4,([0],[])),(5,([2],[])),(6,([10],[])),(7,([21,22],[])),(8,([0],[])),(9,([2],[])),(10,([10],[])),(11,([25,26],[])),(12,([24,27],[])),(13,([28],[])),(14,([0],[])),(15,([1],[])),(16,([10],[])),(17,([31,32],[])),(18,([30,33],[])),(19,([34],[])),(20,([16,19],[])),(21,([29,36],[])),(22,([20,23],[])),(23,([35,37],[]))])] (.seq .u (.block (.loop ⟨[(0,.c (.own 0)),(1,.c (.int .i64)),(2,.c (.int .i64)),(3,.c (.int .i64)),(10,.c (.int .i64))],[.rows false .mono]⟩ .u))) EI Tryz.f226 [] (Rh A):=fun _=>by kernel_rfl
theorem agA (A:Alg) (Gf:Ct A.ah EI): @Ru aH.z X E A [] (.seq .u (.seq .u (.seq (.block (.loop ⟨[(0,.c (.own 0)),(2,.c (.int .i64)),(4,.c (.fn 200 [])),(10,.c (.int .i64)),(11,.c (.int .i64))],[.rows false .mono]⟩ (.seq .u (.block (.seq .u (.cut ⟨[(0,.c (.own 0)),(2,.c (.int .i64)),(4,.c (.fn 200 [])),(10,.c (.int .i64)),(11,.c (.int .i64))],[.rows false .mono]⟩ (.cond .u .u))))))) .u))) EJ Tryz.f224 [(226,⟨_,Gf⟩)] (Ri A Gf.pre Gf.fn):=fun _=>by kernel_rfl
theorem agB (A:Alg) (nP:Ct A.ah Bv) (qZ:Ct A.ah EJ) (o7:Ct A.ah mO): @Ru aH.z X E A [(5,[(0,([4],[])),(1,([0],[])),(2,([12],[])),(3,([41,42],[])),(4,([43],[])),(5,([0],[])),(6,([1],[])),(7,([45,46],[])),(8,([47],[])),(9,([40,44,48],[])),(10,([49],[]))]),(11,[(0,([0],[])),(1,([13],[])),(2,([0],[])),(3,([13],[])),(4,([64],[])),(5,([0],[])),(6,([13],[])),(7,([67],[])),(8,([66,68],[])),(9,([69],[])),(10,([0],[])),(11,([13],[])),(12,([71,72],[])),(13,([73],[])),(14,([61,62],[])),(15,([70,75],[])),(16,([63,65],[])),(17,([74,76],[]))]),(17,[(0,([4],[])),(1,([0],[])),(2,([2],[])),(3,([93,94],[])),(4,([95],[])),(5,([0],[])),(6,([16],[])),(7,([97,98],[])),(8,([99],[])),(9,([92,96,100],[])),(10,([101],[])),(11,([102],[]))]),(23,[(0,([0],[])),(1,([17],[])),(2,([0],[])),(3,([17],[])),(4,([116],[])),(5,([0],[])),(6,([17],[])),(7,([119],[])),(8,([118,120],[])),(9,([121],[])),(10,([0],[])),(11,([17],[])),(12,([123,124],[])),(13,([125],[])),(14,([113,114],[])),(15,([122,127],[])),(16,([115,117],[])),(17,([126,128],[]))]),(35,[(0,([4],[])),(1,([0],[])),(2,([22],[])),(3,([23],[])),(4,([160,161],[])),(5,([159,162],[])),(6,([163],[])),(7,([0],[])),(8,([23],[])),(9,([165,166],[])),(10,([167],[])),(11,([158,164,168],[])),(12,([169],[])),(13,([170],[]))])] (.seq (.seq .u (.cond (.seq .u (.seq .u (.seq (.block (.loop ⟨[(0,.c (.own 0)),(1,.c (.int .i64)),(4,.c (.fn 200 [])),(10,.c (.int .i64)),(11,.c (.int .i64))],[.rows false .mono]⟩ (.seq .u (.block (.seq .u (.seq .u (.cut ⟨[(0,.c (.own 0)),(1,.c (.int .i64)),(4,.c (.fn 200 [])),(10,.c (.int .i64)),(11,.c (.int .i64))],[.rows false .mono]⟩ (.cond .u .u)))))))) (.seq (.seq .u (.block (.loop ⟨[(0,.c (.own 0)),(10,.c (.int .i64)),(13,.c (.int .i64))],[.rows false .mono]⟩ .u))) .u)))) .u)) (.seq (.seq .u (.cond (.seq .u (.seq .u (.seq (.block (.loop ⟨[(0,.c (.own 0)),(2,.c (.int .i64)),(4,.c (.fn 200 [])),(14,.c (.int .i64)),(15,.c (.int .i64))],[.rows false .mono]⟩ (.seq .u (.block (.seq .u (.seq .u (.cut ⟨[(0,.c (.own 0)),(2,.c (.int .i64)),(4,.c (.fn 200 [])),(14,.c (.int .i64)),(15,.c (.int .i64))],[.rows false .mono]⟩ (.cond .u .u)))))))) (.seq (.seq .u (.block (.loop ⟨[(0,.c (.own 0)),(14,.c (.int .i64)),(17,.c (.int .i64))],[.rows false .mono]⟩ .u))) .u)))) .u)) (.seq .u (.seq .u (.seq .u (.seq (.seq .u (.cut ⟨[(0,.c (.own 0)),(1,.c (.int .i64)),(2,.c (.int .i64)),(3,.c (.int .i64)),(4,.c (.fn 200 [])),(18,.c (.int .i64)),(19,.c (.int .i64)),(20,.c (.int .i64)),(21,.c (.int .i64))],[.rows false .mono]⟩ (.cond .u .u))) (.seq .u (.seq (.block (.loop ⟨[(0,.c (.own 0)),(1,.c (.int .i64)),(2,.c (.int .i64)),(3,.c (.int .i64)),(4,.c (.fn 200 [])),(18,.c (.int .i64)),(19,.c (.int .i64)),(20,.c (.int .i64)),(21,.c (.int .i64)),(22,.c (.int .i64))],[.rows false .mono]⟩ (.seq .u (.block (.seq .u (.seq .u (.cut ⟨[(0,.c (.own 0)),(1,.c (.int .i64)),(2,.c (.int .i64)),(3,.c (.int .i64)),(4,.c (.fn 200 [])),(18,.c (.int .i64)),(19,.c (.int .i64)),(20,.c (.int .i64)),(21,.c (.int .i64)),(22,.c (.int .i64))],[.rows false .mono]⟩ (.cond .u .u)))))))) (.seq .u (.seq (.seq .u (.cut ⟨[(0,.c (.own 0)),(1,.c (.int .i64)),(3,.c (.int .i64)),(4,.c (.fn 200 [])),(18,.c (.int .i64)),(20,.c (.int .i64)),(24,.c (.int .i64))],[.rows false .mono]⟩ (.cond .u .u))) (.seq (.seq .u (.cut ⟨[(0,.c (.own 0)),(3,.c (.int .i64)),(4,.c (.fn 200 [])),(18,.c (.int .i64)),(24,.c (.int .i64))],[.rows false .mono]⟩ (.cond .u .u))) (.seq .u (.cut ⟨[],[.rows false .mono]⟩ (.cond .u .u)))))))))))))) mO Tryz.f218 [(200,⟨_,nP⟩),(224,⟨_,qZ⟩),(218,⟨_,o7⟩)] (Fj A nP.pre nP.fn qZ.pre qZ.fn o7.pre o7.fn):=fun _=>by kernel_rfl
theorem agC (A:Alg) (Gg:Ct A.ah EH) (o7:Ct A.ah mO): @Ru aH.z X E A [] (.seq .u (.seq .u (.seq (.block (.loop ⟨[(0,.c (.own 0)),(1,.c (.int .i64)),(2,.c (.fn 200 [])),(6,.c (.int .i64)),(7,.c (.int .i64)),(8,.c (.int .i64))],[.rows false .mono]⟩ .u)) (.seq .u (.block (.loop ⟨[(0,.c (.own 0)),(1,.c (.int .i64)),(2,.c (.fn 200 [])),(6,.c (.int .i64))],[.rows false .mono]⟩ (.seq .u (.block (.seq .u (.seq (.block (.loop ⟨[(0,.c (.own 0)),(1,.c (.int .i64)),(2,.c (.fn 200 [])),(6,.c (.int .i64)),(7,.c (.int .i64)),(8,.c (.int .i64))],[.rows false .mono]⟩ .u)) (.seq (.seq .u (.seq .u (.cut ⟨[(0,.c (.own 0)),(1,.c (.int .i64)),(2,.c (.fn 200 [])),(6,.c (.int .i64))],[.rows false .mono]⟩ (.cond .u .u)))) .u))))))))))) EK Tryz.f206 [(217,⟨_,Gg⟩),(218,⟨_,o7⟩)] (Rl A Gg.pre Gg.fn o7.pre o7.fn):=fun _=>by kernel_rfl
theorem agD (A:Alg) (Gh:Ct A.ah EK): @Ru aH.z X E A [] .u EL Tryz.f199 [(206,⟨_,Gh⟩)] (Rm A Gh.pre Gh.fn):=fun _=>by kernel_rfl
theorem amW (A:Alg) (jK:Ct A.ah nO) (eH:Ct A.ah iN) (mR:Ct A.ah uw) (wB:Ct A.ah Bq) (Gi:Ct A.ah EL): @Ru ⟨[51],[]⟩ X E A [(5,[(0,([0],[])),(1,([5],[])),(2,([14,15],[])),(3,([16],[])),(5,([],[])),(4,([],[])),(6,([7,17],[]))]),(6,[(0,([5],[])),(1,([0],[])),(2,([19],[])),(3,([18,20],[])),(4,([21],[])),(5,([7,22],[])),(6,([22,23],[])),(7,([0,22],[])),(8,([5,22],[])),(9,([22,25,26],[])),(10,([22,27],[])),(11,([22,28],[])),(12,([22,24,29],[])),(13,([22,30],[])),(14,([22,31],[]))]),(10,[(0,([4],[])),(1,([45],[])),(2,([6],[])),(3,([7],[])),(4,([48],[])),(5,([49],[1])),(6,([47,50],[])),(7,([51],[1])),(8,([46,52],[])),(9,([4],[])),(10,([53,54],[]))])] (.seq .u (.seq .u (.seq .u (.seq (.seq .u (.block (.loop ⟨[(0,.c (.own 0)),(2,.c (.pb 1 1 0)),(4,.c (.pb 2 1 0)),(5,.c (.int .i64))],[.rows false .mono,.box (.agg [.nil]),.box (.agg [.own 3]),.rows true .mono]⟩ (.seq .u (.block (.seq .u (.seq (.block (.loop ⟨[(0,.c (.own 0)),(2,.c (.pb 1 1 0)),(4,.c (.pb 2 1 0)),(5,.c (.int .i64)),(6,.c (.int .i64)),(7,.c (.pb 3 2 0))],[.rows false .mono,.box (.agg [.nil]),.box (.agg [.own 4]),.box (.sv false .mono),.rows true .mono]⟩ .u)) (.seq .u (.cut ⟨[(0,.c (.own 0)),(2,.c (.pb 1 1 0)),(4,.c (.pb 2 1 0)),(5,.c (.int .i64))],[.rows false .mono,.box (.agg [.nil]),.box (.agg [.own 3]),.rows true .mono]⟩ (.cond .u .u)))))))))) .u)))) Bw Tryz.f177 [(157,⟨_,jK⟩),(123,⟨_,eH⟩),(181,⟨_,mR⟩),(146,⟨_,wB⟩),(199,⟨_,Gi⟩)] (Yw A jK.pre jK.fn eH.pre eH.fn mR.pre mR.fn wB.pre wB.fn Gi.pre Gi.fn):=fun _=>by kernel_rfl
theorem amX (A:Alg): @Ru aH.z X E A [] (.seq .u (.seq .u (.seq (.seq .u (.seq .u (.cut ⟨[(0,.c (.own 0))],[.rows true .mono]⟩ (.cond .u .u)))) .u))) Mv Tryz.f201 [] (Yx A):=fun _=>by kernel_rfl
theorem amY (A:Alg) (Nw:Ct A.ah Mv): @Ru aH.z X E A [] (.seq .u (.seq .u (.seq (.seq .u (.block (.loop ⟨[(0,.c (.rows false .poly)),(3,.c (.int .i64)),(9,.c (.rows false .poly)),(10,.c (.int .i64)),(11,.c (.int .i64))],[]⟩ .u))) (.seq .u (.seq (.seq .u (.block (.loop ⟨[(6,.c (.own 0)),(25,.c (.rows false .poly)),(26,.c (.int .i64)),(27,.c (.int .i64))],[.rows false .mono]⟩ .u))) .u))))) Mw Tryz.f178 [(201,⟨_,Nw⟩)] (Yy A Nw.pre Nw.fn):=fun _=>by kernel_rfl
theorem amZ (A:Alg) (eH:Ct A.ah iN) (wE:Ct A.ah Bw) (Ny:Ct A.ah Mw): @Ru aH.z X E A [] .u Mx Tryz.f151 [(123,⟨_,eH⟩),(177,⟨_,wE⟩),(178,⟨_,Ny⟩)] (Yz A eH.pre eH.fn wE.pre wE.fn Ny.pre Ny.fn):=fun _=>by kernel_rfl
theorem agE (A:Alg): @Ru aH.z X E A [] (.seq .u (.seq .u (.seq (.seq .u (.seq .u (.cut ⟨[(0,.c (.own 0))],[.rows true .i64]⟩ (.cond .u .u)))) .u))) EM Tryz.f202 [] (Rn A):=fun _=>by kernel_rfl
theorem am0 (A:Alg) (Gj:Ct A.ah EM): @Ru aH.z X E A [] (.seq .u (.seq .u (.seq (.seq .u (.block (.loop ⟨[(0,.c (.rows false .ints)),(3,.c (.int .i64)),(9,.c (.rows false .ints)),(10,.c (.int .i64)),(11,.c (.int .i64))],[]⟩ .u))) (.seq .u (.seq (.seq .u (.block (.loop ⟨[(6,.c (.own 0)),(25,.c (.rows false .ints)),(26,.c (.int .i64)),(27,.c (.int .i64))],[.rows true .i64]⟩ .u))) .u))))) MB Tryz.f179 [(202,⟨_,Gj⟩)] (YC A Gj.pre Gj.fn):=fun _=>by kernel_rfl
theorem agF (A:Alg) (xY:Ct A.ah EC): @Ru aH.z X E A [(4,[(0,([7],[])),(1,([1],[])),(2,([16,17],[])),(3,([18],[])),(4,([0,19],[])),(5,([7,19],[])),(6,([19,20,21],[])),(7,([19,22],[])),(8,([0,19],[])),(9,([7,19],[])),(10,([19,25],[])),(11,([19,24,26],[])),(12,([19,27],[])),(13,([19,23,28],[])),(14,([19,29],[]))]),(6,[(0,([0],[])),(1,([7],[])),(2,([0],[])),(3,([7],[])),(4,([36],[])),(5,([0],[])),(6,([7],[])),(7,([39],[])),(8,([38,40],[])),(9,([41],[])),(10,([0],[])),(11,([7],[])),(12,([43,44],[])),(13,([45],[])),(14,([33,34],[])),(15,([42,47],[])),(16,([35,37],[])),(17,([46,48],[]))])] (.seq .u (.block (.loop ⟨[(0,.c (.own 0)),(1,.c (.int .i64)),(2,.c (.int .i64)),(6,.c (.int .i64))],[.rows true .i64]⟩ (.seq .u (.seq (.block (.seq .u (.block (.loop ⟨[(0,.c (.own 0)),(1,.c (.int .i64)),(2,.c (.int .i64)),(6,.c (.int .i64)),(7,.c (.int .i64))],[.rows true .i64]⟩ .u)))) .u))))) EN Tryz.f207 [(184,⟨_,xY⟩)] (Ro A xY.pre xY.fn):=fun _=>by kernel_rfl
theorem agG (A:Alg) (xY:Ct A.ah EC) (Gm:Ct A.ah EN) (Ad:Ct A.ah EP) (Ae:Ct A.ah ER) (Af:Ct A.ah ET) (Ag:Ct A.ah EU) (Ah:Ct A.ah EW) (Ai:Ct A.ah EZ) (Aj:Ct A.ah E5) (q8:Ct A.ah oH): @Ru aH.z X E A [(17,[(0,([1],[])),(1,([73],[])),(2,([74],[])),(3,([0,75],[])),(4,([1,75],[])),(5,([75,77],[])),(6,([75,76,78],[])),(7,([75,79],[])),(8,([0,75],[])),(9,([11,75],[])),(10,([75,81,82],[])),(11,([75,83],[])),(12,([75,80,84],[])),(13,([75,85],[])),(14,([75,86],[]))])] (.seq .u (.seq .u (.block (.loop ⟨[(0,.c (.own 0)),(1,.c (.int .i64)),(2,.c (.int .i64)),(3,.c (.int .i64)),(8,.c (.bool)),(9,.c (.bool))],[.rows true .i64]⟩ (.cut ⟨[(0,.c (.own 0)),(1,.c (.int .i64)),(2,.c (.int .i64)),(3,.c (.int .i64)),(8,.c (.bool)),(9,.c (.bool))],[.rows true .i64]⟩ (.block (.seq .u (.seq .u (.seq .u (.seq (.seq .u (.cut ⟨[(0,.c (.own 0)),(1,.c (.int .i64)),(2,.c (.int .i64)),(3,.c (.int .i64)),(8,.c (.bool)),(9,.c (.bool)),(10,.c (.int .i64))],[.rows true .i64]⟩ (.cond .u .u))) (.seq .u (.seq (.seq .u (.cut ⟨[(0,.c (.own 0)),(1,.c (.int .i64)),(2,.c (.int .i64)),(3,.c (.int .i64)),(8,.c (.bool)),(9,.c (.bool)),(10,.c (.int .i64)),(11,.c (.int .i64)),(12,.c (.int .i64))],[.rows true .i64]⟩ (.cond .u .u))) (.seq (.seq .u (.cut ⟨[(0,.c (.own 0)),(1,.c (.int .i64)),(2,.c (.int .i64)),(3,.c (.int .i64)),(8,.c (.bool)),(9,.c (.bool)),(10,.c (.int .i64)),(11,.c (.int .i64))],[.rows true .i64]⟩ (.cond .u .u))) (.seq .u (.seq .u (.seq .u (.seq .u (.seq .u (.seq .u (.cut ⟨[(0,.c (.own 0)),(1,.c (.int .i64)),(2,.c (.int .i64)),(3,.c (.int .i64)),(8,.c (.bool)),(9,.c (.bool))],[.rows true .i64]⟩ (.cond .u .u))))))))))))))))))))) oH Tryz.f203 [(184,⟨_,xY⟩),(207,⟨_,Gm⟩),(208,⟨_,Ad⟩),(209,⟨_,Ae⟩),(210,⟨_,Af⟩),(211,⟨_,Ag⟩),(212,⟨_,Ah⟩),(213,⟨_,Ai⟩),(214,⟨_,Aj⟩),(203,⟨_,q8⟩)] (Rp A xY.pre xY.fn Gm.pre Gm.fn Ad.pre Ad.fn Ae.pre Ae.fn Af.pre Af.fn Ag.pre Ag.fn Ah.pre Ah.fn Ai.pre Ai.fn Aj.pre Aj.fn q8.pre q8.fn):=fun _=>by kernel_rfl
theorem agH (A:Alg) (q8:Ct A.ah oH) (Gn:Ct A.ah TK): @Ru aH.z X E A [] .u E8 Tryz.f180 [(203,⟨_,q8⟩),(204,⟨_,Gn⟩)] (Rq A q8.pre q8.fn Gn.pre Gn.fn):=fun _=>by kernel_rfl
theorem am1 (A:Alg) (eH:Ct A.ah iN) (mR:Ct A.ah uw) (wE:Ct A.ah Bw) (Nz:Ct A.ah MB) (Gp:Ct A.ah E8): @Ru aH.z X E A [] (.seq .u (.seq .u (.seq .u (.seq (.seq .u (.block (.loop ⟨[(3,.c (.pb 0 1 0)),(4,.c (.pb 1 1 0)),(6,.c (.own 2)),(22,.c (.rows false .mono)),(23,.c (.int .i64)),(24,.c (.int .i64))],[.box (.sv false .poly),.box (.agg [.nil]),.rows true .mono]⟩ (.seq .u (.seq .u (.seq (.block (.seq .u (.seq .u (.block (.loop ⟨[(3,.c (.pb 0 1 0)),(4,.c (.pb 1 1 0)),(6,.c (.own 2)),(8,.c (.pb 3 2 0)),(22,.c (.rows false .mono)),(23,.c (.int .i64)),(24,.c (.int .i64)),(29,.c (.rows false .mono)),(30,.c (.int .i64)),(31,.c (.int .i64))],[.box (.sv false .poly),.box (.agg [.nil]),.rows true .mono,.box (.sv false .mono)]⟩ .u))))) .u)))))) .u)))) Bz Tryz.f153 [(123,⟨_,eH⟩),(181,⟨_,mR⟩),(177,⟨_,wE⟩),(179,⟨_,Nz⟩),(180,⟨_,Gp⟩)] (YD A eH.pre eH.fn mR.pre mR.fn wE.pre wE.fn Nz.pre Nz.fn Gp.pre Gp.fn):=fun _=>by kernel_rfl
theorem am2 (A:Alg) (eH:Ct A.ah iN) (mU:Ct A.ah uo) (iE:Ct A.ah kR) (wF:Ct A.ah Bz): @Ru aH.z X E A [(3,[(0,([2],[])),(1,([1],[])),(2,([18],[0])),(3,([17,19],[])),(4,([20],[])),(5,([16],[])),(6,([16],[])),(7,([],[])),(8,([5,21],[])),(9,([22],[]))])] .u MC Tryz.f152 [(123,⟨_,eH⟩),(78,⟨_,mU⟩),(112,⟨_,iE⟩),(153,⟨_,wF⟩)] (YE A eH.pre eH.fn mU.pre mU.fn iE.pre iE.fn wF.pre wF.fn):=fun _=>by kernel_rfl
theorem am3 (A:Alg) (iE:Ct A.ah kR) (mR:Ct A.ah uw): @Ru aH.z X E A [] .u ME Tryz.f154 [(112,⟨_,iE⟩),(181,⟨_,mR⟩)] (YH A iE.pre iE.fn mR.pre mR.fn):=fun _=>by kernel_rfl
theorem am4 (A:Alg) (fV:Ct A.ah jJ) (mU:Ct A.ah uo) (NA:Ct A.ah ME) (NC:Ct A.ah Mx) (wF:Ct A.ah Bz) (ND:Ct A.ah MC) (wG:Ct A.ah Bu): @Ru aH.z X E A [(5,[(0,([4],[])),(1,([5],[])),(2,([23],[0])),(3,([22,24],[])),(4,([25],[])),(5,([25],[])),(6,([6,26],[])),(7,([27],[]))])] (.seq .u (.seq .u (.seq .u (.seq .u (.seq .u (.seq (.seq .u (.cut ⟨[(0,.c (.int .i64)),(4,.c (.pb 0 1 0)),(6,.c (.pb 1 1 0)),(10,.c (.int .i64)),(11,.c (.bool))],[.box (.sv true .poly),.box (.agg [.nil])]⟩ (.cond .u .u))) .u)))))) MF Tryz.f119 [(85,⟨_,fV⟩),(78,⟨_,mU⟩),(154,⟨_,NA⟩),(151,⟨_,NC⟩),(153,⟨_,wF⟩),(152,⟨_,ND⟩),(125,⟨_,wG⟩)] (YI A fV.pre fV.fn mU.pre mU.fn NA.pre NA.fn NC.pre NC.fn wF.pre wF.fn ND.pre ND.fn wG.pre wG.fn):=fun _=>by kernel_rfl
theorem am5 (A:Alg) (mP:Ct A.ah uj) (NG:Ct A.ah MF) (wu:Ct A.ah Bj) (wo:Ct A.ah Bn): @Ru aH.z X E A [(3,[(0,([4],[])),(1,([11],[])),(2,([8,23],[1])),(3,([9,24],[])),(4,([],[]))]),(9,[(0,([13],[])),(1,([14],[])),(2,([49],[0])),(3,([8,48],[])),(4,([9,50],[])),(5,([],[]))])] (.seq .u (.seq .u (.seq (.seq .u (.cut ⟨[(1,.c (.int .i64)),(4,.c (.pb 0 1 0)),(6,.c (.pb 1 1 0)),(7,.c (.pb 2 1 0)),(8,.c (.pb 3 1 0)),(9,.c (.pb 4 1 0))],[.box (.sv true .tab),.box (.sv true .poly),.box (.sv true .poly),.box (.agg [.nil]),.box (.agg [.nil])]⟩ (.cond .u .u))) .u))) MG Tryz.f79 [(120,⟨_,mP⟩),(119,⟨_,NG⟩),(121,⟨_,wu⟩),(122,⟨_,wo⟩)] (YJ A mP.pre mP.fn NG.pre NG.fn wu.pre wu.fn wo.pre wo.fn):=fun _=>by kernel_rfl
theorem am6 (A:Alg) (mQ:Ct A.ah um): @Ru aH.z X E A [] (.seq .u (.seq .u (.seq (.seq .u (.block (.loop ⟨[(3,.c (.own 0)),(6,.c (.rows false .poly)),(7,.c (.int .i64)),(8,.c (.int .i64))],[.rows true .poly]⟩ .u))) .u))) MH Tryz.f162 [(116,⟨_,mQ⟩)] (YK A mQ.pre mQ.fn):=fun _=>by kernel_rfl
theorem am7 (A:Alg) (mQ:Ct A.ah um) (NH:Ct A.ah MH): @Ru ⟨[42],[]⟩ X E A [(1,[(0,([1],[])),(1,([6],[])),(3,([1],[])),(4,([9],[])),(5,([1],[])),(6,([11],[])),(8,([1],[])),(9,([14],[])),(11,([1],[])),(12,([17],[])),(2,([7],[4,6,9,12])),(7,([12],[4,9,12])),(10,([15],[4,12])),(13,([8,10,13,16,18],[])),(14,([],[])),(15,([3,19],[]))]),(5,[(0,([3],[])),(1,([27],[])),(2,([5],[])),(3,([29],[])),(4,([5],[])),(5,([31],[])),(6,([5],[])),(7,([33],[])),(9,([5],[])),(10,([36],[])),(12,([5],[])),(13,([39],[])),(8,([34],[1,3,5,10,13])),(11,([37],[1,3,5,13])),(14,([40],[1,3,5])),(15,([30,32,35,38,41],[])),(16,([42],[1])),(17,([28,43],[])),(18,([3],[])),(19,([44,45],[]))])] (.seq .u (.seq .u (.seq (.seq .u (.block (.loop ⟨[(2,.c (.pb 0 6 0)),(3,.c (.pb 1 6 0)),(21,.c (.rows false .ev)),(22,.c (.int .i64)),(23,.c (.int .i64))],[.box (.agg [.nil,.nil,.int .i64,.nil,.nil,.int .i64]),.box (.agg [.own 2,.own 3,.int .i64,.own 4,.own 5,.int .i64]),.rows true .ev,.rows true .poly,.rows true .mono,.rows true .mono]⟩ .u))) .u))) MI Tryz.f124 [(116,⟨_,mQ⟩),(162,⟨_,NH⟩)] (YL A mQ.pre mQ.fn NH.pre NH.fn):=fun _=>by kernel_rfl
theorem am8 (A:Alg) (iE:Ct A.ah kR): @Ru aH.z X E A [] .u MJ Tryz.f126 [(112,⟨_,iE⟩)] (YM A iE.pre iE.fn):=fun _=>by kernel_rfl
theorem am9 (A:Alg) (wG:Ct A.ah Bu) (eH:Ct A.ah iN) (mP:Ct A.ah uj) (NI:Ct A.ah MI) (fV:Ct A.ah jJ) (NJ:Ct A.ah MJ): @Ru aH.z X E A [] (.seq .u (.seq .u (.seq .u (.seq .u (.seq .u (.seq .u (.seq (.block (.seq .u (.cut ⟨[(4,.c (.pb 0 6 0)),(5,.c (.pb 1 6 0))],[.box (.agg [.nil,.nil,.int .i64,.nil,.nil,.int .i64]),.box (.agg [.own 2,.own 3,.int .i64,.own 4,.own 5,.int .i64]),.rows true .ev,.rows true .poly,.rows true .mono,.rows true .mono]⟩ (.cond .u (.seq .u (.cut ⟨[(4,.c (.pb 0 6 0)),(5,.c (.pb 1 6 0))],[.box (.agg [.nil,.nil,.int .i64,.nil,.nil,.int .i64]),.box (.agg [.own 2,.own 3,.int .i64,.own 4,.own 5,.int .i64]),.rows true .ev,.rows true .poly,.rows true .mono,.rows true .mono]⟩ (.cond .u (.seq .u (.cut ⟨[(4,.c (.pb 0 6 0)),(5,.c (.pb 1 6 0))],[.box (.agg [.nil,.nil,.int .i64,.nil,.nil,.int .i64]),.box (.agg [.own 2,.own 3,.int .i64,.own 4,.own 5,.int .i64]),.rows true .ev,.rows true .poly,.rows true .mono,.rows true .mono]⟩ (.cond (.seq .u (.seq .u (.seq .u (.cut ⟨[(4,.c (.pb 0 6 0)),(5,.c (.pb 1 6 0))],[.box (.agg [.nil,.nil,.int .i64,.nil,.nil,.int .i64]),.box (.agg [.own 2,.own 3,.int .i64,.nil,.nil,.int .i64]),.rows true .ev,.rows true .poly]⟩ (.cond .u .u))))) (.seq .u (.cut ⟨[(4,.c (.pb 0 6 0)),(5,.c (.pb 1 6 0))],[.box (.agg [.nil,.nil,.int .i64,.nil,.nil,.int .i64]),.box (.agg [.own 2,.own 3,.int .i64,.own 4,.own 5,.int .i64]),.rows true .ev,.rows true .poly,.rows true .mono,.rows true .mono]⟩ (.cond .u .u))))))))))))) .u))))))) MK Tryz.f82 [(125,⟨_,wG⟩),(123,⟨_,eH⟩),(120,⟨_,mP⟩),(124,⟨_,NI⟩),(85,⟨_,fV⟩),(126,⟨_,NJ⟩)] (YN A wG.pre wG.fn eH.pre eH.fn mP.pre mP.fn NI.pre NI.fn fV.pre fV.fn NJ.pre NJ.fn):=fun _=>by kernel_rfl
theorem ana (A:Alg) (vX:Ct A.ah Bc) (wH:Ct A.ah Bd) (NK:Ct A.ah Ms) (vU:Ct A.ah A8) (mU:Ct A.ah uo) (NP:Ct A.ah MK) (NQ:Ct A.ah Mr) (wC:Ct A.ah Br) (NR:Ct A.ah MG) (wz:Ct A.ah Bo) (wD:Ct A.ah Bp) (NS:Ct A.ah Mt): @Ru aH.z X E A [(4,[(0,([6],[])),(2,([3],[])),(3,([47],[])),(4,([3],[])),(5,([49],[])),(1,([45],[3,5])),(6,([46,48,50],[])),(7,([],[])),(8,([7,51],[]))]),(27,[(0,([6],[])),(1,([134],[])),(2,([135],[])),(3,([136],[])),(4,([12],[])),(5,([138],[])),(6,([17],[])),(7,([18],[])),(8,([137,139,140,141],[])),(9,([142],[])),(10,([133],[])),(11,([133],[])),(12,([133],[])),(13,([],[])),(14,([],[])),(15,([20,143],[])),(16,([21,144],[])),(17,([145],[]))]),(30,[(0,([6],[])),(1,([8],[])),(2,([11],[])),(3,([20],[])),(4,([21],[])),(5,([150],[])),(6,([155],[])),(7,([153,156],[4])),(8,([151,152],[])),(9,([154,157],[]))]),(47,[(0,([6],[])),(1,([213],[])),(2,([214],[])),(3,([215],[])),(5,([7],[])),(6,([3],[])),(7,([219],[])),(8,([3],[])),(9,([221],[])),(10,([220,222],[])),(4,([216],[5,7,9])),(11,([218,223],[])),(12,([4,217],[])),(13,([5,224],[]))])] (.seq .u (.seq .u (.seq .u (.seq .u (.seq .u (.seq .u (.seq (.seq .u (.block (.loop ⟨[(3,.c (.pb 0 7 0)),(4,.c (.pb 1 1 0)),(5,.c (.pb 2 6 0)),(6,.c (.pb 3 2 0)),(7,.c (.pb 4 6 0)),(8,.c (.own 5)),(9,.c (.int .i64)),(10,.c (.int .i64)),(57,.c (.rows false .iop)),(58,.c (.int .i64)),(59,.c (.int .i64))],[.box (.sv false .blk),.box (.agg [.nil]),.box (.agg [.nil,.nil,.int .i64,.nil,.nil,.int .i64]),.box (.agg [.rows true .atom,.bool]),.box (.agg [.own 6,.own 7,.int .i64,.nil,.nil,.int .i64]),.rows true .poly,.rows true .ev,.rows true .poly]⟩ (.seq .u (.seq .u (.seq (.block (.seq .u (.seq .u (.seq .u (.seq (.seq .u (.cut ⟨[(3,.c (.pb 0 7 0)),(4,.c (.pb 1 1 0)),(5,.c (.pb 2 6 0)),(6,.c (.pb 3 2 0)),(7,.c (.pb 4 6 0)),(8,.c (.own 5)),(9,.c (.int .i64)),(10,.c (.int .i64)),(11,.c (.int .i64)),(12,.c (.pb 6 5 0)),(14,.c (.bool)),(17,.c (.pb 7 1 0)),(18,.c (.pb 8 1 0)),(57,.c (.rows false .iop)),(58,.c (.int .i64)),(59,.c (.int .i64))],[.box (.sv false .blk),.box (.agg [.nil]),.box (.agg [.nil,.nil,.int .i64,.nil,.nil,.int .i64]),.box (.agg [.rows true .atom,.bool]),.box (.agg [.own 9,.own 10,.int .i64,.nil,.nil,.int .i64]),.rows true .poly,.box (.sv false .iop),.box (.sv true .poly),.box (.agg [.nil]),.rows true .ev,.rows true .poly]⟩ (.cond .u .u))) (.seq (.seq .u (.cut ⟨[(3,.c (.pb 0 7 0)),(4,.c (.pb 1 1 0)),(5,.c (.pb 2 6 0)),(6,.c (.pb 3 2 0)),(7,.c (.pb 4 6 0)),(8,.c (.own 5)),(9,.c (.int .i64)),(10,.c (.int .i64)),(11,.c (.int .i64)),(12,.c (.pb 6 5 0)),(17,.c (.pb 7 1 0)),(18,.c (.pb 8 1 0)),(57,.c (.rows false .iop)),(58,.c (.int .i64)),(59,.c (.int .i64))],[.box (.sv false .blk),.box (.agg [.nil]),.box (.agg [.nil,.nil,.int .i64,.nil,.nil,.int .i64]),.box (.agg [.rows true .atom,.bool]),.box (.agg [.own 9,.own 10,.int .i64,.nil,.nil,.int .i64]),.rows true .poly,.box (.sv false .iop),.box (.sv true .poly),.box (.sv true .poly),.rows true .ev,.rows true .poly]⟩ (.cond .u .u))) (.seq (.seq .u (.cut ⟨[(3,.c (.pb 0 7 0)),(4,.c (.pb 1 1 0)),(5,.c (.pb 2 6 0)),(6,.c (.pb 3 2 0)),(7,.c (.pb 4 6 0)),(8,.c (.own 5)),(9,.c (.int .i64)),(10,.c (.int .i64)),(11,.c (.int .i64)),(12,.c (.pb 6 5 0)),(17,.c (.pb 7 1 0)),(18,.c (.pb 8 1 0)),(57,.c (.rows false .iop)),(58,.c (.int .i64)),(59,.c (.int .i64))],[.box (.sv false .blk),.box (.agg [.nil]),.box (.agg [.nil,.nil,.int .i64,.nil,.nil,.int .i64]),.box (.agg [.rows true .atom,.bool]),.box (.agg [.own 9,.own 10,.int .i64,.nil,.nil,.int .i64]),.rows true .poly,.box (.sv false .iop),.box (.sv true .poly),.box (.sv true .poly),.rows true .ev,.rows true .poly]⟩ (.cond (.seq .u (.seq (.seq .u (.cut ⟨[(3,.c (.pb 0 7 0)),(4,.c (.pb 1 1 0)),(5,.c (.pb 2 6 0)),(6,.c (.pb 3 2 0)),(7,.c (.pb 4 6 0)),(8,.c (.own 5)),(9,.c (.int .i64)),(10,.c (.int .i64)),(11,.c (.int .i64)),(12,.c (.pb 6 5 0)),(17,.c (.pb 7 1 0)),(18,.c (.pb 8 1 0)),(19,.c (.pb 9 5 0)),(57,.c (.rows false .iop)),(58,.c (.int .i64)),(59,.c (.int .i64))],[.box (.sv false .blk),.box (.agg [.nil]),.box (.agg [.nil,.nil,.int .i64,.nil,.nil,.int .i64]),.box (.agg [.rows true .atom,.bool]),.box (.agg [.own 10,.own 11,.int .i64,.nil,.nil,.int .i64]),.rows true .poly,.box (.sv false .iop),.box (.sv true .poly),.box (.sv true .poly),.box (.agg [.int .i64,.int .i64,.rows true .mono,.rows true .mono,.own 12]),.rows true .ev,.rows true .poly,.rows true .poly]⟩ (.cond .u .u))) .u)) .u))) (.seq .u (.block (.seq .u (.cut ⟨[(3,.c (.pb 0 7 0)),(4,.c (.pb 1 1 0)),(5,.c (.pb 2 6 0)),(6,.c (.pb 3 2 0)),(7,.c (.pb 4 6 0)),(8,.c (.own 5)),(9,.c (.int .i64)),(10,.c (.int .i64)),(57,.c (.rows false .iop)),(58,.c (.int .i64)),(59,.c (.int .i64))],[.box (.sv false .blk),.box (.agg [.nil]),.box (.agg [.nil,.nil,.int .i64,.nil,.nil,.int .i64]),.box (.agg [.rows true .atom,.bool]),.box (.agg [.own 6,.own 7,.int .i64,.nil,.nil,.int .i64]),.rows true .poly,.rows true .ev,.rows true .poly]⟩ (.cond .u (.seq .u (.cut ⟨[(3,.c (.pb 0 7 0)),(4,.c (.pb 1 1 0)),(5,.c (.pb 2 6 0)),(6,.c (.pb 3 2 0)),(7,.c (.pb 4 6 0)),(8,.c (.own 5)),(9,.c (.int .i64)),(10,.c (.int .i64)),(57,.c (.rows false .iop)),(58,.c (.int .i64)),(59,.c (.int .i64))],[.box (.sv false .blk),.box (.agg [.nil]),.box (.agg [.nil,.nil,.int .i64,.nil,.nil,.int .i64]),.box (.agg [.rows true .atom,.bool]),.box (.agg [.own 6,.own 7,.int .i64,.nil,.nil,.int .i64]),.rows true .poly,.rows true .ev,.rows true .poly]⟩ (.cond .u (.seq .u (.cut ⟨[(3,.c (.pb 0 7 0)),(4,.c (.pb 1 1 0)),(5,.c (.pb 2 6 0)),(6,.c (.pb 3 2 0)),(7,.c (.pb 4 6 0)),(8,.c (.own 5)),(9,.c (.int .i64)),(10,.c (.int .i64)),(57,.c (.rows false .iop)),(58,.c (.int .i64)),(59,.c (.int .i64))],[.box (.sv false .blk),.box (.agg [.nil]),.box (.agg [.nil,.nil,.int .i64,.nil,.nil,.int .i64]),.box (.agg [.rows true .atom,.bool]),.box (.agg [.own 6,.own 7,.int .i64,.nil,.nil,.int .i64]),.rows true .poly,.rows true .ev,.rows true .poly]⟩ (.cond .u (.seq .u (.cut ⟨[(3,.c (.pb 0 7 0)),(4,.c (.pb 1 1 0)),(5,.c (.pb 2 6 0)),(6,.c (.pb 3 2 0)),(7,.c (.pb 4 6 0)),(8,.c (.own 5)),(9,.c (.int .i64)),(10,.c (.int .i64)),(57,.c (.rows false .iop)),(58,.c (.int .i64)),(59,.c (.int .i64))],[.box (.sv false .blk),.box (.agg [.nil]),.box (.agg [.nil,.nil,.int .i64,.nil,.nil,.int .i64]),.box (.agg [.rows true .atom,.bool]),.box (.agg [.own 6,.own 7,.int .i64,.nil,.nil,.int .i64]),.rows true .poly,.rows true .ev,.rows true .poly]⟩ (.cond .u (.seq .u (.cut ⟨[(3,.c (.pb 0 7 0)),(4,.c (.pb 1 1 0)),(5,.c (.pb 2 6 0)),(6,.c (.pb 3 2 0)),(7,.c (.pb 4 6 0)),(8,.c (.own 5)),(9,.c (.int .i64)),(10,.c (.int .i64)),(57,.c (.rows false .iop)),(58,.c (.int .i64)),(59,.c (.int .i64))],[.box (.sv false .blk),.box (.agg [.nil]),.box (.agg [.nil,.nil,.int .i64,.nil,.nil,.int .i64]),.box (.agg [.rows true .atom,.bool]),.box (.agg [.own 6,.own 7,.int .i64,.nil,.nil,.int .i64]),.rows true .poly,.rows true .ev,.rows true .poly]⟩ (.cond .u (.seq .u (.cut ⟨[(3,.c (.pb 0 7 0)),(4,.c (.pb 1 1 0)),(5,.c (.pb 2 6 0)),(6,.c (.pb 3 2 0)),(7,.c (.pb 4 6 0)),(8,.c (.own 5)),(9,.c (.int .i64)),(10,.c (.int .i64)),(57,.c (.rows false .iop)),(58,.c (.int .i64)),(59,.c (.int .i64))],[.box (.sv false .blk),.box (.agg [.nil]),.box (.agg [.nil,.nil,.int .i64,.nil,.nil,.int .i64]),.box (.agg [.rows true .atom,.bool]),.box (.agg [.own 6,.own 7,.int .i64,.nil,.nil,.int .i64]),.rows true .poly,.rows true .ev,.rows true .poly]⟩ (.cond .u .u))))))))))))))))))))))))))) .u)))))) (.seq .u (.seq (.seq .u (.cut ⟨[(3,.c (.pb 0 7 0)),(4,.c (.pb 1 1 0)),(5,.c (.pb 2 6 0)),(6,.c (.pb 3 2 0)),(7,.c (.pb 4 6 0)),(8,.c (.own 5)),(24,.c (.bool))],[.box (.sv false .blk),.box (.agg [.nil]),.box (.agg [.nil,.nil,.int .i64,.nil,.nil,.int .i64]),.box (.agg [.rows true .atom,.bool]),.box (.agg [.own 6,.own 7,.int .i64,.rows true .mono,.nil,.int .i64]),.rows true .poly,.rows true .ev,.rows true .poly]⟩ (.cond .u .u))) (.seq (.seq .u (.cut ⟨[(3,.c (.pb 0 7 0)),(4,.c (.pb 1 1 0)),(5,.c (.pb 2 6 0)),(6,.c (.pb 3 2 0)),(7,.c (.pb 4 6 0))],[.box (.sv false .blk),.box (.agg [.nil]),.box (.agg [.nil,.nil,.int .i64,.nil,.nil,.int .i64]),.box (.agg [.rows true .atom,.bool]),.box (.agg [.own 5,.own 6,.int .i64,.rows true .mono,.rows true .mono,.int .i64]),.rows true .ev,.rows true .poly]⟩ (.cond .u .u))) .u)))))))))) ML Tryz.f31 [(81,⟨_,vX⟩),(28,⟨_,wH⟩),(76,⟨_,NK⟩),(75,⟨_,vU⟩),(78,⟨_,mU⟩),(82,⟨_,NP⟩),(74,⟨_,NQ⟩),(73,⟨_,wC⟩),(79,⟨_,NR⟩),(80,⟨_,wz⟩),(72,⟨_,wD⟩),(77,⟨_,NS⟩)] (YO A vX.pre vX.fn wH.pre wH.fn NK.pre NK.fn vU.pre vU.fn mU.pre mU.fn NP.pre NP.fn NQ.pre NQ.fn wC.pre wC.fn NR.pre NR.fn wz.pre wz.fn wD.pre wD.fn NS.pre NS.fn):=fun _=>by kernel_rfl
end Go.TX.Seat
namespace Go.TX.Seat
open Go Go.AE Go.TX Go.TX.F Go.Proofs
set_option maxRecDepth 100000
theorem anb (A:Alg) (fV:Ct A.ah jJ): @Ru aH.z X E A [] .u MN Tryz.f128 [(85,⟨_,fV⟩)] (YP A fV.pre fV.fn):=fun _=>by kernel_rfl
theorem ane (A:Alg) (NT:Ct A.ah MN): @Ru aH.z X E A [] (.seq .u (.seq .u (.seq (.seq .u (.block (.loop ⟨[(1,.c (.rows false .poly)),(2,.c (.fn 128 [])),(15,.c (.rows false .poly)),(16,.c (.int .i64)),(17,.c (.int .i64))],[]⟩ .u))) .u))) MO Tryz.f127 [(128,⟨_,NT⟩)] (YQ A NT.pre NT.fn):=fun _=>by kernel_rfl
theorem anf (A:Alg) (NU:Ct A.ah MO): @Ru aH.z X E A [] .u BA Tryz.f86 [(127,⟨_,NU⟩)] (YR A NU.pre NU.fn):=fun _=>by kernel_rfl
theorem ang (A:Alg) (fV:Ct A.ah jJ) (wI:Ct A.ah BA): @Ru aH.z X E A [] .u MQ Tryz.f84 [(85,⟨_,fV⟩),(86,⟨_,wI⟩)] (YS A fV.pre fV.fn wI.pre wI.fn):=fun _=>by kernel_rfl
theorem anh (A:Alg) (NV:Ct A.ah MQ): @Ru aH.z X E A [] (.seq .u (.seq .u (.seq (.seq .u (.block (.loop ⟨[(1,.c (.rows false .ev)),(2,.c (.fn 84 [])),(15,.c (.rows false .ev)),(16,.c (.int .i64)),(17,.c (.int .i64))],[]⟩ .u))) .u))) MR Tryz.f83 [(84,⟨_,NV⟩)] (YV A NV.pre NV.fn):=fun _=>by kernel_rfl
theorem ani (A:Alg) (fV:Ct A.ah jJ) (wI:Ct A.ah BA) (NW:Ct A.ah MR): @Ru aH.z X E A [] .u MS Tryz.f32 [(85,⟨_,fV⟩),(86,⟨_,wI⟩),(83,⟨_,NW⟩)] (YW A fV.pre fV.fn wI.pre wI.fn NW.pre NW.fn):=fun _=>by kernel_rfl
theorem anj (A:Alg) (wH:Ct A.ah Bd) (NY:Ct A.ah Ma) (NZ:Ct A.ah Mq) (N7:Ct A.ah ML) (N8:Ct A.ah MS): @Ru aH.z X E A [] .u MU Tryz.f9 [(28,⟨_,wH⟩),(29,⟨_,NY⟩),(30,⟨_,NZ⟩),(31,⟨_,N7⟩),(32,⟨_,N8⟩)] (YX A wH.pre wH.fn NY.pre NY.fn NZ.pre NZ.fn N7.pre N7.fn N8.pre N8.fn):=fun _=>by kernel_rfl
theorem ank (A:Alg): @Ru aH.z X E A [] .u MV Tryz.f87 [] (YZ A):=fun _=>by kernel_rfl
theorem anl (A:Alg) (N9:Ct A.ah MV): @Ru aH.z X E A [(6,[(0,([0],[])),(1,([5],[])),(2,([17,18],[])),(3,([19],[])),(4,([1],[])),(5,([5],[])),(6,([21,22],[])),(7,([23],[])),(8,([20,24],[])),(9,([25],[]))])] (.seq .u (.seq .u (.seq (.seq .u (.block (.loop ⟨[(0,.c (.rows false .iop)),(1,.c (.rows false .iop)),(5,.c (.int .i64))],[]⟩ .u))) .u))) MW Tryz.f33 [(87,⟨_,N9⟩)] (Y0 A N9.pre N9.fn):=fun _=>by kernel_rfl
theorem anm (A:Alg) (Oa:Ct A.ah MW): @Ru aH.z X E A [] .u MX Tryz.f10 [(33,⟨_,Oa⟩)] (Y1 A Oa.pre Oa.fn):=fun _=>by kernel_rfl
theorem ano (A:Alg) (Ob:Ct A.ah MU) (Oc:Ct A.ah MX) (Od:Ct A.ah LQ) (Oe:Ct A.ah LY) (Gq:Ct A.ah Ez): @Ru aH.z X E A [(8,[(0,([2],[])),(2,([3],[])),(1,([20],[2])),(3,([22],[])),(4,([21,23],[])),(5,([24],[]))]),(14,[(0,([7],[])),(1,([2],[])),(2,([36],[0])),(3,([35,37],[])),(4,([38],[]))]),(16,[(0,([8],[])),(1,([3],[])),(2,([41],[0])),(3,([40,42],[])),(4,([43],[]))])] .u acg Tryz.f3 [(9,⟨_,Ob⟩),(10,⟨_,Oc⟩),(6,⟨_,Od⟩),(8,⟨_,Oe⟩),(7,⟨_,Gq⟩)] (Y2 A Ob.pre Ob.fn Oc.pre Oc.fn Od.pre Od.fn Oe.pre Oe.fn Gq.pre Gq.fn):=fun _=>by kernel_rfl
end Go.TX.Seat
namespace Go.TX.Seat
open Go Go.AE Go.TX Go.TX.F Go.Proofs
set_option maxRecDepth 100000
end Go.TX.Seat
namespace Go.TX
open Go Go.AE
theorem agI (x y:Int):aZ .lss x y=decide (x<y):=rfl
theorem agJ (x y:Int):aZ .leq x y=decide (x≤y):=rfl
theorem agK (x y:Int):aZ .gtr x y=decide (y<x):=rfl
theorem agL (x y:Int):aZ .geq x y=decide (y≤x):=rfl
theorem agM (x y:Int):aZ .eql x y=decide (x=y):=rfl
theorem agN (x y:Int):aZ .neq x y= !decide (x=y):=rfl
theorem agO (k:IntKind) (x y:Int):jo .add k x y=k.wrap (x+y):=rfl
theorem agP (k:IntKind) (x y:Int):jo .sub k x y=k.wrap (x-y):=rfl
theorem agQ (k:IntKind) (x y:Int):jo .mul k x y=k.wrap (x*y):=rfl
theorem agR (k:IntKind) (x y:Int):jo .quo k x y=k.wrap (x.tdiv y):=rfl
theorem Y3 (k:IntKind) (x y:Int):jo .rem k x y=x.tmod y:=rfl
theorem w64 {x:Int} (h1: -9223372036854775808≤x) (h2:x≤9223372036854775807):IntKind.i64.wrap x=x:=IntWalk.i64_in _ (by omega)
theorem abt (m:aj):jO .mono 0 m=m.bD:=rfl
theorem abu (m:aj):oG .mono 1 .i64 m=m.atoms:=rfl
theorem agS (p:List aj):oG .poly 0 .mono p=p:=rfl
theorem anp (p:List Atom):oG .tab 0 .atom p=p:=rfl
theorem agT (p:List Int):oG .ints 0 .i64 p=p:=rfl
theorem abv (m:Atom):jO .atom 0 m=m.kind:=rfl
theorem abw (m:Atom):jO .atom 1 m=m.k:=rfl
theorem abx (m:Atom):oG .atom 2 .mono m=m.x:=rfl
theorem aby (m:Atom):oG .atom 3 .mono m=m.y:=rfl
theorem anq (n:Int):jO .i64 0 n=n:=rfl
theorem arx (n:Int):jO .u8 0 n=n:=rfl
theorem abz (x):Co.mk .mono x=⟨x.1,x.2.1⟩:=rfl
theorem abA (x):Co.mk .poly x=x.1:=rfl
theorem agU (x):Co.mk .tab x=x.1:=rfl
theorem abB (x):Co.mk .ints x=x.1:=rfl
theorem agV (x):Co.mk .i64 x=x.1:=rfl
theorem abC (x):Co.mk .atom x=⟨x.1,x.2.1,x.2.2.1,x.2.2.2.1⟩:=rfl
theorem au {α ρ:Type} {f:α→(α ⊕ ρ→Prop)→Prop} {x:α} {Q:ρ→Prop} (I:α→Prop) (μ:α→Nat) (h0:I x) (hs:∀y,I y→f y (BS (fun z _=>I z∧μ z<μ y) Q)):Tp f x Q:=⟨I,μ,h0,hs⟩
theorem Y4 {α ρ:Type} (k:α→(ρ→Prop)→Prop) (Q:ρ→Prop) (x:α):BS k Q (.inl x)=k x Q:=rfl
theorem Y5 {α ρ:Type} (k:α→(ρ→Prop)→Prop) (Q:ρ→Prop) (r:ρ):BS k Q (.inr r)=Q r:=rfl
theorem getD_lt {α:Type} {xs:List α} {d:α} {i:Nat} (h:i<xs.length):xs.getD i d=xs[i]:=by simp [List.getD,h]
theorem eO {α:Type} {xs:List α} {d:α} {i:Int} (h0:0≤i) (h:i<xs.length):xs.getD i.toNat d∈xs:=by
 rw [getD_lt (by omega)];exact List.getElem_mem _
theorem RR:(∀(x y:Int),aZ BinOp.lss x y=decide (x<y))∧(∀(x y:Int),aZ BinOp.leq x y=decide (x≤y))∧(∀(x y:Int),aZ BinOp.gtr x y=decide (y<x))∧(∀(x y:Int),aZ BinOp.geq x y=decide (y≤x))∧(∀(x y:Int),aZ BinOp.eql x y=decide (x=y))∧(∀(x y:Int),aZ BinOp.neq x y= !decide (x=y))∧(∀(k:IntKind) (x y:Int),jo BinOp.add k x y=k.wrap (x+y))∧(∀(k:IntKind) (x y:Int),jo BinOp.sub k x y=k.wrap (x-y))∧(∀(k:IntKind) (x y:Int),jo BinOp.mul k x y=k.wrap (x*y))∧(∀(k:IntKind) (x y:Int),jo BinOp.quo k x y=k.wrap (x.tdiv y))∧(∀(k:IntKind) (x y:Int),jo BinOp.rem k x y=x.tmod y)∧(∀ {x:Int}, -9223372036854775808≤x→x≤9223372036854775807→IntKind.i64.wrap x=x)∧(∀(m:aj),jO Co.mono 0 m=m.bD)∧(∀(m:aj),oG Co.mono 1 Co.i64 m=m.atoms)∧(∀(p:List aj),oG Co.poly 0 Co.mono p=p)∧(∀(p:List Atom),oG Co.tab 0 Co.atom p=p)∧(∀(p:List Int),oG Co.ints 0 Co.i64 p=p)∧(∀(m:Atom),jO Co.atom 0 m=m.kind)∧(∀(m:Atom),jO Co.atom 1 m=m.k)∧(∀(m:Atom),oG Co.atom 2 Co.mono m=m.x)∧(∀(m:Atom),oG Co.atom 3 Co.mono m=m.y)∧(∀(n:Int),jO Co.i64 0 n=n)∧(∀(n:Int),jO Co.u8 0 n=n)∧(∀(x:iy Co.mono.vJ),Co.mono.mk x=aj.mk x.fst x.snd.fst)∧(∀(x:iy Co.poly.vJ),Co.poly.mk x=x.fst)∧(∀(x:iy Co.tab.vJ),Co.tab.mk x=x.fst)∧(∀(x:iy Co.ints.vJ),Co.ints.mk x=x.fst)∧(∀(x:iy Co.i64.vJ),Co.i64.mk x=x.fst)∧(∀(x:iy Co.atom.vJ),Co.atom.mk x=Atom.mk x.fst x.snd.fst x.snd.snd.fst x.snd.snd.snd.fst)∧(∀ {α ρ:Type} (k:α→(ρ→Prop)→Prop) (Q:ρ→Prop) (x:α),BS k Q (Sum.inl x)=k x Q)∧(∀ {α ρ:Type} (k:α→(ρ→Prop)→Prop) (Q:ρ→Prop) (r:ρ),BS k Q (Sum.inr r)=Q r)∧(∀(c f:Bool),(bif c then true else f)=(c || f))∧(∀(c t:Bool),(bif c then t else false)=(c&&t))∧(∀(c f:Bool),(bif c then false else f)=(!c&&f))∧(∀(c t:Bool),(bif c then t else true)=(!c || t))∧(∀(a b:Bool),((a || b)=true)=(a=true∨b=true))∧(∀ {x y:Bool},(x || y)=false↔x=false∧y=false)∧(∀(a b:Bool),((a&&b)=true)=(a=true∧b=true))∧(∀ {p:Prop} [inst:Decidable p],(decide p=true)=p)∧(∀ {p:Prop} {x:Decidable p},decide p=false↔¬p)∧(∀(b:Bool),((!b)=true)=(b=false))∧(∀(b:Bool),((!b)=false)=(b=true))∧(∀(b:Bool),(!!b)=b)∧(∀(p:Prop),(True∧p)=p)∧(∀(p:Prop),(p∧True)=p)∧(∀ {α:Type} [inst:LE α] {x y:α},x≥y↔y≤x)∧(¬True)=False∧(¬False)=True∧(false=true)=False∧(true=false)=False∧(∀(p:Prop),(False→p)=True)∧(∀(p:Prop),(True→p)=p)∧(∀(α:Prop),(α→True)=True)∧(∀(α:Type),(∀(a:α),True)=True)∧(∀(p:Prop),(False∨p)=p)∧(∀(p:Prop),(p∨False)=p)∧(∀(p:Prop),(True∨p)=True)∧(∀(p:Prop),(p∨True)=True)∧(∀ {α:Type} {x:Decidable True} (t e:α),(if True then t else e)=t)∧∀ {α:Type} {x:Decidable False} (t e:α),(if False then t else e)=e:=And.intro (@agI)<| And.intro (@agJ)<| And.intro (@agK)<| And.intro (@agL)<| And.intro (@agM)<| And.intro (@agN)<| And.intro (@agO)<| And.intro (@agP)<| And.intro (@agQ)<| And.intro (@agR)<| And.intro (@Y3)<| And.intro (@w64)<| And.intro (@abt)<| And.intro (@abu)<| And.intro (@agS)<| And.intro (@anp)<| And.intro (@agT)<| And.intro (@abv)<| And.intro (@abw)<| And.intro (@abx)<| And.intro (@aby)<| And.intro (@anq)<| And.intro (@arx)<| And.intro (@abz)<| And.intro (@abA)<| And.intro (@agU)<| And.intro (@abB)<| And.intro (@agV)<| And.intro (@abC)<| And.intro (@Y4)<| And.intro (@Y5)<| And.intro (@Bool.cond_true_left)<| And.intro (@Bool.cond_false_right)<| And.intro (@Bool.cond_false_left)<| And.intro (@Bool.cond_true_right)<| And.intro (@Bool.or_eq_true)<| And.intro (@Bool.or_eq_false_iff)<| And.intro (@Bool.and_eq_true)<| And.intro (@decide_eq_true_eq)<| And.intro (@decide_eq_false_iff_not)<| And.intro (@Bool.not_eq_true')<| And.intro (@Bool.not_eq_false')<| And.intro (@Bool.not_not)<| And.intro (@true_and)<| And.intro (@and_true)<| And.intro (@ge_iff_le.{0})<| And.intro (@not_true_eq_false)<| And.intro (@not_false_eq_true)<| And.intro (@Bool.false_eq_true)<| And.intro (@Bool.true_eq_false)<| And.intro (@false_implies)<| And.intro (@true_implies)<| And.intro (@implies_true.{0})<| And.intro (@implies_true.{1})<| And.intro (@false_or)<| And.intro (@or_false)<| And.intro (@true_or)<| And.intro (@or_true)<| And.intro (@if_true.{1})<| @if_false.{1}
end Go.TX
namespace Go.TX.F
open Go Go.AE Go.TX
def inB (a lo hi:Int):Bool:=decide (lo≤a)&&decide (a≤hi)
theorem acw (a b c:Int):Xh (std 0) (a,b,c,()) (fun y=>y=(inB a b c,())):=by
 dsimp only [Xh,Alg.cl,Alg.cg,Alg.rb,Alg.bd,Alg.l1,Tup.q,Tup.o]
 simp (disch:=omega) only [RR]
 rfl
theorem acy {p:Int×Int×Int×Unit→Bool} {f:Int×Int×Int×Unit→Bool×Unit} (hp:∀a b c,p (a,b,c,())=true) (hf:∀a b c,f (a,b,c,())=(inB a b c,())) (a:Int):Xj (std 0) p f (a,()) (fun y=>y=(inB a 0 65535,())):=by
 dsimp only [Xj,Alg.cl,Alg.cg,Alg.rb,Alg.bd,Alg.l1,Tup.q,Tup.o]
 simp (disch:=omega) only [RR,hp,hf]
theorem acz {p:Int×Int×Int×Unit→Bool} {f:Int×Int×Int×Unit→Bool×Unit} (hp:∀a b c,p (a,b,c,())=true) (hf:∀a b c,f (a,b,c,())=(inB a b c,())) (a:Int):Xl (std 0) p f (a,()) (fun y=>y=(inB a 1 5,())):=by
 dsimp only [Xl,Alg.cl,Alg.cg,Alg.rb,Alg.bd,Alg.l1,Tup.q,Tup.o]
 simp (disch:=omega) only [RR,hp,hf]
theorem acA {p:Int×Int×Int×Unit→Bool} {f:Int×Int×Int×Unit→Bool×Unit} (hp:∀a b c,p (a,b,c,())=true) (hf:∀a b c,f (a,b,c,())=(inB a b c,())) (a:Int):Xk (std 0) p f (a,()) (fun y=>y=(inB a 0 3,())):=by
 dsimp only [Xk,Alg.cl,Alg.cg,Alg.rb,Alg.bd,Alg.l1,Tup.q,Tup.o]
 simp (disch:=omega) only [RR,hp,hf]
theorem anr (a:Int):aeW (std 0) (a,()) (fun y=>y=(false,())):=by
 dsimp only [aeW,Alg.cl,Alg.cg,Alg.rb,Alg.bd,Alg.l1,Tup.q,Tup.o]
 simp (disch:=omega) only [RR]
 simp
def gK (a b:Int):Int:=if a<b then-1 else if b<a then 1 else 0
theorem arz {p:Int×Unit→Bool} {f:Int×Unit→Bool×Unit} (hp:∀a,p (a,())=true) (hf:∀a,f (a,())=(false,())) (a b:Int):aeX (std 0) p f (a,b,()) (fun y=>y=(gK a b,())):=by
 dsimp only [aeX,Alg.cl,Alg.cg,Alg.rb,Alg.bd,Alg.l1,Tup.q,Tup.o]
 simp (disch:=omega) only [RR,hp,hf]
 unfold gK
 refine⟨fun h=>by simp [h],fun h=>⟨fun h2=>by simp [h,h2],fun h2=>by simp [h,h2]⟩⟩
theorem arA {p:Int×Unit→Bool} {f:Int×Unit→Bool×Unit} (hp:∀a,p (a,())=true) (hf:∀a,f (a,())=(false,())) (a b:Int):ae1 (std 0) p f (a,b,()) (fun y=>y=(decide (a<b),())):=by
 dsimp only [ae1,Alg.cl,Alg.cg,Alg.rb,Alg.bd,Alg.l1,Tup.q,Tup.o]
 simp (disch:=omega) only [RR,hp,hf]
 simp
def or2 (a b:Int):Int:=if a≠0 then a else b
theorem ant (a b:Int):aeY (std 0) ([a,b],()) (fun y=>y=(or2 a b,())):=by
 dsimp only [aeY,Alg.cl,Alg.cg,Alg.rb,Alg.bd,Alg.l1,Tup.q,Tup.o]
 refine au (fun(y:Int×List Int×Int×Int×Unit)=>y.1=0∧y.2.1=[a,b]∧y.2.2.1=2∧0≤y.2.2.2.1∧y.2.2.2.1≤2∧(0<y.2.2.2.1→a=0)∧(1<y.2.2.2.1→b=0)) (fun y=>(2-y.2.2.2.1).toNat) ⟨rfl,rfl,rfl,by simp,by simp,fun h=>absurd h (by simp),fun h=>absurd h (by simp)⟩ ?_
 rintro⟨(z:Int),(l:List Int),(n:Int),(i:Int),⟨⟩⟩ hI
 dsimp only at hI ⊢
 obtain⟨rfl,rfl,rfl,h1,h2,h3,h4⟩:=hI
 simp (disch:=omega) only [RR]
 have hi:i=0∨i=1∨i=2:=by omega
 rcases hi with rfl | rfl | rfl
 ·by_cases ha:a=0<;>simp [or2,ha]<;>(try omega)
 ·have:=h3 (by omega)
  by_cases hb:b=0<;>simp [or2,this,hb]<;>(try omega)
 ·have:=h3 (by omega)
  have:=h4 (by omega)
  simp [or2, *]
def jZ:List Int→List Int→Int
 | [],[]=>0
 | [],_::_=> -1
 | _::_,[]=>1
 | a::az,b::bs=>if gK a b≠0 then gK a b else jZ az bs
theorem Ak (a b:List Int) (i:Nat):(h1:i<a.length)→(h2:i<b.length)→jZ (a.drop i) (b.drop i)=if gK a[i] b[i]≠0 then gK a[i] b[i]else jZ (a.drop (i+1)) (b.drop (i+1)):=by
 intro h1 h2
 rw [List.drop_eq_getElem_cons h1,List.drop_eq_getElem_cons h2];rfl
theorem Y6 (l:List Int) (h:l≠ []):jZ l []=1:=by cases l<;>simp_all [jZ]
theorem anu {p:Int×Int×Unit→Bool} {f:Int×Int×Unit→Int×Unit} (hp:∀a b,p (a,b,())=true) (hf:∀a b,f (a,b,())=(gK a b,())) (a b:List Int) (ha:a.length<1000000000):
  XG (std 0) p f (a,b,()) (fun y=>y=(jZ a b,())):=by
 dsimp only [XG,Alg.cl,Alg.cg,Alg.rb,Alg.bd,Alg.l1,Tup.q,Tup.o]
 refine au (fun(y:List Int×List Int×List Int×Int×Int×Unit)=>y.1=a∧y.2.1=b∧y.2.2.1=a∧y.2.2.2.1=a.length∧0≤y.2.2.2.2.1∧y.2.2.2.2.1≤a.length∧y.2.2.2.2.1≤b.length∧jZ a b=jZ (a.drop y.2.2.2.2.1.toNat) (b.drop y.2.2.2.2.1.toNat))
  (fun y=>(a.length-y.2.2.2.2.1).toNat) ⟨rfl,rfl,rfl,rfl,by simp,by simp,by simp,by simp⟩ ?_
 rintro⟨(l1:List Int),(l2:List Int),(l3:List Int),(n:Int),(i:Int),⟨⟩⟩ hI
 dsimp only at hI ⊢
 obtain⟨rfl,rfl,rfl,rfl,h1,h2,h3,h4⟩:=hI
 simp (disch:=omega) only [RR,hp,hf]
 refine⟨fun hi=>⟨h1,hi,fun hj=> ?_,fun hj=>⟨h1,by omega,fun hc=> ?_,fun hc=> ?_⟩⟩,fun hi=>⟨fun hj=> ?_,fun hj=> ?_⟩⟩
 ·rw [h4,List.drop_eq_nil_of_le (show l2.length≤i.toNat by omega),Y6 _ (by simp;omega)]
 ·rw [h4,Ak l3 l2 i.toNat (by omega) (by omega)]
  rw [getD_lt (by omega),getD_lt (by omega)]at hc
  rw [getD_lt (by omega),getD_lt (by omega),if_pos hc]
 ·rw [getD_lt (by omega),getD_lt (by omega)]at hc
  refine⟨⟨by omega,by omega,by omega,?_⟩,by omega⟩
  rw [h4,Ak l3 l2 i.toNat (by omega) (by omega),if_neg (by simpa using hc),show(i+1).toNat=i.toNat+1 by omega]
 ·rw [h4,List.drop_eq_nil_of_le (show l3.length≤i.toNat by omega)]
  have:∃q r,l2.drop i.toNat=q::r:=by
   cases hq:l2.drop i.toNat with
   | nil=>have:=congrArg List.length hq;simp at this;omega
   | cons q r=>exact⟨q,r,rfl⟩
  obtain⟨q,r,hq⟩:=this
  rw [hq];rfl
 ·rw [h4,List.drop_eq_nil_of_le (show l3.length≤i.toNat by omega),List.drop_eq_nil_of_le (show l2.length≤i.toNat by omega)];rfl
def dJ (a b:List Int):Int:=or2 (gK a.length b.length) (jZ a b)
theorem anv {p1:Int×Int×Unit→Bool} {f1:Int×Int×Unit→Int×Unit} (hp1:∀a b,p1 (a,b,())=true) (hf1:∀a b,f1 (a,b,())=(gK a b,()))
  {p2:List Int×List Int×Unit→Bool} {f2:List Int×List Int×Unit→Int×Unit} (hp2:∀a b,a.length<1000000000→p2 (a,b,())=true) (hf2:∀a b,a.length<1000000000→f2 (a,b,())=(jZ a b,()))
  {p3:List Int×Unit→Bool} {f3:List Int×Unit→Int×Unit} (hp3:∀a b,p3 ([a,b],())=true) (hf3:∀a b,f3 ([a,b],())=(or2 a b,())) (a b:List Int) (ha:a.length<1000000000):
  XH (std 0) p3 f3 p1 f1 p2 f2 (a,b,()) (fun y=>y=(dJ a b,())):=by
 dsimp only [XH,Alg.cl,Alg.cg,Alg.rb,Alg.bd,Alg.l1,Tup.q,Tup.o]
 simp (disch:=omega) only [RR,hp1,hf1,hp2 a b ha,hf2 a b ha,hp3,hf3]
 rfl
end Go.TX.F
namespace Go.TX.F
open Go Go.AE Go.TX
noncomputable def bp (P:Prop):Bool:= @decide P (Classical.propDecidable P)
theorem dH {P:Prop} (h:P):bp P=true:=by simp [bp,h]
theorem cZ {P:Prop} (h:¬P):bp P=false:=by simp [bp,h]
theorem bg {P:Prop}:bp P=true↔P:=by simp [bp]
theorem jd {P:Prop}:bp P=false↔¬P:=by simp [bp]
theorem o8 {P Q:Prop}:bp (P∧Q)=(bp P&&bp Q):=by by_cases h1:P<;>by_cases h2:Q<;>simp [bp,h1,h2]
theorem o9 {P Q:Prop} (h:P↔Q):bp P=bp Q:=by simp [bp,h]
def All (n:Int) (G:Int→Prop):Prop:=∀j,0≤j→j<n→G j
theorem All.zero {G:Int→Prop}:All 0 G:=fun j h1 h2=>absurd h2 (by omega)
theorem All.snoc {n:Int} {G:Int→Prop} (h:All n G) (hi:G n):All (n+1) G:=fun j h1 h2=>by
 by_cases hj:j=n
 ·exact hj▸hi
 ·exact h j h1 (by omega)
theorem All.le {n m:Int} {G:Int→Prop} (h:All n G) (hi:m≤n):All m G:=fun j h1 h2=>h j h1 (by omega)
def Idx (n:Int) (G:Int→Prop) (r:Int):Prop:=(r= -1∧All n (fun j=>¬G j))∨(0≤r∧r<n∧G r∧All r (fun j=>¬G j))
theorem Idx.ge {n:Int} {G:Int→Prop} {r:Int} (h:Idx n G r):(0≤r)↔¬All n (fun j=>¬G j):=by
 rcases h with⟨rfl,h⟩ | ⟨h1,h2,h3,h4⟩
 ·simp [h]
 ·simp only [h1,true_iff];exact fun h=>h r h1 h2 h3
def Srt (l:List Int):Prop:=All (l.length-1) (fun i=>l.getD i.toNat default≤l.getD (i+1).toNat default)
theorem agW {p:Int×Int×Unit→Bool} {f:Int×Int×Unit→Bool×Unit} (hp:∀a b,p (a,b,())=true) (hf:∀a b,f (a,b,())=(decide (a<b),())) (a:List Int) (ha:a.length<1000000000):
  Ra (std 0) p f (a,()) (fun y=>y=(bp (Srt a),())):=by
 dsimp only [Ra,Alg.cl,Alg.cg,Alg.rb,Alg.bd,Alg.l1,Tup.q,Tup.o]
 simp (disch:=omega) only [RR,hp,hf]
 refine au (fun(y:List Int×Int×Unit)=>y.1=a∧ -1≤y.2.1∧y.2.1≤a.length-1∧∀j,y.2.1≤j→0≤j→j< (a.length:Int)-1→a.getD j.toNat default≤a.getD (j+1).toNat default) (fun y=>(y.2.1+1).toNat) ⟨rfl,by simp;omega,by simp,by simp;omega⟩ ?_
 rintro⟨(l:List Int),(i:Int),⟨⟩⟩ hI
 dsimp only at hI ⊢
 obtain⟨rfl,h1,h2,h3⟩:=hI
 simp (disch:=omega) only [RR,hp,hf]
 refine⟨fun h4=>⟨by omega,by omega,by omega,by omega,fun h5=> ?_,fun h5=>⟨⟨by omega,by omega,fun j h6 h7 h8=> ?_⟩,by omega⟩⟩,fun h4=> ?_⟩
 ·rw [cZ]
  intro h;have:=h (i-1) (by omega) (by omega)
  dsimp only at this
  rw [show i-1+1=i by omega]at this;omega
 ·by_cases hj:j=i-1
  ·subst hj;rw [show i-1+1=i by omega];omega
  ·exact h3 j (by omega) h7 h8
 ·rw [dH]
  exact fun j h6 h7=>h3 j (by omega) h6 h7
theorem acB (a n:Int):XB (std 0) (a,n,()) (fun y=>y=(decide (n≤a),n,())):=by
 dsimp only [XB,Alg.cl,Alg.cg,Alg.rb,Alg.bd,Alg.l1,Tup.q,Tup.o]
 simp (disch:=omega) only [RR]
theorem agX {p:Int×Int×Unit→Bool} {f:Int×Int×Unit→Bool×Int×Unit} (hp:∀a b,p (a,b,())=true) (hf:∀a b,f (a,b,())=(decide (b≤a),b,())) (a:List Int) (n:Int) (ha:a.length<1000000000):
  Q9 (std 0) p f (a,n,()) (fun y=>Idx a.length (fun i=>n≤a.getD i.toNat default) y.1∧y.2.1=n):=by
 dsimp only [Q9,Alg.cl,Alg.cg,Alg.rb,Alg.bd,Alg.l1,Tup.q,Tup.o]
 refine au (fun(y:List Int×Int×Int×Int×Unit)=>y.1=a∧y.2.1=a.length∧y.2.2.2.1=n∧0≤y.2.2.1∧y.2.2.1≤a.length∧All y.2.2.1 (fun i=>¬n≤a.getD i.toNat default)) (fun y=>(a.length-y.2.2.1).toNat) ⟨rfl,rfl,rfl,by simp,by simp,All.zero⟩ ?_
 rintro⟨(l:List Int),(m:Int),(i:Int),(n':Int),⟨⟩⟩ hI
 dsimp only at hI ⊢
 obtain⟨rfl,rfl,rfl,h1,h2,h3⟩:=hI
 simp (disch:=omega) only [RR,hp,hf]
 refine⟨fun h4=>⟨by omega,by omega,fun h5=> ?_,fun h5=>⟨⟨by omega,by omega,h3.snoc h5⟩,by omega⟩⟩,fun h4=> ?_⟩
 ·exact Or.inr ⟨by omega,by omega,h5,h3⟩
 ·exact Or.inl ⟨rfl,h3.le (by omega)⟩
theorem anw {p:List Int×Int×Unit→Bool} {f:List Int×Int×Unit→Int×Int×Unit} (hp:∀a b,a.length<1000000000→p (a,b,())=true)
  (hf:∀a n,a.length<1000000000→Idx a.length (fun i=>n≤a.getD i.toNat default) (f (a,n,())).1∧(f (a,n,())).2.1=n) (a:List Int) (n:Int) (ha:a.length<1000000000):
  XC (std 0) p f (a,n,()) (fun y=>y=(bp (¬All a.length (fun i=>¬n≤a.getD i.toNat default)),n,())):=by
 obtain⟨h1,h2⟩:=hf a n ha
 dsimp only [XC,Alg.cl,Alg.cg,Alg.rb,Alg.bd,Alg.l1,Tup.q,Tup.o]
 simp (disch:=omega) only [RR,hp a n ha,h2]
 rw [show decide ((0:Int)≤(f (a,n,())).1)=bp (¬All a.length (fun i=>¬n≤a.getD i.toNat default))from ?_]
 rw [←o9 h1.ge];simp [bp]
def JE (n:Int) (m:aj):Prop:=All m.atoms.length (fun i=>¬n≤m.atoms.getD i.toNat default)
def aW (p:List aj) (n:Int):Prop:=All p.length (fun i=>JE n (p.getD i.toNat default))
def Sh (p:List aj):Prop:=p.length<1000000000∧∀m∈p,m.atoms.length<1000000000
theorem Sh.at {p:List aj} (h:Sh p) (n:Nat):(p.getD n default).atoms.length<1000000000:=by
 by_cases h1:n<p.length
 ·rw [getD_lt h1];exact h.2 _ (List.getElem_mem _)
 ·simp only [List.getD,List.getElem?_eq_none (by omega:p.length≤n)];decide
theorem anx {p:List Int×Int×Unit→Bool} {f:List Int×Int×Unit→Bool×Int×Unit} (hp:∀a b,a.length<1000000000→p (a,b,())=true)
  (hf:∀a n,a.length<1000000000→f (a,n,())=(bp (¬All a.length (fun i=>¬n≤a.getD i.toNat default)),n,())) (a:List aj) (n:Int) (ha:Sh a):
  XD (std 0) p f (a,n,()) (fun y=>y=(bp (aW a n),())):=by
 have hlen:=ha.1
 dsimp only [XD,Alg.cl,Alg.cg,Alg.rb,Alg.bd,Alg.l1,Tup.q,Tup.o]
 refine au (fun(y:List aj×Int×Int×Int×Unit)=>y.1=a∧y.2.1=a.length∧y.2.2.2.1=n∧0≤y.2.2.1∧y.2.2.1≤a.length∧All y.2.2.1 (fun i=>JE n (a.getD i.toNat default))) (fun y=>(a.length-y.2.2.1).toNat) ⟨rfl,rfl,rfl,by simp,by simp,All.zero⟩ ?_
 rintro⟨(l:List aj),(m:Int),(i:Int),(n':Int),⟨⟩⟩ hI
 dsimp only at hI ⊢
 obtain⟨rfl,rfl,rfl,h1,h2,h3⟩:=hI
 simp (disch:=omega) only [RR]
 refine⟨fun h4=> ?_,fun h4=> ?_⟩
 ·have h5:=ha.at i.toNat
  rw [hp _ _ h5,hf _ _ h5]
  refine⟨by omega,by omega,rfl,fun h6=> ?_,fun h6=>⟨⟨rfl,by omega,by omega,h3.snoc ?_⟩,by omega⟩⟩
  ·rw [cZ (fun h=> ?_)]
   exact bg.1 h6 (h i h1 h4)
  ·exact Classical.byContradiction (fun h=>jd.1 h6 h)
 ·rw [dH (show aW l n' from h3.le (by omega))]
theorem acC (m:aj):XK (std 0) (m,()) (fun y=>y=(bp (0<m.atoms.length∧m.atoms.getD 0 default<0),())):=by
 dsimp only [XK,Alg.cl,Alg.cg,Alg.rb,Alg.bd,Alg.l1,Tup.q,Tup.o]
 simp (disch:=omega) only [RR]
 refine⟨by omega,by omega,?_⟩
 rw [o8]
 by_cases h1:0<m.atoms.length
 ·by_cases h2:m.atoms.getD 0 default<0
  ·rw [dH h1,dH h2,show Int.toNat 0=0 from rfl,decide_eq_true h2,decide_eq_true (by omega)]
  ·rw [dH h1,cZ h2,show Int.toNat 0=0 from rfl,decide_eq_false h2,Bool.and_false,Bool.and_false]
 ·rw [cZ h1,decide_eq_false (by omega),Bool.false_and,Bool.false_and]
theorem agY {p:aj×Unit→Bool} {f:aj×Unit→Bool×Unit} (G:aj→Prop) (hp:∀a,p (a,())=true) (hf:∀a,f (a,())=(bp (G a),())) (a:List aj) (ha:a.length<1000000000):
  Rb (std 0) p f (a,()) (fun y=>Idx a.length (fun i=>G (a.getD i.toNat default)) y.1):=by
 dsimp only [Rb,Alg.cl,Alg.cg,Alg.rb,Alg.bd,Alg.l1,Tup.q,Tup.o]
 refine au (fun(y:List aj×Int×Int×Unit)=>y.1=a∧y.2.1=a.length∧0≤y.2.2.1∧y.2.2.1≤a.length∧All y.2.2.1 (fun i=>¬G (a.getD i.toNat default))) (fun y=>(a.length-y.2.2.1).toNat) ⟨rfl,rfl,by simp,by simp,All.zero⟩ ?_
 rintro⟨(l:List aj),(m:Int),(i:Int),⟨⟩⟩ hI
 dsimp only at hI ⊢
 obtain⟨rfl,rfl,h1,h2,h3⟩:=hI
 simp (disch:=omega) only [RR,hp,hf]
 refine⟨fun h4=>⟨by omega,by omega,fun h5=> ?_,fun h5=>⟨⟨by omega,by omega,h3.snoc (jd.1 h5)⟩,by omega⟩⟩,fun h4=> ?_⟩
 ·exact Or.inr ⟨by omega,by omega,bg.1 h5,h3⟩
 ·exact Or.inl ⟨rfl,h3.le (by omega)⟩
theorem anz {p:List aj×Unit→Bool} {f:List aj×Unit→Int×Unit} (G:aj→Prop) (hp:∀a,a.length<1000000000→p (a,())=true)
  (hf:∀a,a.length<1000000000→Idx a.length (fun i=>G (a.getD i.toNat default)) (f (a,())).1) (a:List aj) (ha:a.length<1000000000):
  XL (std 0) p f (a,()) (fun y=>y=(bp (¬All a.length (fun i=>¬G (a.getD i.toNat default))),())):=by
 have h1:=hf a ha
 dsimp only [XL,Alg.cl,Alg.cg,Alg.rb,Alg.bd,Alg.l1,Tup.q,Tup.o]
 simp (disch:=omega) only [RR,hp a ha]
 rw [show decide ((0:Int)≤(f (a,())).1)=bp (¬All a.length (fun i=>¬G (a.getD i.toNat default)))from ?_]
 rw [←o9 h1.ge];simp [bp]
def mOk (m:aj):Prop:=(1≤m.bD∧m.bD≤65535)∧m.atoms.length≤4∧Srt m.atoms
def aL (p:List aj):Prop:=All p.length (fun i=>mOk (p.getD i.toNat default)∧(0<i→dJ (p.getD (i-1).toNat default).atoms (p.getD i.toNat default).atoms<0))∧p.length≤12∧aW p 200
 ∧All p.length (fun i=>¬(0< (p.getD i.toNat default).atoms.length∧(p.getD i.toNat default).atoms.getD 0 default<0))
theorem anA {p1:Int×Int×Int×Unit→Bool} {f1:Int×Int×Int×Unit→Bool×Unit} (hp1:∀a b c,p1 (a,b,c,())=true) (hf1:∀a b c,f1 (a,b,c,())=(inB a b c,()))
  {p2:List aj×Int×Unit→Bool} {f2:List aj×Int×Unit→Bool×Unit} (hp2:∀a n,Sh a→p2 (a,n,())=true) (hf2:∀a n,Sh a→f2 (a,n,())=(bp (aW a n),()))
  {p3:List Int×Unit→Bool} {f3:List Int×Unit→Bool×Unit} (hp3:∀a,a.length<1000000000→p3 (a,())=true) (hf3:∀a,a.length<1000000000→f3 (a,())=(bp (Srt a),()))
  {p4:List Int×List Int×Unit→Bool} {f4:List Int×List Int×Unit→Int×Unit} (hp4:∀a b,a.length<1000000000→p4 (a,b,())=true) (hf4:∀a b,a.length<1000000000→f4 (a,b,())=(dJ a b,()))
  {p5:List aj×Unit→Bool} {f5:List aj×Unit→Bool×Unit} (hp5:∀a,a.length<1000000000→p5 (a,())=true) (hf5:∀a,a.length<1000000000→f5 (a,())=(bp (¬All a.length (fun i=>¬(0< (a.getD i.toNat default).atoms.length∧(a.getD i.toNat default).atoms.getD 0 default<0))),()))
  (a:List aj) (ha:Sh a):XM (std 0) p1 f1 p2 f2 p3 f3 p4 f4 p5 f5 (a,()) (fun y=>y=(bp (aL a),())):=by
 have hlen:=ha.1
 dsimp only [XM,Alg.cl,Alg.cg,Alg.rb,Alg.bd,Alg.l1,Tup.q,Tup.o]
 refine au (fun(y:List aj×Int×Int×List aj×Unit)=>y.1=a∧y.2.1=a.length∧y.2.2.2.1=a∧0≤y.2.2.1∧y.2.2.1≤a.length∧All y.2.2.1 (fun i=>mOk (a.getD i.toNat default)∧(0<i→dJ (a.getD (i-1).toNat default).atoms (a.getD i.toNat default).atoms<0))) (fun y=>(a.length-y.2.2.1).toNat) ⟨rfl,rfl,rfl,by simp,by simp,All.zero⟩ ?_
 rintro⟨(l:List aj),(m:Int),(i:Int),(l':List aj),⟨⟩⟩ hI
 dsimp only at hI ⊢
 obtain⟨rfl,rfl,rfl,h1,h2,h3⟩:=hI
 simp (disch:=omega) only [RR,hp1,hf1,hp2 l' _ ha,hf2 l' _ ha,hp5 l' hlen,hf5 l' hlen]
 refine⟨fun h4=> ?_,fun h4=> ?_⟩
 ·simp (disch:=omega) only [RR,hp3 _ (ha.at _),hf3 _ (ha.at _),hp4 _ _ (ha.at _),hf4 _ _ (ha.at _),bg,jd,inB]
  refine⟨by omega,by omega,by by_cases h:i≤0<;>simp [h]<;>omega,by omega,fun h5=> ?_,fun h5=>⟨⟨by omega,by omega,h3.snoc ?_⟩,by omega⟩⟩
  ·rw [cZ (fun h=> ?_)]
   have:=h.1 i h1 h4
   dsimp only [mOk]at this
   obtain⟨⟨h6,h7,h8⟩,h9⟩:=this
   rcases h5 with((h5 | h5) | h5) | ⟨h5,h10⟩
   ·simp [-List.getD_eq_getElem?_getD]at h5;omega
   ·omega
   ·exact h5 h8
   ·have:=h9 h5;omega
  ·refine⟨⟨by omega,by omega,h5.1.2⟩,fun h6=> ?_⟩
   have:=h5.2;simp only [decide_eq_true h6,Bool.true_and,decide_eq_false_iff_not]at this;omega
 ·unfold aL
  rw [show All (↑l'.length) (fun i=>mOk (l'.getD i.toNat default)∧(0<i→dJ (l'.getD (i-1).toNat default).atoms (l'.getD i.toNat default).atoms<0))=True from eq_true (h3.le (by omega))]
  rw [true_and,o8,o8,Bool.and_assoc]
  refine congrArg (fun b=>(b,())) ?_
  congr 1
  ·by_cases h:l'.length≤12<;>simp [bp,h]<;>omega
  ·congr 1
   simp [bp]
def JF (a b:aj):Int:=or2 (dJ a.atoms b.atoms) (gK a.bD b.bD)
def Al:List aj→List aj→Int
 | a::az,b::bs=>if JF a b≠0 then JF a b else Al az bs
 | _,_=>0
def eU (a b:List aj):Int:=if gK a.length b.length≠0 then gK a.length b.length else Al a b
theorem Am (a b:List aj) (i:Nat):(h1:i<a.length)→(h2:i<b.length)→Al (a.drop i) (b.drop i)=if JF a[i] b[i]≠0 then JF a[i] b[i]else Al (a.drop (i+1)) (b.drop (i+1)):=by
 intro h1 h2
 rw [List.drop_eq_getElem_cons h1,List.drop_eq_getElem_cons h2];rfl
theorem anB {p1:List Int×Unit→Bool} {f1:List Int×Unit→Int×Unit} (hp1:∀a b,p1 ([a,b],())=true) (hf1:∀a b,f1 ([a,b],())=(or2 a b,()))
  {p2:Int×Int×Unit→Bool} {f2:Int×Int×Unit→Int×Unit} (hp2:∀a b,p2 (a,b,())=true) (hf2:∀a b,f2 (a,b,())=(gK a b,()))
  {p4:List Int×List Int×Unit→Bool} {f4:List Int×List Int×Unit→Int×Unit} (hp4:∀a b,a.length<1000000000→p4 (a,b,())=true) (hf4:∀a b,a.length<1000000000→f4 (a,b,())=(dJ a b,()))
  (a b:List aj) (ha:Sh a):XP (std 0) p1 f1 p2 f2 p4 f4 (a,b,()) (fun y=>y=(eU a b,())):=by
 have hlen:=ha.1
 dsimp only [XP,Alg.cl,Alg.cg,Alg.rb,Alg.bd,Alg.l1,Tup.q,Tup.o]
 simp (disch:=omega) only [RR,hp2,hf2]
 refine⟨fun h=>by rw [eU,if_pos h],fun h=> ?_⟩
 have hl:a.length=b.length:=by unfold gK at h;split at h<;>(try split at h)<;>omega
 rw [show eU a b=Al a b by rw [eU,if_neg (by simp [h])]]
 refine au (fun(y:List aj×Int×Int×List aj×Unit)=>y.1=a∧y.2.1=a.length∧y.2.2.2.1=b∧0≤y.2.2.1∧y.2.2.1≤a.length∧Al a b=Al (a.drop y.2.2.1.toNat) (b.drop y.2.2.1.toNat)) (fun y=>(a.length-y.2.2.1).toNat) ⟨rfl,rfl,rfl,by simp,by simp,by simp⟩ ?_
 rintro⟨(l:List aj),(m:Int),(i:Int),(l':List aj),⟨⟩⟩ hI
 dsimp only at hI ⊢
 obtain⟨rfl,rfl,rfl,h1,h2,h3⟩:=hI
 simp (disch:=omega) only [RR,hp1,hf1,hp4 _ _ (ha.at _),hf4 _ _ (ha.at _)]
 refine⟨fun h4=>⟨by omega,by omega,by omega,by omega,by omega,by omega,fun h5=> ?_,fun h5=>⟨⟨by omega,by omega,?_⟩,by omega⟩⟩,fun h4=> ?_⟩
 ·rw [h3,Am _ _ _ (by omega) (by omega)]
  rw [getD_lt (by omega),getD_lt (by omega)]at h5 ⊢
  exact((if_pos (c:=JF l[i.toNat] l'[i.toNat]≠0) h5).trans rfl).symm▸rfl
 ·rw [h3,Am _ _ _ (by omega) (by omega)]
  rw [getD_lt (by omega),getD_lt (by omega)]at h5
  rw [if_neg (show¬(JF l[i.toNat] l'[i.toNat]≠0)from fun h=>h h5),show(i+1).toNat=i.toNat+1 by omega]
 ·rw [h3,List.drop_eq_nil_of_le (by omega)];rfl
theorem anC {p1:List aj×List aj×Unit→Bool} {f1:List aj×List aj×Unit→Int×Unit} (hp1:∀a b,Sh a→p1 (a,b,())=true) (hf1:∀a b,Sh a→f1 (a,b,())=(eU a b,())) (a b:List aj) (ha:Sh a):
  XQ (std 0) p1 f1 (a,b,()) (fun y=>y=(decide (eU a b=0),())):=by
 dsimp only [XQ,Alg.cl,Alg.cg,Alg.rb,Alg.bd,Alg.l1,Tup.q,Tup.o]
 simp (disch:=omega) only [RR,hp1 a b ha,hf1 a b ha]
end Go.TX.F
namespace Go.TX.F
open Go Go.AE Go.TX
theorem Rs (k:IntKind) (x y:Int):jo .and k x y=xB .and k x y:=rfl
theorem Y7 (k:IntKind) (x y:Int):jo .xor k x y=xB .xor k x y:=rfl
theorem Y8 (x:Int):xB .and .i64 x 65535=x%65536:=by
 unfold xB
 dsimp only
 rw [BitVec.toNat_and,BitVec.toNat_ofInt,BitVec.toNat_ofInt]
 have h1:((65535:Int)% ((2^IntKind.i64.bits:Nat):Int)).toNat=2^16-1:=by decide
 rw [h1,Nat.and_two_pow_sub_one_eq_mod]
 rw [w64 (by omega) (by omega)]
 have h2:((2^IntKind.i64.bits:Nat):Int)=18446744073709551616:=by decide
 rw [h2]
 omega
theorem acD (a:Int):Yr (std 0) (a,()) (fun y=>y=(a%65536,())):=by
 dsimp only [Yr,Alg.cl,Alg.cg,Alg.rb,Alg.bd,Alg.l1,Tup.q,Tup.o]
 simp (disch:=omega) only [RR,Rs,Y8]
def wdo (op a b:Int):Int:=if(0≤a∧a≤65535)∧(0≤b∧b≤65535)then
 (if op=1 then(a+b)%65536 else if op=2 then(a-b)%65536 else if op=3 then(a*b)%65536 else if op=4 then xB .and .i64 a b else if op=5 then xB .xor .i64 a b else 0)else 0
theorem dz {a b c:Int}:inB a b c=true↔(b≤a∧a≤c):=by simp [inB]
theorem mV {a b c:Int}:inB a b c=false↔¬(b≤a∧a≤c):=by rw [←dz,Bool.not_eq_true]
theorem anD {p1:Int×Unit→Bool} {f1:Int×Unit→Bool×Unit} (hp1:∀a,p1 (a,())=true) (hf1:∀a,f1 (a,())=(inB a 0 65535,()))
  {p2:Int×Unit→Bool} {f2:Int×Unit→Int×Unit} (hp2:∀a,p2 (a,())=true) (hf2:∀a,f2 (a,())=(a%65536,())) (op a b:Int):
  YH (std 0) p1 f1 p2 f2 (op,a,b,()) (fun y=>y=(wdo op a b,())):=by
 dsimp only [YH,Alg.cl,Alg.cg,Alg.rb,Alg.bd,Alg.l1,Tup.q,Tup.o]
 simp (disch:=omega) only [RR,hp1,hf1,hp2,hf2,Rs,Y7,dz,mV]
 by_cases ha:(0≤a∧a≤65535)∧(0≤b∧b≤65535)
 ·have hm:0≤a*b∧a*b≤65535*65535:=⟨Int.mul_nonneg ha.1.1 ha.2.1,Int.mul_le_mul ha.1.2 ha.2.2 ha.2.1 (by omega)⟩
  rw [w64 (x:=a+b) (by omega) (by omega),w64 (x:=a-b) (by omega) (by omega),w64 (x:=a*b) (by omega) (by omega)]
  unfold wdo
  rw [if_pos ha]
  refine⟨fun h=>absurd h (by omega),fun _=>⟨fun h=> ?_,fun h=>⟨fun h1=> ?_,fun h1=>⟨fun h2=> ?_,fun h2=>⟨fun h3=> ?_,fun h3=>⟨fun h4=> ?_,fun h4=> ?_⟩⟩⟩⟩⟩⟩<;>(subst_vars;first | rfl | simp only [if_true,if_false, *])
 ·refine⟨fun h=> ?_,fun h=>absurd h ?_⟩
  ·unfold wdo;rw [if_neg ha]
  ·exact ha
def dw (n:Int):List aj:=if 1≤n∧n≤65535 then [⟨n,[]⟩]else []
theorem anE {p1:Int×Int×Int×Unit→Bool} {f1:Int×Int×Int×Unit→Bool×Unit} (hp1:∀a b c,p1 (a,b,c,())=true) (hf1:∀a b c,f1 (a,b,c,())=(inB a b c,())) (a:Int):
  Yp (std 0) p1 f1 (a,()) (fun y=>y=(dw a,())):=by
 dsimp only [Yp,Alg.cl,Alg.cg,Alg.rb,Alg.bd,Alg.l1,Tup.q,Tup.o]
 simp (disch:=omega) only [RR,hp1,hf1,dz,mV]
 unfold dw
 exact⟨fun h=>by rw [if_neg (by omega)],fun h=>by rw [if_pos (by omega)]⟩
def fE (n:Int):List aj:=if 0≤n∧n≤199 then [⟨1,[n]⟩]else []
theorem anF {p1:Int×Int×Int×Unit→Bool} {f1:Int×Int×Int×Unit→Bool×Unit} (hp1:∀a b c,p1 (a,b,c,())=true) (hf1:∀a b c,f1 (a,b,c,())=(inB a b c,())) (a:Int):
  X5 (std 0) p1 f1 (a,()) (fun y=>y=(fE a,())):=by
 dsimp only [X5,Alg.cl,Alg.cg,Alg.rb,Alg.bd,Alg.l1,Tup.q,Tup.o]
 simp (disch:=omega) only [RR,hp1,hf1,dz,mV]
 unfold fE
 exact⟨fun h=>by rw [if_neg (by omega)],fun h=>by rw [if_pos (by omega)]⟩
noncomputable def bM (p:List aj):Int×Bool:=if bp (aL p)then(if p.length=0 then(0,true)else if p.length=1∧(p.getD 0 default).atoms.length=0 then((p.getD 0 default).bD,true)else(0,false))else(0,false)
theorem anG {p1:List aj×Unit→Bool} {f1:List aj×Unit→Bool×Unit} (hp1:∀a,Sh a→p1 (a,())=true) (hf1:∀a,Sh a→f1 (a,())=(bp (aL a),())) (a:List aj) (ha:Sh a):
  Yq (std 0) p1 f1 (a,()) (fun y=>y=((bM a).1,(bM a).2,())):=by
 dsimp only [Yq,Alg.cl,Alg.cg,Alg.rb,Alg.bd,Alg.l1,Tup.q,Tup.o]
 simp (disch:=omega) only [RR,hp1 a ha,hf1 a ha]
 unfold bM
 refine⟨fun h=> ?_,fun h=>⟨fun h1=> ?_,fun h1=>⟨by omega,by omega,fun h2=>⟨by omega,by omega,?_⟩,fun h2=> ?_⟩⟩⟩
 ·rw [if_neg (by simpa using h)]
 ·rw [if_pos h,if_pos (by omega)]
 ·have h3:=h2.2;rw [show Int.toNat 0=0 from rfl]at h3
  rw [if_pos h,if_neg (by omega),if_pos (show a.length=1∧(a.getD 0 default).atoms.length=0 by omega)];rfl
 ·rw [if_pos h,if_neg (by omega),if_neg]
  intro h3
  rw [decide_eq_true (by omega),Bool.true_and,decide_eq_false_iff_not]at h2
  apply h2;rw [show Int.toNat 0=0 from rfl];omega
theorem acE (a:List Int) (ha:a.length≤1073741824):Yc (std 0) (a,()) (fun y=>y=(a,())):=by
 dsimp only [Yc,Alg.cl,Alg.cg,Alg.rb,Alg.bd,Alg.l1,Tup.q,Tup.o]
 simp (disch:=omega) only [RR]
 omega
theorem bU {α:Type} {l:List α} {i:Int} {d x:α} (h0:0≤i) (h:i<l.length) (e:x=l.getD i.toNat d):l.take i.toNat++ [x]=l.take (i+1).toNat:=by
 rw [e,getD_lt (by omega),show(i+1).toNat=i.toNat+1 by omega,List.take_succ_eq_append_getElem (by omega)]
theorem anH {p1:List Int×Unit→Bool} {f1:List Int×Unit→List Int×Unit} (hp1:∀a,a.length≤1073741824→p1 (a,())=true) (hf1:∀a,a.length≤1073741824→f1 (a,())=(a,())) (a:List aj) (ha:Sh a):
  Yd (std 0) p1 f1 (a,()) (fun y=>y=(a,())):=by
 have hlen:=ha.1
 dsimp only [Yd,Alg.cl,Alg.cg,Alg.rb,Alg.bd,Alg.l1,Tup.q,Tup.o]
 refine au (fun(y:List aj×Int×Int×List aj×Unit)=>y.1=a∧y.2.1=a.length∧y.2.2.2.1=a.take y.2.2.1.toNat∧0≤y.2.2.1∧y.2.2.1≤a.length) (fun y=>(a.length-y.2.2.1).toNat) ⟨rfl,rfl,by simp,by simp,by simp⟩ ?_
 rintro⟨(l:List aj),(m:Int),(i:Int),(o:List aj),⟨⟩⟩ hI
 dsimp only at hI ⊢
 obtain⟨rfl,rfl,rfl,h1,h2⟩:=hI
 simp (disch:=first | omega | (have:=ha.at i.toNat;omega)) only [RR,hp1,hf1]
 have h3:=ha.at i.toNat
 refine⟨fun h4=>⟨by omega,by omega,?_,⟨bU h1 h4 rfl,by omega,by omega⟩,by omega⟩,fun h4=>by rw [List.take_of_length_le (by omega)]⟩
 have:=List.length_take_le' i.toNat l
 simp only [List.length_cons,List.length_nil];omega
def ShA (a:Atom):Prop:=Sh a.x∧Sh a.y
def ShT (t:List Atom):Prop:=t.length<1000000000∧∀a∈t,ShA a
theorem ShT.at {p:List Atom} (h:ShT p) (n:Nat):ShA (p.getD n default):=by
 by_cases h1:n<p.length
 ·rw [getD_lt h1];exact h.2 _ (List.getElem_mem _)
 ·simp only [List.getD,List.getElem?_eq_none (by omega:p.length≤n)]
  refine⟨⟨by decide,fun m hm=> ?_⟩,⟨by decide,fun m hm=> ?_⟩⟩<;>exact absurd hm (by simp [default,instInhabitedAtom.default])
theorem anI {p1:List aj×Unit→Bool} {f1:List aj×Unit→List aj×Unit} (hp1:∀a,Sh a→p1 (a,())=true) (hf1:∀a,Sh a→f1 (a,())=(a,())) (a:List Atom) (ha:ShT a):
  Yg (std 0) p1 f1 (a,()) (fun y=>y=(a,())):=by
 have hlen:=ha.1
 dsimp only [Yg,Alg.cl,Alg.cg,Alg.rb,Alg.bd,Alg.l1,Tup.q,Tup.o]
 refine au (fun(y:List Atom×Int×Int×List Atom×Unit)=>y.1=a∧y.2.1=a.length∧y.2.2.2.1=a.take y.2.2.1.toNat∧0≤y.2.2.1∧y.2.2.1≤a.length) (fun y=>(a.length-y.2.2.1).toNat) ⟨rfl,rfl,by simp,by simp,by simp⟩ ?_
 rintro⟨(l:List Atom),(m:Int),(i:Int),(o:List Atom),⟨⟩⟩ hI
 dsimp only at hI ⊢
 obtain⟨rfl,rfl,rfl,h1,h2⟩:=hI
 simp (disch:=omega) only [RR,hp1 _ (ha.at _).1,hf1 _ (ha.at _).1,hp1 _ (ha.at _).2,hf1 _ (ha.at _).2]
 refine⟨fun h4=>⟨by omega,by omega,?_,⟨bU h1 h4 rfl,by omega,by omega⟩,by omega⟩,fun h4=>by rw [List.take_of_length_le (by omega)]⟩
 have:=List.length_take_le' i.toNat l
 simp only [List.length_cons,List.length_nil];omega
theorem anJ {p4:List Int×List Int×Unit→Bool} {f4:List Int×List Int×Unit→Int×Unit} (hp4:∀a b,a.length<1000000000→p4 (a,b,())=true) (hf4:∀a b,a.length<1000000000→f4 (a,b,())=(dJ a b,())) (a b:aj) (ha:a.atoms.length<1000000000):
  Yt (std 0) p4 f4 (a,b,()) (fun y=>y=(dJ a.atoms b.atoms,())):=by
 dsimp only [Yt,Alg.cl,Alg.cg,Alg.rb,Alg.bd,Alg.l1,Tup.q,Tup.o]
 simp (disch:=omega) only [RR,hp4 a.atoms b.atoms ha,hf4 a.atoms b.atoms ha]
theorem anK (a:List Atom):XW (std 0) (a,()) (fun y=>y=(a,())):=by
 dsimp only [XW,Alg.cl,Alg.cg,Alg.rb,Alg.bd,Alg.l1,Tup.q,Tup.o]
 simp (disch:=omega) only [RR]
 refine⟨by omega,by omega,by omega,?_⟩
 rw [List.take_of_length_le (by omega)];rfl
def nQ (a b:Atom):Bool:=decide (a.kind=b.kind)&&decide (a.k=b.k)&&decide (eU a.x b.x=0)&&decide (eU a.y b.y=0)
theorem anL {p1:List aj×List aj×Unit→Bool} {f1:List aj×List aj×Unit→Bool×Unit} (hp1:∀a b,Sh a→p1 (a,b,())=true) (hf1:∀a b,Sh a→f1 (a,b,())=(decide (eU a b=0),())) (a b:Atom) (ha:ShA a):
  XR (std 0) p1 f1 (a,b,()) (fun y=>y=(nQ a b,())):=by
 dsimp only [XR,Alg.cl,Alg.cg,Alg.rb,Alg.bd,Alg.l1,Tup.q,Tup.o]
 simp (disch:=omega) only [RR,hp1 a.x b.x ha.1,hf1 a.x b.x ha.1,hp1 a.y b.y ha.2,hf1 a.y b.y ha.2]
 rfl
theorem anM {p1:Atom×Atom×Unit→Bool} {f1:Atom×Atom×Unit→Bool×Unit} (hp1:∀a b,ShA a→p1 (a,b,())=true) (hf1:∀a b,ShA a→f1 (a,b,())=(nQ a b,())) (a b:Atom) (hb:ShA b):
  XU (std 0) p1 f1 (a,b,()) (fun y=>y=(nQ b a,b,())):=by
 dsimp only [XU,Alg.cl,Alg.cg,Alg.rb,Alg.bd,Alg.l1,Tup.q,Tup.o]
 simp (disch:=omega) only [RR,hp1 b a hb,hf1 b a hb]
noncomputable def idxOf (n:Int) (G:Int→Prop):Int:= @dite _ (∃r,Idx n G r) (Classical.propDecidable _) (fun h=>Classical.choose h) (fun _=> -1)
theorem Idx.uniq {n:Int} {G:Int→Prop} {r s:Int} (h:Idx n G r) (h':Idx n G s):r=s:=by
 rcases h with⟨h1,h2⟩ | ⟨h1,h2,h3,h4⟩<;>rcases h' with⟨g1,g2⟩ | ⟨g1,g2,g3,g4⟩
 ·omega
 ·exact absurd g3 (h2 s g1 g2)
 ·exact absurd h3 (g2 r h1 h2)
 ·by_cases h5:r<s
  ·exact absurd h3 (g4 r h1 h5)
  ·by_cases h6:s<r
   ·exact absurd g3 (h4 s g1 h6)
   ·omega
theorem Idx.eq {n:Int} {G:Int→Prop} {r:Int} (h:Idx n G r):r=idxOf n G:=by
 unfold idxOf
 have he:∃r,Idx n G r:=⟨r,h⟩
 rw [dif_pos he];exact h.uniq (Classical.choose_spec he)
theorem agZ {p:Atom×Atom×Unit→Bool} {f:Atom×Atom×Unit→Bool×Atom×Unit} (hp:∀a b,ShA b→p (a,b,())=true) (hf:∀a b,ShA b→f (a,b,())=(nQ b a,b,())) (a:List Atom) (b:Atom) (ha:a.length<1000000000) (hb:ShA b):
  Rc (std 0) p f (a,b,()) (fun y=>y=(idxOf a.length (fun i=>nQ b (a.getD i.toNat default)=true),b,())):=by
 dsimp only [Rc,Alg.cl,Alg.cg,Alg.rb,Alg.bd,Alg.l1,Tup.q,Tup.o]
 refine au (fun(y:List Atom×Int×Int×Atom×Unit)=>y.1=a∧y.2.1=a.length∧y.2.2.2.1=b∧0≤y.2.2.1∧y.2.2.1≤a.length∧All y.2.2.1 (fun i=>¬nQ b (a.getD i.toNat default)=true)) (fun y=>(a.length-y.2.2.1).toNat) ⟨rfl,rfl,rfl,by simp,by simp,All.zero⟩ ?_
 rintro⟨(l:List Atom),(m:Int),(i:Int),(b':Atom),⟨⟩⟩ hI
 dsimp only at hI ⊢
 obtain⟨rfl,rfl,rfl,h1,h2,h3⟩:=hI
 simp (disch:=omega) only [RR,hp _ _ hb,hf _ _ hb]
 refine⟨fun h4=>⟨by omega,by omega,fun h5=> ?_,fun h5=>⟨⟨by omega,by omega,h3.snoc (by simp only [h5];simp)⟩,by omega⟩⟩,fun h4=> ?_⟩
 ·rw [←Idx.eq (Or.inr ⟨by omega,by omega,h5,h3⟩)]
 ·rw [←Idx.eq (Or.inl ⟨rfl,h3.le (by omega)⟩)]
noncomputable def qj (t:List Atom) (a:Atom):Int:=idxOf t.length (fun i=>nQ a (t.getD i.toNat default)=true)
theorem anN {p:List Atom×Atom×Unit→Bool} {f:List Atom×Atom×Unit→Int×Atom×Unit} (hp:∀a b,a.length<1000000000→ShA b→p (a,b,())=true)
  (hf:∀a b,a.length<1000000000→ShA b→f (a,b,())=(idxOf a.length (fun i=>nQ b (a.getD i.toNat default)=true),b,())) (a:List Atom) (b:Atom) (ha:a.length<1000000000) (hb:ShA b):
  XV (std 0) p f (a,b,()) (fun y=>y=(qj a b,())):=by
 dsimp only [XV,Alg.cl,Alg.cg,Alg.rb,Alg.bd,Alg.l1,Tup.q,Tup.o]
 simp (disch:=omega) only [RR,hp a b ha hb,hf a b ha hb]
 rfl
def gY (a:Atom) (n:Int):Prop:=if a.kind=4 then(1≤a.k∧a.k≤5)∧aL a.x∧aL a.y∧aW a.x n∧aW a.y n else
 (a.x=[]∧a.y=[])∧((a.kind=1∧0≤a.k∧a.k≤3)∨(a.kind=2∨a.kind=3)∧0≤a.k∧a.k≤199)
theorem anO {p1:Int×Int×Int×Unit→Bool} {f1:Int×Int×Int×Unit→Bool×Unit} (hp1:∀a b c,p1 (a,b,c,())=true) (hf1:∀a b c,f1 (a,b,c,())=(inB a b c,()))
  {p2:Int×Unit→Bool} {f2:Int×Unit→Bool×Unit} (hp2:∀a,p2 (a,())=true) (hf2:∀a,f2 (a,())=(inB a 1 5,()))
  {p3:List aj×Int×Unit→Bool} {f3:List aj×Int×Unit→Bool×Unit} (hp3:∀a n,Sh a→p3 (a,n,())=true) (hf3:∀a n,Sh a→f3 (a,n,())=(bp (aW a n),()))
  {p4:List aj×Unit→Bool} {f4:List aj×Unit→Bool×Unit} (hp4:∀a,Sh a→p4 (a,())=true) (hf4:∀a,Sh a→f4 (a,())=(bp (aL a),()))
  {p5:Int×Unit→Bool} {f5:Int×Unit→Bool×Unit} (hp5:∀a,p5 (a,())=true) (hf5:∀a,f5 (a,())=(inB a 0 3,())) (a:Atom) (n:Int) (ha:ShA a):
  XO (std 0) p1 f1 p2 f2 p3 f3 p4 f4 p5 f5 (a,n,()) (fun y=>y=(bp (gY a n),())):=by
 obtain⟨hx,hy⟩:=ha
 have hx1:=hx.1
 have hy1:=hy.1
 dsimp only [XO,Alg.cl,Alg.cg,Alg.rb,Alg.bd,Alg.l1,Tup.q,Tup.o]
 simp (disch:=omega) only [RR,hp1,hf1,hp2,hf2,hp3 a.x n hx,hf3 a.x n hx,hp3 a.y n hy,hf3 a.y n hy,hp4 a.x hx,hf4 a.x hx,hp4 a.y hy,hf4 a.y hy,hp5,hf5]
 unfold gY
 refine⟨fun h=> ?_,fun h=>⟨fun h1=> ?_,fun h1=> ?_⟩⟩
 ·rw [if_pos h]
  congr 1
  rw [Bool.eq_iff_iff,bg]
  simp only [Bool.and_eq_true,dz,bg,and_assoc]
 ·rw [if_neg h,cZ]
  rintro⟨⟨h2,h3⟩, -⟩
  rw [h2,h3]at h1;exact absurd h1 (by simp)
 ·rw [if_neg h]
  have h2:a.x=[]:=List.eq_nil_of_length_eq_zero (by omega)
  have h3:a.y=[]:=List.eq_nil_of_length_eq_zero (by omega)
  congr 1
  rw [Bool.eq_iff_iff,bg]
  simp only [Bool.or_eq_true,Bool.and_eq_true,decide_eq_true_eq,dz,h2,h3,true_and]
def aF (t:List Atom):Prop:=All t.length (fun i=>gY (t.getD i.toNat default) i∧qj t (t.getD i.toNat default)=i)∧t.length≤200
theorem anP {p1:Atom×Int×Unit→Bool} {f1:Atom×Int×Unit→Bool×Unit} (hp1:∀a n,ShA a→p1 (a,n,())=true) (hf1:∀a n,ShA a→f1 (a,n,())=(bp (gY a n),()))
  {p2:List Atom×Atom×Unit→Bool} {f2:List Atom×Atom×Unit→Int×Unit} (hp2:∀a b,a.length<1000000000→ShA b→p2 (a,b,())=true) (hf2:∀a b,a.length<1000000000→ShA b→f2 (a,b,())=(qj a b,())) (a:List Atom) (ha:ShT a):
  Ym (std 0) p1 f1 p2 f2 (a,()) (fun y=>y=(bp (aF a),())):=by
 have hlen:=ha.1
 dsimp only [Ym,Alg.cl,Alg.cg,Alg.rb,Alg.bd,Alg.l1,Tup.q,Tup.o]
 refine au (fun(y:List Atom×Int×Int×List Atom×Unit)=>y.1=a∧y.2.1=a.length∧y.2.2.2.1=a∧0≤y.2.2.1∧y.2.2.1≤a.length∧All y.2.2.1 (fun i=>gY (a.getD i.toNat default) i∧qj a (a.getD i.toNat default)=i)) (fun y=>(a.length-y.2.2.1).toNat) ⟨rfl,rfl,rfl,by simp,by simp,All.zero⟩ ?_
 rintro⟨(l:List Atom),(m:Int),(i:Int),(b':List Atom),⟨⟩⟩ hI
 dsimp only at hI ⊢
 obtain⟨rfl,rfl,rfl,h1,h2,h3⟩:=hI
 simp (disch:=omega) only [RR,hp1 _ _ (ha.at _),hf1 _ _ (ha.at _),hp2 _ _ ha.1 (ha.at _),hf2 _ _ ha.1 (ha.at _),bg,jd]
 refine⟨fun h4=>⟨by omega,by omega,fun h5=> ?_,fun h5=>⟨⟨by omega,by omega,h3.snoc h5⟩,by omega⟩⟩,fun h4=> ?_⟩
 ·rw [cZ (fun h=> ?_)]
  have:=h.1 i h1 h4
  rcases h5 with h5 | h5
  ·exact h5 this.1
  ·exact h5 this.2
 ·by_cases h5:b'.length≤200
  ·rw [dH (show aF b' from⟨h3.le (by omega),h5⟩),decide_eq_true (by omega)]
  ·rw [cZ (show¬aF b' from fun h=>h5 h.2),decide_eq_false (by omega)]
noncomputable def aX (t:List Atom) (a:Atom):List Atom×Int:=if 0≤qj t a then(t,qj t a)else @ite _ (¬gY a t.length∨t.length=200) (Classical.propDecidable _) (t, -1) (t++ [a],(t.length:Int))
theorem anQ {p1:Atom×Int×Unit→Bool} {f1:Atom×Int×Unit→Bool×Unit} (hp1:∀a n,ShA a→p1 (a,n,())=true) (hf1:∀a n,ShA a→f1 (a,n,())=(bp (gY a n),()))
  {p2:List Atom×Atom×Unit→Bool} {f2:List Atom×Atom×Unit→Int×Unit} (hp2:∀a b,a.length<1000000000→ShA b→p2 (a,b,())=true) (hf2:∀a b,a.length<1000000000→ShA b→f2 (a,b,())=(qj a b,()))
  {p3:List Atom×Unit→Bool} {f3:List Atom×Unit→List Atom×Unit} (hp3:∀a,p3 (a,())=true) (hf3:∀a,f3 (a,())=(a,())) (t:List Atom) (a:Atom) (ht:t.length<1000000000) (ha:ShA a):
  XY (std 0) p1 f1 p2 f2 p3 f3 (t,a,()) (fun y=>y=((aX t a).1,(aX t a).2,())):=by
 dsimp only [XY,Alg.cl,Alg.cg,Alg.rb,Alg.bd,Alg.l1,Tup.q,Tup.o]
 simp (disch:=omega) only [RR,hp1 a t.length ha,hf1 a t.length ha,hp2 t a ht ha,hf2 t a ht ha,hp3,hf3,bg,jd]
 unfold aX
 refine⟨fun h=>by rw [if_pos h],fun h=>⟨fun h1=> ?_,fun h1=>⟨?_,?_,?_⟩⟩⟩
 ·rw [if_neg h,if_pos (by rcases h1 with h1 | h1;exact Or.inl h1;exact Or.inr (by omega))]
 ·exact Or.inl (by simp)
 ·simp only [List.length_cons,List.length_nil];omega
 ·rw [if_neg h,if_neg (by rintro(h2 | h2);exact h2 h1.1;exact absurd h2 (by omega))]
end Go.TX.F
namespace Go.TX.F
open Go Go.AE Go.TX
theorem Ik (a b:Int):gK b a= -gK a b:=by unfold gK;repeat' split<;>omega
theorem iX {a b:Int}:gK a b=0↔a=b:=by unfold gK;constructor<;>intro h<;>(repeat' split at*)<;>omega
theorem Il:∀a b:List Int,jZ b a= -jZ a b
 | [],[]=>rfl | [],_::_=>rfl | _::_,[]=>rfl
 | a::az,b::bs=>by
  simp only [jZ,Ik a b,Il az bs]
  split<;>split<;>omega
theorem Im:∀ {a b:List Int},jZ a b=0→a=b
 | [],[],_=>rfl | [],_::_,h=>by simp [jZ]at h
 | _::_,[],h=>by simp [jZ]at h
 | a::az,b::bs,h=>by
  simp only [jZ]at h
  split at h
  ·exact absurd h (by assumption)
  ·rename_i h1
   rw [iX.1 (Classical.not_not.1 h1),Im h]
theorem Io:∀a:List Int,jZ a a=0
 | []=>rfl
 | a::az=>by simp only [jZ,show gK a a=0 from iX.2 rfl];simp [Io az]
theorem Gr:∀ {a b c:List Int},jZ a b≤0→jZ b c≤0→jZ a c≤0
 | [],_,[],_,_=>by simp [jZ]
 | [],_,_::_,_,_=>by simp [jZ]
 | _::_,[],_,h,_=>by simp [jZ]at h
 | _::_,_::_,[],_,h=>by simp [jZ]at h
 | a::az,b::bs,c::cs,h1,h2=>by
  have ih:= @Gr az bs cs
  simp only [jZ]at h1 h2 ⊢
  unfold gK at h1 h2 ⊢
  repeat' split at h1
  all_goals (repeat' split at h2)
  all_goals (repeat' split)
  all_goals omega
theorem qm (a b:List Int):dJ b a= -dJ a b:=by
 unfold dJ or2;rw [Ik,Il];repeat' split<;>omega
theorem jL {a b:List Int}:dJ a b=0↔a=b:=by
 constructor
 ·intro h;unfold dJ or2 at h
  split at h
  ·exact absurd h (by assumption)
  ·exact Im h
 ·rintro rfl;unfold dJ or2;rw [show gK (a.length:Int) a.length=0 from iX.2 rfl,Io];rfl
theorem xZ {a b c:List Int} (h1:dJ a b≤0) (h2:dJ b c≤0):dJ a c≤0:=by
 have ih:= @Gr a b c
 unfold dJ or2 gK at*
 repeat' split at h1
 all_goals (repeat' split at h2)
 all_goals (repeat' split)
 all_goals omega
def le (x y:aj):Prop:=dJ x.atoms y.atoms≤0
theorem le.trans {x y z:aj} (h1:le x y) (h2:le y z):le x z:=xZ h1 h2
theorem qo {x y:aj} (h:¬dJ y.atoms x.atoms<0):le x y:=by unfold le;rw [qm];omega
theorem le_of_lt {x y:aj} (h:dJ x.atoms y.atoms<0):le x y:=by unfold le;omega
theorem le_refl (x:aj):le x x:=by unfold le;rw [jL.2 rfl];omega
theorem dM {x y z:aj} (h1:le x y) (h2:dJ y.atoms z.atoms<0):dJ x.atoms z.atoms<0:=by
 have h3:=xZ h1 (le_of_lt h2)
 by_cases h:dJ x.atoms z.atoms=0
 ·have e:=jL.1 h
  unfold le at h1;rw [e,qm]at h1;omega
 ·omega
theorem jM {x y z:aj} (h1:dJ x.atoms y.atoms<0) (h2:le y z):dJ x.atoms z.atoms<0:=by
 have h3:=xZ (le_of_lt h1) h2
 by_cases h:dJ x.atoms z.atoms=0
 ·have e:=jL.1 h
  unfold le at h2;rw [←e,qm]at h2;omega
 ·omega
theorem JG (g:aj→Int) (x:aj):∀(d:List aj) (n:Nat) (h:n<d.length),((d.set n x).map g).sum=(d.map g).sum-g d[n]+g x
 | [],_,h=>absurd h (by simp)
 | a::d,0,h=>by simp;omega
 | a::d,n+1,h=>by
  have:=JG g x d n (by simpa using h)
  simp only [List.set_cons_succ,List.map_cons,List.sum_cons,List.getElem_cons_succ];omega
structure Sm (d d':List aj):Prop where
 len:d'.length=d.length
 sum:∀g:aj→Int,(d'.map g).sum=(d.map g).sum
theorem Sm.refl (d:List aj):Sm d d:=⟨rfl,fun _=>rfl⟩
theorem Sm.trans {a b c:List aj} (h1:Sm a b) (h2:Sm b c):Sm a c:=⟨h2.1.trans h1.1,fun g=>(h2.2 g).trans (h1.2 g)⟩
theorem Sm.symm {a b:List aj} (h1:Sm a b):Sm b a:=⟨h1.1.symm,fun g=>(h1.2 g).symm⟩
theorem JH (x:aj):∀d:List aj,0≤(d.map (fun y=>if y=x then(1:Int)else 0)).sum∧(0< (d.map (fun y=>if y=x then(1:Int)else 0)).sum↔x∈d)
 | []=>by simp
 | a::d=>by
  have:=JH x d
  simp only [List.map_cons,List.sum_cons,List.mem_cons]
  by_cases h:a=x
  ·rw [if_pos h];refine⟨by omega,⟨fun _=>Or.inl h.symm,fun _=>by omega⟩⟩
  ·rw [if_neg h];refine⟨by omega,⟨fun h2=>Or.inr (this.2.1 (by omega)),fun h2=> ?_⟩⟩
   rcases h2 with h2 | h2
   ·exact absurd h2.symm h
   ·have:=this.2.2 h2;omega
theorem Sm.mem {a b:List aj} (h:Sm a b) {x:aj} (hx:x∈b):x∈a:=by
 rw [←(JH x a).2,←h.2];exact(JH x b).2.2 hx
theorem Sm.sh {a b:List aj} (h:Sm a b) (hs:Sh a):Sh b:=⟨by have:=hs.1;have:=h.1;omega,fun m hm=>hs.2 m (h.mem hm)⟩
def swp (d:List aj) (i j:Int):List aj:=(d.set i.toNat ((d).getD (j).toNat default)).set j.toNat ((d).getD (i).toNat default)
theorem abD (d:List aj) (i j:Int):(swp d i j).length=d.length:=by simp [swp]
theorem at_set {d:List aj} {i j:Int} {x:aj} (h1:0≤i) (h2:i<d.length) (h3:0≤j):((d.set i.toNat x).getD (j).toNat default)=if j=i then x else((d).getD (j).toNat default):=by
 simp only [List.getD]
 by_cases h:j=i
 ·subst h;rw [if_pos rfl,List.getElem?_set_self (by omega)];rfl
 ·rw [if_neg h,List.getElem?_set_ne (by omega)]
theorem uE {d:List aj} {i j k:Int} (h1:0≤i) (h2:i<d.length) (h3:0≤j) (h4:j<d.length) (h5:0≤k):((swp d i j).getD (k).toNat default)=if k=j then((d).getD (i).toNat default)else if k=i then((d).getD (j).toNat default)else((d).getD (k).toNat default):=by
 unfold swp
 rw [at_set h3 (by simp;omega) h5,at_set h1 h2 h5]
theorem JI {d:List aj} {i j:Int} (h1:0≤i) (h2:i<d.length) (h3:0≤j) (h4:j<d.length):Sm d (swp d i j):=by
 refine⟨abD d i j,fun g=> ?_⟩
 unfold swp
 rw [getD_lt (show i.toNat<d.length by omega),getD_lt (show j.toNat<d.length by omega),JG g _ _ _ (by simp;omega),JG g _ _ _ (by omega),List.getElem_set]
 split
 ·rename_i h;have:i=j:=by omega
  subst this;omega
 ·omega
def Swp (d d':List aj) (a b n:Int):Prop:=Sm d d'∧∀k,0≤k→((d').getD (k).toNat default)=if a≤k∧k<a+n then((d).getD (k+(b-a)).toNat default)else if b≤k∧k<b+n then((d).getD (k- (b-a)).toNat default)else((d).getD (k).toNat default)
theorem Y9 (a b n:Int) (d:List aj) (hl:d.length<1000000000) (h1:0≤a) (h2:0≤n) (h3:a+n≤b) (h4:b+n≤d.length):
  Rh (std 0) (a,b,n,d,()) (fun y=>Swp d y.1 a b n):=by
 dsimp only [Rh,Alg.cl,Alg.cg,Alg.rb,Alg.bd,Alg.l1,Tup.q,Tup.o]
 refine au (fun(y:Int×Int×Int×Int×List aj×Unit)=>y.1=a∧y.2.1=b∧y.2.2.1=n∧0≤y.2.2.2.1∧y.2.2.2.1≤n∧Swp d y.2.2.2.2.1 a b y.2.2.2.1) (fun y=>(n-y.2.2.2.1).toNat)
  ⟨rfl,rfl,rfl,by simp,by simp;omega,Sm.refl d,fun k hk=>by dsimp only;rw [if_neg (by omega),if_neg (by omega)]⟩ ?_
 rintro⟨(a':Int),(b':Int),(n':Int),(i:Int),(e:List aj),⟨⟩⟩ hI
 dsimp only at hI ⊢
 obtain⟨rfl,rfl,rfl,h5,h6,h7,h8⟩:=hI
 have hle:=h7.1
 simp (disch:=omega) only [RR,List.length_set]
 refine⟨fun h9=> ?_,fun h9=> ?_⟩
 ·have e1:(e.set (a'+i).toNat ((e).getD (b'+i).toNat default)).set (b'+i).toNat ((e).getD (a'+i).toNat default)=swp e (a'+i) (b'+i):=rfl
  rw [e1]
  refine⟨by omega,by omega,by omega,by omega,by omega,by omega,by omega,by omega,by omega,by omega,by omega,by omega,by omega,by omega,by omega,by omega,⟨by omega,by omega,h7.trans (JI (by omega) (by omega) (by omega) (by omega)),fun k hk=> ?_⟩,by omega⟩
  rw [uE (by omega) (by omega) (by omega) (by omega) hk]
  rw [h8 _ (by omega),h8 _ (by omega),h8 _ hk]
  repeat' split
  all_goals first | rfl | (exfalso;omega) | (congr 2;omega)
 ·have:i=n':=by omega
  subst this;exact⟨h7,h8⟩
end Go.TX.F
namespace Go.TX.F
open Go Go.AE Go.TX
def Rot (d d':List aj) (a m b:Int):Prop:=Sm d d'∧∀k,0≤k→((d').getD (k).toNat default)=if a≤k∧k<a+(b-m)then((d).getD (k+(m-a)).toNat default)else if a+(b-m)≤k∧k<b then((d).getD (k- (b-m)).toNat default)else((d).getD (k).toNat default)
theorem ag0 {p:Int×Int×Int×List aj×Unit→Bool} {f:Int×Int×Int×List aj×Unit→List aj×Unit}
  (hp:∀(a b n:Int) (d:List aj),d.length<1000000000→0≤a→0≤n→a+n≤b→b+n≤d.length→p (a,b,n,d,())=true) (hf:∀(a b n:Int) (d:List aj),d.length<1000000000→0≤a→0≤n→a+n≤b→b+n≤d.length→Swp d (f (a,b,n,d,())).1 a b n)
  (a m b:Int) (d:List aj) (hl:d.length<1000000000) (h1:0≤a) (h2:a<m) (h3:m<b) (h4:b≤d.length):
  Ri (std 0) p f (a,m,b,d,()) (fun y=>Rot d y.1 a m b):=by
 dsimp only [Ri,Alg.cl,Alg.cg,Alg.rb,Alg.bd,Alg.l1,Tup.q,Tup.o]
 simp (disch:=omega) only [RR]
 refine au (fun(y:Int×Int×Int×List aj×Unit)=>y.1=m∧0<y.2.1∧0<y.2.2.1∧a≤m-y.2.1∧m+y.2.2.1≤b∧Sm d y.2.2.2.1∧
   ∀k,0≤k→(if a≤k∧k<a+(b-m)then((d).getD (k+(m-a)).toNat default)else if a+(b-m)≤k∧k<b then((d).getD (k- (b-m)).toNat default)else((d).getD (k).toNat default))
    =(if m-y.2.1≤k∧k<m-y.2.1+y.2.2.1 then((y.2.2.2.1).getD (k+y.2.1).toNat default)else if m-y.2.1+y.2.2.1≤k∧k<m+y.2.2.1 then((y.2.2.2.1).getD (k-y.2.2.1).toNat default)else((y.2.2.2.1).getD (k).toNat default))) (fun y=>(y.2.1+y.2.2.1).toNat)
  ⟨rfl,by simp;omega,by simp;omega,by simp;omega,by simp;omega,Sm.refl d,fun k hk=>by
   dsimp only;rw [show m- (m-a)=a by omega,show m+(b-m)=b by omega]⟩ ?_
 rintro⟨(m':Int),(i:Int),(j:Int),(e:List aj),⟨⟩⟩ hI
 dsimp only at hI ⊢
 obtain⟨rfl,h5,h6,h7,h8,h9,h10⟩:=hI
 have hle:=h9.1
 simp (disch:=omega) only [RR]
 refine⟨fun h11=>⟨fun h12=> ?_,fun h12=> ?_⟩,fun h11=> ?_⟩
 ·obtain⟨s1,s2⟩:=hf (m'-i) m' j e (by omega) (by omega) (by omega) (by omega) (by omega)
  refine⟨hp _ _ _ _ (by omega) (by omega) (by omega) (by omega) (by omega),⟨by omega,by omega,by omega,by omega,h9.trans s1,fun k hk=> ?_⟩,by omega⟩
  rw [h10 k hk]
  generalize (f (m'-i,m',j,e,())).1=e' at s1 s2 ⊢
  by_cases c1:m'-i≤k∧k<m'-i+j
  ·rw [if_pos c1,if_neg (by omega),if_neg (by omega),s2 k hk,if_pos c1];congr 2;omega
  ·rw [if_neg c1]
   by_cases c2:m'-i+j≤k∧k<m'+j
   ·rw [if_pos c2]
    by_cases c3:m'- (i-j)≤k∧k<m'- (i-j)+j
    ·rw [if_pos c3,s2 _ (by omega),if_neg (by omega),if_pos (by omega)];congr 2;omega
    ·rw [if_neg c3,if_pos (by omega),s2 _ (by omega),if_neg (by omega),if_neg (by omega)]
   ·rw [if_neg c2,if_neg (by omega),if_neg (by omega),s2 _ hk,if_neg (by omega),if_neg (by omega)]
 ·obtain⟨s1,s2⟩:=hf (m'-i) (m'+j-i) i e (by omega) (by omega) (by omega) (by omega) (by omega)
  refine⟨hp _ _ _ _ (by omega) (by omega) (by omega) (by omega) (by omega),⟨by omega,by omega,by omega,by omega,h9.trans s1,fun k hk=> ?_⟩,by omega⟩
  rw [h10 k hk]
  generalize (f (m'-i,m'+j-i,i,e,())).1=e' at s1 s2 ⊢
  by_cases c1:m'-i≤k∧k<m'-i+j
  ·rw [if_pos c1]
   by_cases c3:k<m'-i+(j-i)
   ·rw [if_pos (by omega),s2 _ (by omega)]
    by_cases c4:k<m'
    ·by_cases c5:k+i<m'+j-i
     ·rw [if_neg (by omega),if_neg (by omega)]
     ·exfalso;omega
    ·by_cases c5:k+i<m'+j-i
     ·rw [if_neg (by omega),if_neg (by omega)]
     ·exfalso;omega
   ·by_cases c6:k<m'
    ·rw [if_neg (by omega),if_pos (by omega),s2 _ (by omega),if_pos (by omega)];congr 2;omega
    ·rw [if_neg (by omega),if_pos (by omega),s2 _ (by omega)]
     by_cases c7:k- (j-i)<m'
     ·rw [if_pos (by omega)];congr 2;omega
     ·exfalso;omega
  ·rw [if_neg c1]
   by_cases c2:m'-i+j≤k∧k<m'+j
   ·rw [if_pos c2,if_neg (by omega),if_neg (by omega),s2 _ hk,if_neg (by omega),if_pos (by omega)];congr 2;omega
   ·rw [if_neg c2,if_neg (by omega),if_neg (by omega),s2 _ hk,if_neg (by omega),if_neg (by omega)]
 ·have hij:i=j:=by omega
  subst hij
  obtain⟨s1,s2⟩:=hf (m'-i) m' i e (by omega) (by omega) (by omega) (by omega) (by omega)
  refine⟨hp _ _ _ _ (by omega) (by omega) (by omega) (by omega) (by omega),h9.trans s1,fun k hk=> ?_⟩
  rw [h10 k hk,s2 k hk]
  repeat' split
  all_goals first | rfl | (exfalso;omega) | (congr 2;omega)
def lH (d:List aj) (a b:Int):Prop:=∀p q,a≤p→p≤q→q<b→le ((d).getD (p).toNat default) ((d).getD (q).toNat default)
def Out (d d':List aj) (a b:Int):Prop:=∀k,0≤k→(k<a∨b≤k)→((d').getD (k).toNat default)=((d).getD (k).toNat default)
theorem ag1 {p:aj×aj×Unit→Bool} {f:aj×aj×Unit→Int×Unit} (hp:∀x y,x.atoms.length<1000000000→p (x,y,())=true) (hf:∀x y,x.atoms.length<1000000000→f (x,y,())=(dJ x.atoms y.atoms,()))
  (a b:Int) (d:List aj) (hd:Sh d) (h1:0≤a) (h2:a≤b) (h3:b≤d.length):
  Rf (std 0) p f (a,b,d,()) (fun y=>Sm d y.1∧Out d y.1 a b∧lH y.1 a b):=by
 have hlen:=hd.1
 dsimp only [Rf,Alg.cl,Alg.cg,Alg.rb,Alg.bd,Alg.l1,Tup.q,Tup.o]
 simp (disch:=omega) only [RR]
 refine au (fun(y:Int×Int×Int×List aj×Unit)=>y.1=a∧y.2.1=b∧a+1≤y.2.2.1∧(y.2.2.1≤b∨y.2.2.1=a+1)∧Sm d y.2.2.2.1∧Out d y.2.2.2.1 a b∧lH y.2.2.2.1 a y.2.2.1) (fun y=>(b-y.2.2.1).toNat)
  ⟨rfl,rfl,by simp,Or.inr rfl,Sm.refl d,fun k _ _=>rfl,fun p q h1 h2 h3=>by dsimp only at h3;rw [show p=q by omega];exact le_refl _⟩ ?_
 rintro⟨(a':Int),(b':Int),(i:Int),(e:List aj),⟨⟩⟩ hI
 dsimp only at hI ⊢
 obtain⟨rfl,rfl,h4,h5,h6,h7,h8⟩:=hI
 have hle:=h6.1
 simp (disch:=omega) only [RR]
 refine⟨fun h9=> ?_,fun h9=>⟨h6,h7,fun p q g1 g2 g3=>h8 p q g1 g2 (by omega)⟩⟩
 refine au (fun(y:Int×Int×Int×Int×List aj×Unit)=>y.1=a'∧y.2.1=b'∧y.2.2.1=i∧a'≤y.2.2.2.1∧y.2.2.2.1≤i∧Sm d y.2.2.2.2.1∧Out d y.2.2.2.2.1 a' b'
   ∧(∀p q,a'≤p→p≤q→q≤i→p≠y.2.2.2.1→q≠y.2.2.2.1→le ((y.2.2.2.2.1).getD (p).toNat default) ((y.2.2.2.2.1).getD (q).toNat default))∧(∀q,y.2.2.2.1<q→q≤i→le ((y.2.2.2.2.1).getD (y.2.2.2.1).toNat default) ((y.2.2.2.2.1).getD (q).toNat default))) (fun y=>y.2.2.2.1.toNat)
  ⟨rfl,rfl,rfl,by simp;omega,by simp,h6,h7,fun p q g1 g2 g3 g4 g5=>h8 p q g1 g2 (by dsimp only at g3 g5;omega),fun q g1 g2=>by dsimp only at g1;omega⟩ ?_
 rintro⟨(a'':Int),(b'':Int),(i':Int),(j:Int),(e':List aj),⟨⟩⟩ hI
 dsimp only at hI ⊢
 obtain⟨rfl,rfl,rfl,h10,h11,h12,h13,h14,h15⟩:=hI
 have hle':=h12.1
 have hs:=h12.sh hd
 simp (disch:=omega) only [RR,List.length_set,hp _ _ (hs.at _),hf _ _ (hs.at _)]
 have e1:(e'.set j.toNat ((e').getD (j-1).toNat default)).set (j-1).toNat ((e').getD (j).toNat default)=swp e' j (j-1):=rfl
 rw [e1]
 repeat' (refine And.intro ?_ ?_)
 all_goals try omega
 ·intro ⟨g1,g2⟩
  repeat' (refine And.intro ?_ ?_)
  all_goals try omega
  ·exact h12.trans (JI (by omega) (by omega) (by omega) (by omega))
  ·intro k hk hk2
   rw [uE (by omega) (by omega) (by omega) (by omega) hk,if_neg (by omega),if_neg (by omega)]
   exact h13 k hk hk2
  ·intro p q k1 k2 k3 k4 k5
   rw [uE (by omega) (by omega) (by omega) (by omega) (by omega),if_neg k4,uE (by omega) (by omega) (by omega) (by omega) (by omega),if_neg k5]
   by_cases c1:p=j
   ·rw [if_pos c1]
    by_cases c2:q=j
    ·rw [if_pos c2];exact le_refl _
    ·rw [if_neg c2];exact h14 _ _ (by omega) (by omega) (by omega) (by omega) (by omega)
   ·rw [if_neg c1]
    by_cases c2:q=j
    ·rw [if_pos c2];exact h14 _ _ (by omega) (by omega) (by omega) (by omega) (by omega)
    ·rw [if_neg c2];exact h14 _ _ (by omega) (by omega) (by omega) (by omega) (by omega)
  ·intro q k1 k2
   rw [uE (by omega) (by omega) (by omega) (by omega) (by omega),if_pos rfl,uE (by omega) (by omega) (by omega) (by omega) (by omega),if_neg (by omega)]
   by_cases c2:q=j
   ·rw [if_pos c2];exact le_of_lt g2
   ·rw [if_neg c2];exact h15 q (by omega) k2
 ·intro g
  refine⟨⟨by omega,by omega,h12,h13,?_⟩,by omega⟩
  have hj:a''<j→le ((e').getD (j-1).toNat default) ((e').getD (j).toNat default):=fun c=>qo (by
   simp only [decide_eq_true c,Bool.true_and,decide_eq_false_iff_not]at g;exact g)
  intro p q k1 k2 k3
  by_cases c1:p=j
  ·subst c1
   by_cases c2:q=p
   ·rw [c2];exact le_refl _
   ·exact h15 q (by omega) (by omega)
  ·by_cases c2:q=j
   ·subst c2
    by_cases c3:p=q-1
    ·rw [c3];exact hj (by omega)
    ·exact(h14 p (q-1) k1 (by omega) (by omega) c1 (by omega)).trans (hj (by omega))
   ·exact h14 p q k1 k2 (by omega) c1 c2
end Go.TX.F
namespace Go.TX.F
open Go Go.AE Go.TX
theorem half {x:Int} (h1:0≤x) (h2:x≤4000000000):IntKind.i64.wrap (jo .shr .u64 (IntKind.u64.wrap x) 1)=x/2:=by
 have e1:IntKind.u64.wrap x=x:=by simp [IntKind.wrap,IntKind.bits,IntKind.signed];omega
 have e2:jo .shr .u64 x 1=x/2:=by
  show x.fdiv (2^ (min (Int.toNat 1) IntKind.u64.bits))=x/2
  rw [show(2:Int)^ (min (Int.toNat 1) IntKind.u64.bits)=2 by decide,Int.fdiv_eq_ediv_of_nonneg _ (by omega)]
 rw [e1,e2,w64 (by omega) (by omega)]
structure Mrg (d d':List aj) (a b:Int):Prop where
 sm:Sm d d'
 out:Out d d' a b
 ins:∀k,a≤k→k<b→∃j,a≤j∧j<b∧((d').getD (k).toNat default)=((d).getD (j).toNat default)
 srt:lH d' a b
structure Ao (a m b:Int) (d:List aj):Prop where
 sh:Sh d
 h1:0≤a
 h2:a<m
 h3:m<b
 h4:b≤d.length
 s1:lH d a m
 s2:lH d m b
theorem Ap {P Q:Prop} [Decidable P] [Decidable Q]:((decide P&&decide Q)=false)↔¬(P∧Q):=by by_cases h1:P<;>by_cases h2:Q<;>simp [h1,h2]
theorem Og {p2:Int×Int×Int×List aj×Unit→Bool} {f2:Int×Int×Int×List aj×Unit→List aj×Unit}
    (hp2:∀(a m b:Int) (d:List aj),d.length<1000000000→0≤a→a<m→m<b→b≤d.length→p2 (a,m,b,d,())=true) (hf2:∀(a m b:Int) (d:List aj),d.length<1000000000→0≤a→a<m→m<b→b≤d.length→Rot d (f2 (a,m,b,d,())).1 a m b)
    {p3:Int×Int×Int×List aj×Unit→Bool} {f3:Int×Int×Int×List aj×Unit→List aj×Unit}
    (K:Int) (hp3:∀(a m b:Int) (d:List aj),Ao a m b d→b-a<K→p3 (a,m,b,d,())=true) (hf3:∀(a m b:Int) (d:List aj),Ao a m b d→b-a<K→Mrg d (f3 (a,m,b,d,())).1 a b)
    (a m b mid i E:Int) (d:List aj) (hd:Ao a m b d) (hK:b-a≤K) (hmid:mid=(a+b)/2) (hE:E=mid+m-i)
    (b1:a≤i) (b2:i≤m) (b3:m≤E) (b4:E≤b) (b5:a<mid) (b6:mid<b)
    (fA:i=a∨E=b∨le ((d).getD (i-1).toNat default) ((d).getD (E).toNat default)) (fB:E=m∨i=m∨le ((d).getD (E-1).toNat default) ((d).getD (i).toNat default)):
      (i<m∧m<E→
          p2 (i,m,E,d,())=true∧
            (a<i∧i<mid→
                p3 (a,i,mid,(f2 (i,m,E,d,())).fst,())=true∧
                  (mid<E∧E<b→
                      p3 (mid,E,b,(f3 (a,i,mid,(f2 (i,m,E,d,())).fst,())).fst,())=true∧
                        Mrg d (f3 (mid,E,b,(f3 (a,i,mid,(f2 (i,m,E,d,())).fst,())).fst,())).fst
                          a b)∧
                    ((decide (mid<E)&&decide (E<b))=false→
                      Mrg d (f3 (a,i,mid,(f2 (i,m,E,d,())).fst,())).fst a b))∧
              ((decide (a<i)&&decide (i<mid))=false→
                (mid<E∧E<b→
                    p3 (mid,E,b,(f2 (i,m,E,d,())).fst,())=true∧
                      Mrg d (f3 (mid,E,b,(f2 (i,m,E,d,())).fst,())).fst a b)∧
                  ((decide (mid<E)&&decide (E<b))=false→
                    Mrg d (f2 (i,m,E,d,())).fst a b)))∧
        ((decide (i<m)&&decide (m<E))=false→
          (a<i∧i<mid→
              p3 (a,i,mid,d,())=true∧
                (mid<E∧E<b→
                    p3 (mid,E,b,(f3 (a,i,mid,d,())).fst,())=true∧
                      Mrg d (f3 (mid,E,b,(f3 (a,i,mid,d,())).fst,())).fst a b)∧
                  ((decide (mid<E)&&decide (E<b))=false→
                    Mrg d (f3 (a,i,mid,d,())).fst a b))∧
            ((decide (a<i)&&decide (i<mid))=false→
              (mid<E∧E<b→
                  p3 (mid,E,b,d,())=true∧Mrg d (f3 (mid,E,b,d,())).fst a b)∧
                ((decide (mid<E)&&decide (E<b))=false→Mrg d d a b))):=by
  obtain⟨hs,h1,h2,h3,h4,hA,hB⟩:=hd
  have hlen:=hs.1
  have cross:∀x y,((a≤x∧x<i)∨(m≤x∧x<E))→((i≤y∧y<m)∨(E≤y∧y<b))→le ((d).getD (x).toNat default) ((d).getD (y).toNat default):=by
    rintro x y (hx | hx) (hy | hy)
    · exact hA x y hx.1 (by omega) hy.2
    · rcases fA with fA | fA | fA
      · omega
      · omega
      · exact((hA x (i-1) hx.1 (by omega) (by omega)).trans fA).trans (hB E y b3 hy.1 hy.2)
    · rcases fB with fB | fB | fB
      · omega
      · omega
      · exact((hB x (E-1) hx.1 (by omega) (by omega)).trans fB).trans (hA i y b1 hy.1 hy.2)
    · exact hB x y hx.1 (by omega) hy.2
  have anR : ∀ e, Rot d e i m E → ∀ R : Prop, R = Mrg d e a b → (a < i ∧ i < mid →
              p3 (a,i,mid,e,())=true∧
                (mid<E∧E<b→
                    p3 (mid,E,b,(f3 (a,i,mid,e,())).fst,())=true∧
                      Mrg d (f3 (mid,E,b,(f3 (a,i,mid,e,())).fst,())).fst a b)∧
                  ((decide (mid<E)&&decide (E<b))=false→
                    Mrg d (f3 (a,i,mid,e,())).fst a b))∧
            ((decide (a<i)&&decide (i<mid))=false→
              (mid<E∧E<b→
                  p3 (mid,E,b,e,())=true∧Mrg d (f3 (mid,E,b,e,())).fst a b)∧
                ((decide (mid<E)&&decide (E<b))=false→R)):=by
    rintro e ⟨r1,r2⟩ R rfl
    have hle:=r1.1
    have hes:=r1.sh hs
    have lo:∀k,a≤k→k<mid→∃x,((a≤x∧x<i)∨(m≤x∧x<E))∧((e).getD (k).toNat default)=((d).getD (x).toNat default):=by
      intro k k1 k2
      rw [r2 k (by omega)]
      by_cases c1:i≤k∧k<i+(E-m)
      · rw [if_pos c1];exact⟨k+(m-i),by omega,rfl⟩
      · rw [if_neg c1,if_neg (by omega)];exact⟨k,by omega,rfl⟩
    have hi:∀k,mid≤k→k<b→∃x,((i≤x∧x<m)∨(E≤x∧x<b))∧((e).getD (k).toNat default)=((d).getD (x).toNat default):=by
      intro k k1 k2
      rw [r2 k (by omega),if_neg (by omega)]
      by_cases c1:i+(E-m)≤k∧k<E
      · rw [if_pos c1];exact⟨k- (E-m),by omega,rfl⟩
      · rw [if_neg c1];exact⟨k,by omega,rfl⟩
    have S1:lH e a i:=by
      intro p q q1 q2 q3
      rw [r2 p (by omega),r2 q (by omega),if_neg (by omega),if_neg (by omega),if_neg (by omega),if_neg (by omega)]
      exact hA p q q1 q2 (by omega)
    have S2:lH e i mid:=by
      intro p q q1 q2 q3
      rw [r2 p (by omega),r2 q (by omega),if_pos (by omega),if_pos (by omega)]
      exact hB _ _ (by omega) (by omega) (by omega)
    have S3:lH e mid E:=by
      intro p q q1 q2 q3
      rw [r2 p (by omega),r2 q (by omega),if_neg (by omega),if_pos (by omega),if_neg (by omega),if_pos (by omega)]
      exact hA _ _ (by omega) (by omega) (by omega)
    have S4:lH e E b:=by
      intro p q q1 q2 q3
      rw [r2 p (by omega),r2 q (by omega),if_neg (by omega),if_neg (by omega),if_neg (by omega),if_neg (by omega)]
      exact hB _ _ (by omega) (by omega) (by omega)
    have fin:∀e1 e2,Mrg e e1 a mid→Mrg e1 e2 mid b→Mrg d e2 a b:=by
      intro e1 e2 m1 m2
      refine⟨(r1.trans m1.sm).trans m2.sm,fun k k1 k2=> ?_,fun k k1 k2=> ?_,fun p q q1 q2 q3=> ?_⟩
      · rw [m2.out k k1 (by omega),m1.out k k1 (by omega),r2 k k1,if_neg (by omega),if_neg (by omega)]
      · by_cases c:k<mid
        · rw [m2.out k (by omega) (by omega)]
          obtain⟨j,j1,j2,j3⟩:=m1.ins k k1 c
          obtain⟨x,x1,x2⟩:=lo j j1 j2
          rw [j3,x2];exact⟨x,by omega,by omega,rfl⟩
        · obtain⟨j,j1,j2,j3⟩:=m2.ins k (by omega) k2
          rw [j3,m1.out j (by omega) (by omega)]
          obtain⟨x,x1,x2⟩:=hi j j1 j2
          rw [x2];exact⟨x,by omega,by omega,rfl⟩
      · by_cases c:q<mid
        · rw [m2.out p (by omega) (by omega),m2.out q (by omega) (by omega)];exact m1.srt p q q1 q2 c
        · by_cases c2:mid≤p
          · exact m2.srt p q c2 q2 q3
          · rw [m2.out p (by omega) (by omega)]
            obtain⟨j,j1,j2,j3⟩:=m1.ins p q1 (by omega)
            obtain⟨x,x1,x2⟩:=lo j j1 j2
            obtain⟨j',j1',j2',j3'⟩:=m2.ins q (by omega) q3
            obtain⟨x',x1',x2'⟩:=hi j' j1' j2'
            rw [j3,x2,j3',m1.out j' (by omega) (by omega),x2']
            exact cross x x' x1 x1'
    have triv:∀e' a' b',lH e' a' b'→Mrg e' e' a' b':=fun e' a' b' h=>⟨Sm.refl _,fun _ _ _=>rfl,fun k k1 k2=>⟨k,k1,k2,rfl⟩,h⟩
    have last : ∀ e1, Mrg e e1 a mid → (mid < E ∧ E < b →
                    p3 (mid,E,b,e1,())=true∧
                      Mrg d (f3 (mid,E,b,e1,())).fst a b)∧
                  ((decide (mid<E)&&decide (E<b))=false→
                    Mrg d e1 a b):=by
      intro e1 m1
      have hle1:=m1.sm.1
      have O:∀a' b',mid≤a'→b'≤b→lH e a' b'→lH e1 a' b':=fun a' b' g1 g2 g p q q1 q2 q3=>by
        rw [m1.out p (by omega) (by omega),m1.out q (by omega) (by omega)];exact g p q q1 q2 q3
      refine⟨fun c=> ?_,fun c=> ?_⟩
      · have pre:Ao mid E b e1:=⟨m1.sm.sh hes,by omega,c.1,c.2,by omega,O _ _ (by omega) (by omega) S3,O _ _ (by omega) (by omega) S4⟩
        exact⟨hp3 _ _ _ _ pre (by omega),fin _ _ m1 (hf3 _ _ _ _ pre (by omega))⟩
      · rw [Ap]at c
        refine fin _ _ m1 (triv _ _ _ ?_)
        by_cases c2:mid<E
        · have:E=b:=by omega
          subst this;exact O _ _ (by omega) (by omega) S3
        · have:E=mid:=by omega
          rw [this]at S4;exact O _ _ (by omega) (by omega) S4
    refine⟨fun c=> ?_,fun c=> ?_⟩
    · have pre:Ao a i mid e:=⟨hes,by omega,c.1,c.2,by omega,S1,S2⟩
      exact⟨hp3 _ _ _ _ pre (by omega),last _ (hf3 _ _ _ _ pre (by omega))⟩
    · rw [Ap]at c
      refine last e (triv _ _ _ ?_)
      by_cases c2:a<i
      · have:i=mid:=by omega
        rw [←this];exact S1
      · have:i=a:=by omega
        rw [this]at S2;exact S2
  refine⟨fun c=>⟨hp2 _ _ _ _ hlen (by omega) c.1 c.2 (by omega),anR _ (hf2 _ _ _ _ hlen (by omega) c.1 c.2 (by omega)) _ rfl⟩,fun c=>anR d ?_ _ rfl⟩
  rw [Ap]at c
  refine⟨Sm.refl _,fun k k1=> ?_⟩
  repeat' split
  all_goals first | rfl | (exfalso;omega) | (congr 2;omega)
theorem ag2 {p:aj×aj×Unit→Bool} {f:aj×aj×Unit→Int×Unit} (hp:∀x y,x.atoms.length<1000000000→p (x,y,())=true) (hf:∀x y,x.atoms.length<1000000000→f (x,y,())=(dJ x.atoms y.atoms,()))
  {p2:Int×Int×Int×List aj×Unit→Bool} {f2:Int×Int×Int×List aj×Unit→List aj×Unit}
  (hp2:∀(a m b:Int) (d:List aj),d.length<1000000000→0≤a→a<m→m<b→b≤d.length→p2 (a,m,b,d,())=true) (hf2:∀(a m b:Int) (d:List aj),d.length<1000000000→0≤a→a<m→m<b→b≤d.length→Rot d (f2 (a,m,b,d,())).1 a m b)
  {p3:Int×Int×Int×List aj×Unit→Bool} {f3:Int×Int×Int×List aj×Unit→List aj×Unit}
  (K:Int) (hp3:∀(a m b:Int) (d:List aj),Ao a m b d→b-a<K→p3 (a,m,b,d,())=true) (hf3:∀(a m b:Int) (d:List aj),Ao a m b d→b-a<K→Mrg d (f3 (a,m,b,d,())).1 a b)
  (a m b:Int) (d:List aj) (hd:Ao a m b d) (hK:b-a≤K):
  Fj (std 0) p f p2 f2 p3 f3 (a,m,b,d,()) (fun y=>Mrg d y.1 a b):=by
 obtain⟨hs,h1,h2,h3,h4,hA,hB⟩:=hd
 have hlen:=hs.1
 dsimp only [Fj,Alg.cl,Alg.cg,Alg.rb,Alg.bd,Alg.l1,Tup.q,Tup.o]
 simp (disch:=omega) only [RR]
 refine⟨fun h5=> ?_,fun h5=>⟨fun h6=> ?_,fun h6=> ?_⟩⟩
 ·
  have hm:m=a+1:=by omega
  subst hm
  refine au (fun(y:Int×Int×Int×List aj×Unit)=>y.1=a∧y.2.2.2.1=d∧a+1≤y.2.1∧y.2.1≤y.2.2.1∧y.2.2.1≤b∧(∀q,a+1≤q→q<y.2.1→dJ ((d).getD (q).toNat default).atoms ((d).getD (a).toNat default).atoms<0)∧(∀q,y.2.2.1≤q→q<b→¬dJ ((d).getD (q).toNat default).atoms ((d).getD (a).toNat default).atoms<0)) (fun y=>(y.2.2.1-y.2.1).toNat)
   ⟨rfl,rfl,by simp,by simp;omega,by simp,fun q g1 g2=>by dsimp only at g2;omega,fun q g1 g2=>by dsimp only at g1;omega⟩ ?_
  rintro⟨(a':Int),(i:Int),(j:Int),(d':List aj),⟨⟩⟩ hI
  dsimp only at hI ⊢
  obtain⟨rfl,rfl,g1,g2,g3,g4,g5⟩:=hI
  simp (disch:=omega) only [RR,half,hp _ _ (hs.at _),hf _ _ (hs.at _)]
  refine⟨fun g6=>⟨by omega,by omega,by omega,by omega,by omega,by omega,by omega,by omega,by omega,fun g7=>⟨⟨by omega,by omega,by omega,fun q k1 k2=> ?_,g5⟩,by omega⟩,fun g7=>⟨⟨by omega,by omega,by omega,g4,fun q k1 k2=> ?_⟩,by omega⟩⟩,fun g6=> ?_⟩
  ·exact dM (hB q ((i+j)/2) k1 (by omega) (by omega)) g7
  ·intro g8;exact g7 (dM (hB ((i+j)/2) q (by omega) (by omega) k2) g8)
  have hij:i=j:=by omega
  subst hij
  refine au (fun(y:Int×Int×List aj×Unit)=>y.1=i∧a'≤y.2.1∧y.2.1≤i-1∧Sm d' y.2.2.1∧(∀k,0≤k→((y.2.2.1).getD (k).toNat default)=if a'≤k∧k<y.2.1 then((d').getD (k+1).toNat default)else if k=y.2.1 then((d').getD (a').toNat default)else((d').getD (k).toNat default))) (fun y=>(i-y.2.1).toNat)
   ⟨rfl,by simp,by simp;omega,Sm.refl _,fun k hk=>by dsimp only;rw [if_neg (by omega)];split;(· congr 2);(· rfl)⟩ ?_
  rintro⟨(i':Int),(k:Int),(e:List aj),⟨⟩⟩ hI
  dsimp only at hI ⊢
  obtain⟨rfl,k1,k2,k3,k4⟩:=hI
  have hle:=k3.1
  simp (disch:=omega) only [RR,List.length_set]
  have e1:(e.set k.toNat ((e).getD (k+1).toNat default)).set (k+1).toNat ((e).getD (k).toNat default)=swp e k (k+1):=rfl
  rw [e1]
  refine⟨fun g7=>⟨by omega,by omega,by omega,by omega,by omega,by omega,by omega,by omega,by omega,by omega,by omega,by omega,by omega,by omega,by omega,by omega,⟨by omega,by omega,k3.trans (JI (by omega) (by omega) (by omega) (by omega)),fun q hq=> ?_⟩,by omega⟩,fun g7=> ?_⟩
  ·rw [uE (by omega) (by omega) (by omega) (by omega) hq,k4 _ (by omega),k4 _ (by omega),k4 _ hq]
   repeat' split
   all_goals first | rfl | (exfalso;omega) | (congr 2;omega)
  ·have hk:k=i'-1:=by omega
   subst hk
   refine⟨k3,fun q hq hq2=> ?_,fun q hq hq2=> ?_,fun q r q1 q2 q3=> ?_⟩
   ·rw [k4 q hq,if_neg (by omega),if_neg (by omega)]
   ·rw [k4 q (by omega)]
    repeat' split
    ·exact⟨q+1,by omega,by omega,rfl⟩
    ·exact⟨a',by omega,by omega,rfl⟩
    ·exact⟨q,by omega,by omega,rfl⟩
   ·rw [k4 q (by omega),k4 r (by omega)]
    by_cases c1:a'≤q∧q<i'-1
    ·rw [if_pos c1]
     by_cases c2:a'≤r∧r<i'-1
     ·rw [if_pos c2];exact hB _ _ (by omega) (by omega) (by omega)
     ·rw [if_neg c2]
      by_cases c3:r=i'-1
      ·rw [if_pos c3];exact le_of_lt (g4 _ (by omega) (by omega))
      ·rw [if_neg c3];exact hB _ _ (by omega) (by omega) (by omega)
    ·rw [if_neg c1,if_neg (by omega:¬(a'≤r∧r<i'-1))]
     by_cases c3:q=i'-1
     ·rw [if_pos c3]
      by_cases c4:r=i'-1
      ·rw [if_pos c4];exact le_refl _
      ·rw [if_neg c4];exact qo (g5 r (by omega) (by omega))
     ·rw [if_neg c3,if_neg (by omega)];exact hB _ _ (by omega) (by omega) (by omega)
 ·
  have hm:b=m+1:=by omega
  subst hm
  refine au (fun(y:Int×Int×Int×List aj×Unit)=>y.1=m∧y.2.2.2.1=d∧a≤y.2.1∧y.2.1≤y.2.2.1∧y.2.2.1≤m∧(∀q,a≤q→q<y.2.1→¬dJ ((d).getD (m).toNat default).atoms ((d).getD (q).toNat default).atoms<0)∧(∀q,y.2.2.1≤q→q<m→dJ ((d).getD (m).toNat default).atoms ((d).getD (q).toNat default).atoms<0)) (fun y=>(y.2.2.1-y.2.1).toNat)
   ⟨rfl,rfl,by simp,by simp;omega,by simp,fun q g1 g2=>by dsimp only at g2;omega,fun q g1 g2=>by dsimp only at g1;omega⟩ ?_
  rintro⟨(m':Int),(i:Int),(j:Int),(d':List aj),⟨⟩⟩ hI
  dsimp only at hI ⊢
  obtain⟨rfl,rfl,g1,g2,g3,g4,g5⟩:=hI
  simp (disch:=omega) only [RR,half,hp _ _ (hs.at _),hf _ _ (hs.at _)]
  refine⟨fun g6=>⟨by omega,by omega,by omega,by omega,by omega,by omega,by omega,by omega,by omega,fun g7=>⟨⟨by omega,by omega,by omega,fun q k1 k2=> ?_,g5⟩,by omega⟩,fun g7=>⟨⟨by omega,by omega,by omega,g4,fun q k1 k2=> ?_⟩,by omega⟩⟩,fun g6=> ?_⟩
  ·intro g8
   have:=hA q ((i+j)/2) k1 (by omega) (by omega)
   apply g7
   have h7:=jM g8 this
   exact h7
  ·exact jM g7 (hA ((i+j)/2) q (by omega) (by omega) k2)
  have hij:i=j:=by omega
  subst hij
  refine au (fun(y:Int×Int×List aj×Unit)=>y.1=i∧i≤y.2.1∧y.2.1≤m'∧Sm d' y.2.2.1∧(∀k,0≤k→((y.2.2.1).getD (k).toNat default)=if y.2.1<k∧k≤m' then((d').getD (k-1).toNat default)else if k=y.2.1 then((d').getD (m').toNat default)else((d').getD (k).toNat default))) (fun y=>(y.2.1-i).toNat)
   ⟨rfl,by simp;omega,by simp,Sm.refl _,fun k hk=>by dsimp only;rw [if_neg (by omega)];split;(· congr 2);(· rfl)⟩ ?_
  rintro⟨(i':Int),(k:Int),(e:List aj),⟨⟩⟩ hI
  dsimp only at hI ⊢
  obtain⟨rfl,k1,k2,k3,k4⟩:=hI
  have hle:=k3.1
  simp (disch:=omega) only [RR,List.length_set]
  have e1:(e.set k.toNat ((e).getD (k-1).toNat default)).set (k-1).toNat ((e).getD (k).toNat default)=swp e k (k-1):=rfl
  rw [e1]
  refine⟨fun g7=>⟨by omega,by omega,by omega,by omega,by omega,by omega,by omega,by omega,by omega,by omega,by omega,by omega,by omega,by omega,by omega,by omega,⟨by omega,by omega,k3.trans (JI (by omega) (by omega) (by omega) (by omega)),fun q hq=> ?_⟩,by omega⟩,fun g7=> ?_⟩
  ·rw [uE (by omega) (by omega) (by omega) (by omega) hq,k4 _ (by omega),k4 _ (by omega),k4 _ hq]
   repeat' split
   all_goals first | rfl | (exfalso;omega) | (congr 2;omega)
  ·have hk:k=i':=by omega
   subst hk
   refine⟨k3,fun q hq hq2=> ?_,fun q hq hq2=> ?_,fun q r q1 q2 q3=> ?_⟩
   ·rw [k4 q hq,if_neg (by omega),if_neg (by omega)]
   ·rw [k4 q (by omega)]
    repeat' split
    ·exact⟨q-1,by omega,by omega,rfl⟩
    ·exact⟨m',by omega,by omega,rfl⟩
    ·exact⟨q,by omega,by omega,rfl⟩
   ·rw [k4 q (by omega),k4 r (by omega)]
    by_cases c1:k<q∧q≤m'
    ·rw [if_pos c1,if_pos (by omega)];exact hA _ _ (by omega) (by omega) (by omega)
    ·rw [if_neg c1]
     by_cases c3:q=k
     ·rw [if_pos c3]
      by_cases c2:k<r∧r≤m'
      ·rw [if_pos c2];exact le_of_lt (g5 _ (by omega) (by omega))
      ·rw [if_neg c2,if_pos (by omega)];exact le_refl _
     ·rw [if_neg c3]
      by_cases c2:k<r∧r≤m'
      ·rw [if_pos c2];exact hA _ _ (by omega) (by omega) (by omega)
      ·rw [if_neg c2]
       by_cases c4:r=k
       ·rw [if_pos c4];exact qo (g4 _ (by omega) (by omega))
       ·rw [if_neg c4];exact hA _ _ (by omega) (by omega) (by omega)
 ·
  simp (disch:=omega) only [RR,half]
  refine⟨by omega,fun h7=> ?_,fun h7=> ?_⟩
  ·refine au (fun(y:Int×Int×Int×Int×Int×Int×Int×Int×List aj×Unit)=>y.1=a∧y.2.1=m∧y.2.2.1=b∧y.2.2.2.1=(a+b)/2∧y.2.2.2.2.1=(a+b)/2+m∧y.2.2.2.2.2.2.2.1=(a+b)/2+m-1∧y.2.2.2.2.2.2.2.2.1=d∧(a+b)/2+m-b≤y.2.2.2.2.2.1∧y.2.2.2.2.2.1≤y.2.2.2.2.2.2.1∧y.2.2.2.2.2.2.1≤(a+b)/2
     ∧(∀q,(a+b)/2+m-b≤q→q<y.2.2.2.2.2.1→¬dJ ((d).getD ((a+b)/2+m-1-q).toNat default).atoms ((d).getD (q).toNat default).atoms<0)∧(∀q,y.2.2.2.2.2.2.1≤q→q< (a+b)/2→dJ ((d).getD ((a+b)/2+m-1-q).toNat default).atoms ((d).getD (q).toNat default).atoms<0)) (fun y=>(y.2.2.2.2.2.2.1-y.2.2.2.2.2.1).toNat)
    ⟨rfl,rfl,rfl,rfl,rfl,rfl,rfl,by simp,by simp;omega,by simp,fun q g1 g2=>by dsimp only at g2;omega,fun q g1 g2=>by dsimp only at g1;omega⟩ ?_
   rintro⟨(a':Int),(m':Int),(b':Int),(mid:Int),(n:Int),(i:Int),(j:Int),(r:Int),(d':List aj),⟨⟩⟩ hI
   dsimp only at hI ⊢
   obtain⟨rfl,rfl,rfl,hmid,hn,hr,rfl,g1,g2,g3,g4,g5⟩:=hI
   rw [←hmid]at g1 g3 g4 g5 h7
   simp (disch:=omega) only [RR,half,hp _ _ (hs.at _),hf _ _ (hs.at _)]
   refine⟨fun g6=>⟨by omega,by omega,by omega,by omega,by omega,by omega,by omega,by omega,by omega,fun g7=>⟨⟨hmid,hn,hr,by omega,by omega,by omega,fun q k1 k2=> ?_,by rw [←hmid];exact g5⟩,by omega⟩,fun g7=>⟨⟨hmid,hn,hr,by omega,by omega,by omega,by rw [←hmid];exact g4,fun q k1 k2=> ?_⟩,by omega⟩⟩,fun g6=> ?_⟩
   ·rw [←hmid]at k1 ⊢
    intro g8
    apply g7
    rw [hr,←hmid]
    exact dM (hB _ _ (by omega) (by omega) (by omega)) (jM g8 (hA _ _ (by omega) (by omega) (by omega)))
   ·rw [←hmid]at k2 ⊢
    rw [hr,←hmid]at g7
    exact dM (hB _ _ (by omega) (by omega) (by omega)) (jM g7 (hA _ _ (by omega) (by omega) (by omega)))
   ·have hij:i=j:=by omega
    subst hij
    refine Og hp2 hf2 K hp3 hf3 a' m' b' mid i (n-i) d' ⟨hs,h1,h2,h3,h4,hA,hB⟩ hK hmid (by omega) (by omega) (by omega) (by omega) (by omega) (by omega) (by omega) ?_ ?_
    ·by_cases c:i=mid+m'-b'
     ·first | exact Or.inl (by omega) | exact Or.inr (Or.inl (by omega))
     ·refine Or.inr (Or.inr ?_)
      have:=g4 (i-1) (by omega) (by omega)
      rw [show mid+m'-1- (i-1)=n-i by omega]at this
      exact qo this
    ·by_cases c:i=mid
     ·first | exact Or.inl (by omega) | exact Or.inr (Or.inl (by omega))
     ·refine Or.inr (Or.inr ?_)
      have:=g5 i (by omega) (by omega)
      rw [show mid+m'-1-i=n-i-1 by omega]at this
      exact le_of_lt this
  ·refine au (fun(y:Int×Int×Int×Int×Int×Int×Int×Int×List aj×Unit)=>y.1=a∧y.2.1=m∧y.2.2.1=b∧y.2.2.2.1=(a+b)/2∧y.2.2.2.2.1=(a+b)/2+m∧y.2.2.2.2.2.2.2.1=(a+b)/2+m-1∧y.2.2.2.2.2.2.2.2.1=d∧a≤y.2.2.2.2.2.1∧y.2.2.2.2.2.1≤y.2.2.2.2.2.2.1∧y.2.2.2.2.2.2.1≤m
     ∧(∀q,a≤q→q<y.2.2.2.2.2.1→¬dJ ((d).getD ((a+b)/2+m-1-q).toNat default).atoms ((d).getD (q).toNat default).atoms<0)∧(∀q,y.2.2.2.2.2.2.1≤q→q<m→dJ ((d).getD ((a+b)/2+m-1-q).toNat default).atoms ((d).getD (q).toNat default).atoms<0)) (fun y=>(y.2.2.2.2.2.2.1-y.2.2.2.2.2.1).toNat)
    ⟨rfl,rfl,rfl,rfl,rfl,rfl,rfl,by simp,by simp;omega,by simp,fun q g1 g2=>by dsimp only at g2;omega,fun q g1 g2=>by dsimp only at g1;omega⟩ ?_
   rintro⟨(a':Int),(m':Int),(b':Int),(mid:Int),(n:Int),(i:Int),(j:Int),(r:Int),(d':List aj),⟨⟩⟩ hI
   dsimp only at hI ⊢
   obtain⟨rfl,rfl,rfl,hmid,hn,hr,rfl,g1,g2,g3,g4,g5⟩:=hI
   rw [←hmid]at g4 g5 h7
   simp (disch:=omega) only [RR,half,hp _ _ (hs.at _),hf _ _ (hs.at _)]
   refine⟨fun g6=>⟨by omega,by omega,by omega,by omega,by omega,by omega,by omega,by omega,by omega,fun g7=>⟨⟨hmid,hn,hr,by omega,by omega,by omega,fun q k1 k2=> ?_,by rw [←hmid];exact g5⟩,by omega⟩,fun g7=>⟨⟨hmid,hn,hr,by omega,by omega,by omega,by rw [←hmid];exact g4,fun q k1 k2=> ?_⟩,by omega⟩⟩,fun g6=> ?_⟩
   ·rw [←hmid]
    intro g8
    apply g7
    rw [hr,←hmid]
    exact dM (hB _ _ (by omega) (by omega) (by omega)) (jM g8 (hA _ _ (by omega) (by omega) (by omega)))
   ·rw [←hmid]
    rw [hr,←hmid]at g7
    exact dM (hB _ _ (by omega) (by omega) (by omega)) (jM g7 (hA _ _ (by omega) (by omega) (by omega)))
   ·have hij:i=j:=by omega
    subst hij
    refine Og hp2 hf2 K hp3 hf3 a' m' b' mid i (n-i) d' ⟨hs,h1,h2,h3,h4,hA,hB⟩ hK hmid (by omega) (by omega) (by omega) (by omega) (by omega) (by omega) (by omega) ?_ ?_
    ·by_cases c:i=a'
     ·first | exact Or.inl (by omega) | exact Or.inr (Or.inl (by omega))
     ·refine Or.inr (Or.inr ?_)
      have:=g4 (i-1) (by omega) (by omega)
      rw [show mid+m'-1- (i-1)=n-i by omega]at this
      exact qo this
    ·by_cases c:i=m'
     ·first | exact Or.inl (by omega) | exact Or.inr (Or.inl (by omega))
     ·refine Or.inr (Or.inr ?_)
      have:=g5 i (by omega) (by omega)
      rw [show mid+m'-1-i=n-i-1 by omega]at this
      exact le_of_lt this
end Go.TX.F
namespace Go.TX.F
open Go Go.AE Go.TX
theorem vB {s a x:Int} (h:s ∣ a) (h1:a<x) (h2:x<a+s):¬s ∣ x:=fun h3=>by
 have:=Int.le_of_dvd (by omega) (Int.dvd_sub h3 h);omega
theorem lH.adj {d:List aj} {a b:Int} (h:∀p,a≤p→p+1<b→le ((d).getD (p).toNat default) ((d).getD (p+1).toNat default)):lH d a b:=by
 intro p q h1 h2 h3
 obtain⟨n,hn⟩:∃n:Nat,q=p+n:=⟨(q-p).toNat,by omega⟩
 subst hn
 clear h2
 induction n with
 | zero=>rw [show p+((0:Nat):Int)=p by omega];exact le_refl _
 | succ n ih=>
  have:=h (p+n) (by omega) (by omega)
  rw [show p+((n+1:Nat):Int)=p+n+1 by omega]
  exact(ih (by omega)).trans this
theorem lH.at1 {d:List aj} {a b p:Int} (h:lH d a b) (h1:a≤p) (h2:p+1<b):le ((d).getD (p).toNat default) ((d).getD (p+1).toNat default):=h p (p+1) h1 (by omega) h2
def Bl (d:List aj) (s n:Int):Prop:=∀p,0≤p→p+1<n→¬s ∣ p+1→le ((d).getD (p).toNat default) ((d).getD (p+1).toNat default)
theorem ag3 {p:Int×Int×List aj×Unit→Bool} {f:Int×Int×List aj×Unit→List aj×Unit}
  (hp:∀(a b:Int) (d:List aj),Sh d→0≤a→a≤b→b≤d.length→p (a,b,d,())=true) (hf:∀(a b:Int) (d:List aj),Sh d→0≤a→a≤b→b≤d.length→Sm d (f (a,b,d,())).1∧Out d (f (a,b,d,())).1 a b∧lH (f (a,b,d,())).1 a b)
  {p3:Int×Int×Int×List aj×Unit→Bool} {f3:Int×Int×Int×List aj×Unit→List aj×Unit}
  (hp3:∀(a m b:Int) (d:List aj),Ao a m b d→p3 (a,m,b,d,())=true) (hf3:∀(a m b:Int) (d:List aj),Ao a m b d→Mrg d (f3 (a,m,b,d,())).1 a b)
  (n:Int) (d:List aj) (hd:Sh d) (hn:n=d.length):
  Rl (std 0) p f p3 f3 (n,d,()) (fun y=>Sm d y.1∧lH y.1 0 n):=by
 have hlen:=hd.1
 dsimp only [Rl,Alg.cl,Alg.cg,Alg.rb,Alg.bd,Alg.l1,Tup.q,Tup.o]
 simp (disch:=omega) only [RR]
 refine au (fun(y:Int×Int×Int×Int×List aj×Unit)=>y.1=n∧y.2.1=20∧0≤y.2.2.1∧y.2.2.1≤n∧(20:Int) ∣ y.2.2.1∧y.2.2.2.1=y.2.2.1+20∧Sm d y.2.2.2.2.1∧Bl y.2.2.2.2.1 20 y.2.2.1) (fun y=>(n+20-y.2.2.2.1).toNat)
  ⟨rfl,rfl,by simp,by simp;omega,⟨0,by simp⟩,rfl,Sm.refl _,fun p h1 h2=>by dsimp only at h2;omega⟩ ?_
 rintro⟨(n':Int),(s:Int),(a:Int),(b:Int),(e:List aj),⟨⟩⟩ hI
 dsimp only at hI ⊢
 obtain⟨rfl,rfl,h1,h2,h3,rfl,h5,h6⟩:=hI
 have hle:=h5.1
 have hs:=h5.sh hd
 simp (disch:=omega) only [RR]
 have bl:∀a c (e e':List aj),0≤a→(20:Int) ∣ a→c≤a+20→Bl e 20 a→Out e e' a c→lH e' a c→Bl e' 20 c:=by
  intro a c e e' c0 c1 c2 c3 c4 c5 q q1 q2 q3
  by_cases k1:q+1<a
  ·rw [c4 q q1 (by omega),c4 (q+1) (by omega) (by omega)];exact c3 q q1 k1 q3
  ·exact c5.at1 (by omega) q2
 refine⟨fun h7=> ?_,fun h7=> ?_⟩
 ·obtain⟨t1,t2,t3⟩:=hf a (a+20) e hs h1 (by omega) (by omega)
  exact⟨hp a (a+20) e hs h1 (by omega) (by omega),⟨by omega,by omega,by omega,h5.trans t1,bl a (a+20) _ _ h1 h3 (by omega) h6 t2 t3⟩,by omega⟩
 obtain⟨t1,t2,t3⟩:=hf a n' e hs h1 (by omega) (by omega)
 refine⟨hp a n' e hs h1 (by omega) (by omega),?_⟩
 have t4:=bl a n' _ _ h1 h3 (by omega) h6 t2 t3
 generalize (f (a,n',e,())).1=e2 at t1 t2 t3 t4 ⊢
 have u1:=h5.trans t1
 clear t1 t2 t3 h5 h6
 refine au (fun(y:Int×Int×List aj×Unit)=>y.1=n'∧0<y.2.1∧(y.2.1≤20∨y.2.1≤2*n')∧Sm d y.2.2.1∧Bl y.2.2.1 y.2.1 n') (fun y=>(n'-y.2.1).toNat)
  ⟨rfl,by simp,Or.inl (by simp),u1,t4⟩ ?_
 rintro⟨(n:Int),(s:Int),(e3:List aj),⟨⟩⟩ hI
 dsimp only at hI ⊢
 obtain⟨rfl,g1,g2,g3,g4⟩:=hI
 simp (disch:=omega) only [RR]
 refine⟨fun g5=> ?_,fun g5=>⟨g3,lH.adj fun q q1 q2=>g4 q q1 q2 (vB (a:=0) ⟨0,by simp⟩ (by omega) (by omega))⟩⟩
 refine au (fun(y:Int×Int×Int×Int×List aj×Unit)=>y.1=n∧y.2.1=s∧0≤y.2.2.1∧y.2.2.1≤n∧(2*s) ∣ y.2.2.1∧y.2.2.2.1=y.2.2.1+2*s∧Sm d y.2.2.2.2.1
   ∧∀p,0≤p→p+1<n→¬(2*s) ∣ p+1→(p+1<y.2.2.1∨¬s ∣ p+1)→le ((y.2.2.2.2.1).getD (p).toNat default) ((y.2.2.2.2.1).getD (p+1).toNat default)) (fun y=>(n+2*s-y.2.2.2.1).toNat)
  ⟨rfl,rfl,by simp,by simp;omega,⟨0,by simp⟩,by simp,g3,fun q q1 q2 q3 q4=>g4 q q1 q2 (by dsimp only at q4;rcases q4 with q4 | q4;(· omega);(· exact q4))⟩ ?_
 rintro⟨(n':Int),(s':Int),(a:Int),(b:Int),(e4:List aj),⟨⟩⟩ hI
 dsimp only at hI ⊢
 obtain⟨rfl,rfl,k1,k2,k3,rfl,k5,k6⟩:=hI
 have hle:=k5.1
 have hs:=k5.sh hd
 have ks:s' ∣ a:=Int.dvd_trans ⟨2,by omega⟩ k3
 simp (disch:=omega) only [RR]
 have blk:∀x,x≤n'→a+s'<x→x≤a+2*s'→Ao a (a+s') x e4:=fun x x1 x2 x3=>
  ⟨hs,k1,by omega,x2,by omega,lH.adj fun q q1 q2=>by
   refine k6 q (by omega) (by omega) (vB k3 (by omega) (by omega)) (Or.inr (vB ks (by omega) (by omega))),
   lH.adj fun q q1 q2=>by
   refine k6 q (by omega) (by omega) (vB k3 (by omega) (by omega)) (Or.inr (vB (Int.dvd_add ks (Int.dvd_refl s')) (by omega) (by omega)))⟩
 have stp:∀x e5,x≤n'→(x=a+2*s'∨x=n')→x≤a+2*s'→Mrg e4 e5 a x→∀p,0≤p→p+1<n'→¬(2*s') ∣ p+1→(p+1<x∨¬s' ∣ p+1)→le ((e5).getD (p).toNat default) ((e5).getD (p+1).toNat default):=by
  intro x e5 x1 x2 x3 m1 q q1 q2 q3 q4
  by_cases c1:q+1<a
  ·rw [m1.out q q1 (by omega),m1.out (q+1) (by omega) (by omega)];exact k6 q q1 q2 q3 (Or.inl c1)
  ·by_cases c2:q+1=a
   ·rw [c2]at q3;exact absurd k3 q3
   ·by_cases c3:q+1<x
    ·exact m1.srt.at1 (by omega) c3
    ·by_cases c4:q+1=x
     ·exfalso
      rcases x2 with x2 | x2
      ·rw [c4,x2]at q3;exact q3 (Int.dvd_add k3 (Int.dvd_refl _))
      ·omega
     ·rw [m1.out q q1 (by omega),m1.out (q+1) (by omega) (by omega)]
      refine k6 q q1 q2 q3 (Or.inr ?_)
      rcases q4 with q4 | q4
      ·omega
      ·exact q4
 refine⟨fun k7=> ?_,fun k7=>⟨fun k8=> ?_,fun k8=> ?_⟩⟩
 ·have pre:=blk (a+2*s') k7 (by omega) (by omega)
  have m1:=hf3 _ _ _ _ pre
  exact⟨hp3 _ _ _ _ pre,⟨by omega,by omega,Int.dvd_add k3 (Int.dvd_refl _),k5.trans m1.sm,stp _ _ k7 (Or.inl rfl) (by omega) m1⟩,by omega⟩
 ·have pre:=blk n' (by omega) k8 (by omega)
  have m1:=hf3 _ _ _ _ pre
  refine⟨hp3 _ _ _ _ pre,⟨by omega,Or.inr (by omega),k5.trans m1.sm,fun q q1 q2 q3=> ?_⟩,by omega⟩
  exact stp _ _ (by omega) (Or.inr rfl) (by omega) m1 q q1 q2 (by rw [Int.mul_comm];exact q3) (Or.inl q2)
 ·refine⟨⟨by omega,Or.inr (by omega),k5,fun q q1 q2 q3=> ?_⟩,by omega⟩
  rw [Int.mul_comm]at q3
  by_cases c1:q+1<a
  ·exact k6 q q1 q2 q3 (Or.inl c1)
  ·by_cases c2:q+1=a
   ·rw [c2]at q3;exact absurd k3 q3
   ·exact k6 q q1 q2 q3 (Or.inr (vB ks (by omega) (by omega)))
theorem ag4 {p:Int×List aj×Unit→Bool} {f:Int×List aj×Unit→List aj×Unit} (hp:∀(n:Int) (d:List aj),Sh d→n=d.length→p (n,d,())=true)
  (hf:∀(n:Int) (d:List aj),Sh d→n=d.length→Sm d (f (n,d,())).1∧lH (f (n,d,())).1 0 n) (d:List aj) (hd:Sh d):
  Rm (std 0) p f (d,()) (fun y=>Sm d y.1∧lH y.1 0 d.length):=by
 have:=hf _ d hd rfl
 dsimp only [Rm,Alg.cl,Alg.cg,Alg.rb,Alg.bd,Alg.l1,Tup.q,Tup.o]
 exact⟨hp _ d hd rfl,this⟩
end Go.TX.F
namespace Go.TX.F
open Go Go.AE Go.TX
def cf (l:List aj) (k:List Int):Int:=(l.map fun m=>if m.atoms=k then m.bD else 0).sum
theorem j4 (k:List Int):cf [] k=0:=rfl
theorem bV (m:aj) (l:List aj) (k:List Int):cf (m::l) k=(if m.atoms=k then m.bD else 0)+cf l k:=by simp [cf]
theorem cu (a b:List aj) (k:List Int):cf (a++b) k=cf a k+cf b k:=by simp [cf]
theorem iJ {k:List Int}:∀ {l:List aj},(∀m∈l,m.atoms≠k)→cf l k=0
 | [],_=>rfl
 | m::l,h=>by rw [bV,if_neg (h m (by simp)),iJ (fun m hm=>h m (by simp [hm]))];rfl
theorem Sm.cf {a b:List aj} (h:Sm a b) (k:List Int):cf b k=cf a k:=h.sum _
def lt (a b:aj):Prop:=dJ a.atoms b.atoms<0
theorem lt.ne {a b:aj} (h:lt a b):a.atoms≠b.atoms:=fun e=>by unfold lt at h;rw [e,jL.2 rfl]at h;omega
structure Nf (o:List aj):Prop where
 ss:o.Pairwise lt
 co:∀m∈o,1≤m.bD∧m.bD≤65535
theorem TU:∀ {o1 o2:List aj},Nf o1→Nf o2→(∀k,cf o1 k=cf o2 k)→o1=o2
 | [],[],_,_,_=>rfl
 | [],m::o,_,h2,h=>by
  have:=h m.atoms
  rw [bV,if_pos rfl,iJ (fun m' hm'=>((List.rel_of_pairwise_cons h2.ss hm').ne).symm),j4]at this
  have:=(h2.co m (by simp));omega
 | m::o,[],h1,_,h=>by
  have:=h m.atoms
  rw [bV,if_pos rfl,iJ (fun m' hm'=>((List.rel_of_pairwise_cons h1.ss hm').ne).symm),j4]at this
  have:=(h1.co m (by simp));omega
 | m1::o1,m2::o2,h1,h2,h=>by
  have c1:=h1.co m1 (by simp)
  have c2:=h2.co m2 (by simp)
  have z1:cf o1 m1.atoms=0:=iJ fun m' hm'=>((List.rel_of_pairwise_cons h1.ss hm').ne).symm
  have z2:cf o2 m2.atoms=0:=iJ fun m' hm'=>((List.rel_of_pairwise_cons h2.ss hm').ne).symm
  have tr:∀ {a b c:aj},lt a b→lt b c→lt a c:=fun g1 g2=>dM (le_of_lt g1) g2
  have e:m1.atoms=m2.atoms:=by
   by_cases g1:lt m1 m2
   ·have:=h m1.atoms
    rw [bV,if_pos rfl,z1,bV,if_neg (fun e=>g1.ne e.symm),iJ (fun m' hm'=>((tr g1 (List.rel_of_pairwise_cons h2.ss hm')).ne).symm)]at this
    omega
   ·by_cases g2:lt m2 m1
    ·have:=h m2.atoms
     rw [bV,if_neg (fun e=>g2.ne e.symm),iJ (fun m' hm'=>((tr g2 (List.rel_of_pairwise_cons h1.ss hm')).ne).symm),bV,if_pos rfl,z2]at this
     omega
    ·unfold lt at g1 g2
     rw [qm]at g2
     exact jL.1 (by omega)
  have ec:m1.bD=m2.bD:=by
   have:=h m1.atoms
   rw [bV,if_pos rfl,z1,bV,if_pos e.symm,e,z2]at this;omega
  have em:m1=m2:=by cases m1;cases m2;simp_all
  subst em
  refine congrArg _ (TU ⟨h1.ss.tail,fun m hm=>h1.co m (by simp [hm])⟩ ⟨h2.ss.tail,fun m hm=>h2.co m (by simp [hm])⟩ (fun k=>by
   have:=h k;rw [bV,bV]at this;omega))
noncomputable def nf (l:List aj):List aj:= @dite _ (∃o,Nf o∧∀k,cf o k=cf l k%65536) (Classical.propDecidable _) (fun h=>Classical.choose h) (fun _=> [])
theorem TW {l o:List aj} (h:Nf o) (h2:∀k,cf o k=cf l k%65536):nf l=o:=by
 have he:∃o,Nf o∧∀k,cf o k=cf l k%65536:=⟨o,h,h2⟩
 unfold nf;rw [dif_pos he]
 have:=Classical.choose_spec he
 exact TU this.1 h (fun k=>(this.2 k).trans (h2 k).symm)
noncomputable def pq (l:List aj):Bool×List aj:=(bp (aL (nf l)),if bp (aL (nf l))then nf l else [])
def Cb (l:List aj):Prop:=∀m∈l,0≤m.bD∧m.bD≤65535
theorem anS {p1:List Int×List Int×Unit→Bool} {f1:List Int×List Int×Unit→Int×Unit} (hp1:∀a b,a.length<1000000000→p1 (a,b,())=true) (hf1:∀a b,a.length<1000000000→f1 (a,b,())=(dJ a b,()))
  {p2:List aj×Unit→Bool} {f2:List aj×Unit→Bool×Unit} (hp2:∀a,Sh a→p2 (a,())=true) (hf2:∀a,Sh a→f2 (a,())=(bp (aL a),()))
  {p3:Int×Unit→Bool} {f3:Int×Unit→Int×Unit} (hp3:∀a,p3 (a,())=true) (hf3:∀a,f3 (a,())=(a%65536,()))
  {p4:List Int×Unit→Bool} {f4:List Int×Unit→List Int×Unit} (hp4:∀a,a.length≤1073741824→p4 (a,())=true) (hf4:∀a,a.length≤1073741824→f4 (a,())=(a,()))
  {p5:List aj×Unit→Bool} {f5:List aj×Unit→List aj×Unit} (hp5:∀d,Sh d→p5 (d,())=true) (hf5:∀d,Sh d→Sm d (f5 (d,())).1∧lH (f5 (d,())).1 0 d.length)
  (l:List aj) (hl:Sh l) (hc:Cb l):Yw (std 0) p1 f1 p2 f2 p3 f3 p4 f4 p5 f5 (l,()) (fun y=>y.1=(pq l).1∧y.2.2.1=(pq l).2):=by
 obtain⟨s1,s2⟩:=hf5 l hl
 dsimp only [Yw,Alg.cl,Alg.cg,Alg.rb,Alg.bd,Alg.l1,Tup.q,Tup.o]
 simp (disch:=omega) only [RR,hp5 l hl]
 generalize (f5 (l,())).1=d at s1 s2 ⊢
 have hle:=s1.1
 have hs:=s1.sh hl
 have hlen:=hs.1
 have hcd:Cb d:=fun m hm=>hc m (s1.mem hm)
 refine au (fun(y:Int×List aj×List aj×Unit)=>0≤y.1∧y.1≤d.length∧y.2.1=d∧Nf y.2.2.1∧y.2.2.1.length≤y.1∧(∀k,cf y.2.2.1 k=cf (d.take y.1.toNat) k%65536)∧(∀m∈y.2.2.1,m∈y.2.2.1→m.atoms.length<1000000000)
   ∧(y.1<d.length→(∀m∈y.2.2.1,lt m ((d).getD (y.1).toNat default))∧(∀m∈d.take y.1.toNat,lt m ((d).getD (y.1).toNat default)))) (fun y=>(d.length-y.1).toNat)
  ⟨by simp,by simp,rfl,⟨List.Pairwise.nil,fun m hm=>absurd hm (by simp)⟩,by simp,fun k=>by simp [cf],fun m hm=>absurd hm (by simp),fun _=>⟨fun m hm=>absurd hm (by simp),fun m hm=>absurd hm (by simp)⟩⟩ ?_
 rintro⟨(i:Int),(d':List aj),(o:List aj),⟨⟩⟩ hI
 dsimp only at hI ⊢
 obtain⟨h1,h2,rfl,h4,h5,h6,h7,h8⟩:=hI
 have ho:Sh o:=⟨by omega,fun m hm=>h7 m hm hm⟩
 simp (disch:=omega) only [RR,hp2 o ho,hf2 o ho]
 refine⟨fun h9=>⟨by omega,by omega,by omega,by omega,?_⟩,fun h9=> ?_⟩
 ·obtain⟨g1,g2⟩:=h8 h9
  have z:cf (d'.take i.toNat) ((d').getD (i).toNat default).atoms=0:=iJ fun m hm=>(g2 m hm).ne
  refine au (fun(y:Int×Int×List aj×aj×List aj×Unit)=>i≤y.1∧y.1≤d'.length∧y.2.2.1=d'∧y.2.2.2.1=((d').getD (i).toNat default)∧y.2.2.2.2.1=o∧y.2.1=cf (d'.take y.1.toNat) ((d').getD (i).toNat default).atoms%65536
    ∧(∀k,k≠((d').getD (i).toNat default).atoms→cf (d'.take y.1.toNat) k=cf (d'.take i.toNat) k)∧(∀m∈d'.take y.1.toNat,lt m ((d').getD (i).toNat default)∨m.atoms=((d').getD (i).toNat default).atoms)) (fun y=>(d'.length-y.1).toNat)
   ⟨by simp,by simp;omega,rfl,rfl,rfl,by rw [z];rfl,fun k _=>rfl,fun m hm=>Or.inl (g2 m hm)⟩ ?_
  rintro⟨(j:Int),(c:Int),(d'':List aj),(fi:aj),(o':List aj),⟨⟩⟩ hI
  dsimp only at hI ⊢
  obtain⟨k1,k2,rfl,rfl,rfl,k6,k7,k8⟩:=hI
  have hc0:0≤c∧c<65536:=by omega
  have hcj:j<d''.length→0≤((d'').getD (j).toNat default).bD∧((d'').getD (j).toNat default).bD≤65535:=fun h=>hcd _ (eO (by omega) h)
  simp (disch:=omega) only [RR,hp1 _ _ (hs.at _),hf1 _ _ (hs.at _),hp3,hf3,hp4 _ (Nat.le_trans (Nat.le_of_lt (hs.at _)) (by omega)),hf4 _ (Nat.le_trans (Nat.le_of_lt (hs.at _)) (by omega))]
  refine⟨by omega,by omega,by omega,by omega,fun⟨m1,m2⟩=> ?_,fun m1=>⟨fun m2=>⟨?_,?_,?_⟩,fun m2=>⟨?_,?_⟩⟩⟩
  ·have e:=jL.1 m2
   have:=hcj m1
   rw [w64 (by omega) (by omega)]
   have ts:d''.take (j+1).toNat=d''.take j.toNat++ [((d'').getD (j).toNat default)]:=(bU (by omega) m1 rfl).symm
   refine⟨by omega,by omega,by omega,by omega,⟨by omega,by omega,?_,fun k hk=> ?_,fun m hm=> ?_⟩,by omega⟩
   ·rw [ts,cu,bV,if_pos e.symm,j4,k6];omega
   ·rw [ts,cu,bV,if_neg (fun h=>hk (by rw [e,h])),j4,k7 k hk];omega
   ·rw [ts,List.mem_append,List.mem_singleton]at hm
    rcases hm with hm | hm
    ·exact k8 m hm
    ·right;rw [hm,e]
  all_goals
   have hb:j<d''.length→lt ((d'').getD (i).toNat default) ((d'').getD (j).toNat default):=fun hj=>by
    rw [decide_eq_true hj,Bool.true_and,decide_eq_false_iff_not]at m1
    have:=s2 i j h1 k1 (by omega)
    unfold le at this;unfold lt;omega
   have hij:i<j:=by
    by_cases hj:j<d''.length
    ·by_cases e:i=j
     ·have:=(hb hj).ne;rw [e]at this;exact absurd rfl this
     ·omega
    ·omega
  ·simp only [List.length_append,List.length_cons,List.length_nil];omega
  ·have co:∀k,cf (o'++ [⟨c,((d'').getD (i).toNat default).atoms⟩]) k=cf (d''.take j.toNat) k%65536:=fun k=>by
    rw [cu,bV,j4]
    dsimp only
    by_cases hk:((d'').getD (i).toNat default).atoms=k
    ·subst hk
     rw [if_pos rfl,iJ (fun m hm=>(g1 m hm).ne),k6];omega
    ·rw [if_neg hk,k7 k (fun e=>hk e.symm),h6 k];omega
   refine⟨by omega,by omega,⟨?_,?_⟩,?_,co,?_,fun hj=>⟨?_,?_⟩⟩
   ·rw [List.pairwise_append]
    exact⟨h4.ss,List.pairwise_singleton _ _,fun a ha b hb=>by rw [List.mem_singleton]at hb;subst hb;exact g1 a ha⟩
   ·intro m hm
    rw [List.mem_append,List.mem_singleton]at hm
    rcases hm with hm | rfl
    ·exact h4.co m hm
    ·dsimp only;omega
   ·simp only [List.length_append,List.length_cons,List.length_nil];omega
   ·intro m hm _
    rw [List.mem_append,List.mem_singleton]at hm
    rcases hm with hm | rfl
    ·exact h7 m hm hm
    ·exact hs.at _
   ·intro m hm
    rw [List.mem_append,List.mem_singleton]at hm
    rcases hm with hm | rfl
    ·exact dM (le_of_lt (g1 m hm)) (hb hj)
    ·exact hb hj
   ·intro m hm
    rcases k8 m hm with k | k
    ·exact dM (le_of_lt k) (hb hj)
    ·have:=hb hj;unfold lt at this ⊢;rw [k];exact this
  ·omega
  ·refine⟨by omega,by omega,h4,by omega,fun k=> ?_,h7,fun hj=>⟨?_,?_⟩⟩
   ·by_cases hk:((d'').getD (i).toNat default).atoms=k
    ·subst hk
     rw [iJ (fun m hm=>(g1 m hm).ne)];omega
    ·rw [k7 k (fun e=>hk e.symm),h6 k]
   ·intro m hm
    exact dM (le_of_lt (g1 m hm)) (hb hj)
   ·intro m hm
    rcases k8 m hm with k | k
    ·exact dM (le_of_lt k) (hb hj)
    ·have:=hb hj;unfold lt at this ⊢;rw [k];exact this
  ·omega
 ·have e:nf l=o:=TW h4 (fun k=>by rw [h6 k,List.take_of_length_le (by omega),s1.cf k])
  unfold pq
  rw [e]
  refine⟨fun h=> ?_,fun h=> ?_⟩
  ·rw [h];exact⟨rfl,by simp⟩
  ·rw [h];exact⟨rfl,by simp⟩
end Go.TX.F
namespace Go.TX.F
open Go Go.AE Go.TX
theorem anT (n:Int) (h1:0≤n) (h2:n≤1073741824):Yx (std 0) (n,()) (fun y=>y=([],())):=by
 dsimp only [Yx,Alg.cl,Alg.cg,Alg.rb,Alg.bd,Alg.l1,Tup.q,Tup.o]
 simp (disch:=omega) only [RR]
 refine⟨fun h=>by omega,fun _ h=>⟨by omega,by omega,by rw [List.length_replicate];omega,by omega,by omega,by omega,by omega,by omega,?_⟩⟩
 rfl
theorem anU {p:Int×Unit→Bool} {f:Int×Unit→List aj×Unit} (hp:∀n:Int,0≤n→n≤1073741824→p (n,())=true) (hf:∀n:Int,0≤n→n≤1073741824→f (n,())=([],()))
  (a b:List aj) (ha:a.length≤100000000) (hb:b.length≤100000000):Yy (std 0) p f ([a,b],()) (fun y=>y=(a++b,())):=by
 dsimp only [Yy,Alg.cl,Alg.cg,Alg.rb,Alg.bd,Alg.l1,Tup.q,Tup.o]
 refine au (fun(y:List (List aj)×Int×List (List aj)×Int×Int×Unit)=>y.1=[a,b]∧y.2.2.1=[a,b]∧y.2.2.2.1=2∧((y.2.2.2.2.1=0∧y.2.1=0)∨(y.2.2.2.2.1=1∧y.2.1=a.length)∨(y.2.2.2.2.1=2∧y.2.1=a.length+b.length))) (fun y=>(2-y.2.2.2.2.1).toNat)
  ⟨rfl,rfl,rfl,Or.inl ⟨rfl,rfl⟩⟩ ?_
 rintro⟨(l:List (List aj)),(s:Int),(l2:List (List aj)),(n:Int),(i:Int),⟨⟩⟩ hI
 dsimp only at hI ⊢
 obtain⟨rfl,rfl,rfl,h⟩:=hI
 simp (disch:=omega) only [RR]
 have g0: [a,b].getD (Int.toNat 0) default=a:=rfl
 have g1: [a,b].getD (Int.toNat 1) default=b:=rfl
 have gl:([a,b].length:Int)=2:=rfl
 refine⟨fun hi=> ?_,fun hi=> ?_⟩
 ·rcases h with⟨rfl,rfl⟩ | ⟨rfl,rfl⟩ | ⟨rfl,rfl⟩
  ·rw [g0,w64 (by omega) (by omega)]
   exact⟨by omega,by omega,fun h=>by omega,fun h=>⟨Or.inr (Or.inl ⟨by omega,by omega⟩),by omega⟩⟩
  ·rw [g1,w64 (by omega) (by omega)]
   exact⟨by omega,by omega,fun h=>by omega,fun h=>⟨Or.inr (Or.inr ⟨by omega,by omega⟩),by omega⟩⟩
  ·omega
 ·have hs:0≤s∧s≤200000000:=by omega
  refine⟨hp s (by omega) (by omega),?_⟩
  rw [hf s (by omega) (by omega)]
  refine au (fun(y:List (List aj)×Int×Int×List aj×Unit)=>y.1=[a,b]∧y.2.1=2∧((y.2.2.1=0∧y.2.2.2.1=[])∨(y.2.2.1=1∧y.2.2.2.1=a)∨(y.2.2.1=2∧y.2.2.2.1=a++b))) (fun y=>(2-y.2.2.1).toNat)
   ⟨rfl,rfl,Or.inl ⟨rfl,rfl⟩⟩ ?_
  rintro⟨(l:List (List aj)),(n:Int),(j:Int),(o:List aj),⟨⟩⟩ hI
  dsimp only at hI ⊢
  obtain⟨rfl,rfl,h3⟩:=hI
  simp (disch:=omega) only [RR]
  refine⟨fun hj=> ?_,fun hj=> ?_⟩
  ·rcases h3 with⟨rfl,rfl⟩ | ⟨rfl,rfl⟩ | ⟨rfl,rfl⟩
   ·rw [g0]
    exact⟨by omega,by omega,by simp only [List.length_nil];omega,Or.inr (Or.inl ⟨by omega,rfl⟩),by omega⟩
   ·rw [g1]
    exact⟨by omega,by omega,by omega,Or.inr (Or.inr ⟨by omega,rfl⟩),by omega⟩
   ·omega
  ·rcases h3 with⟨rfl,rfl⟩ | ⟨rfl,rfl⟩ | ⟨rfl,rfl⟩
   ·omega
   ·omega
   ·rfl
theorem Za (n:Int) (h1:0≤n) (h2:n≤1073741824):Rn (std 0) (n,()) (fun y=>y=([],())):=by
 dsimp only [Rn,Alg.cl,Alg.cg,Alg.rb,Alg.bd,Alg.l1,Tup.q,Tup.o]
 simp (disch:=omega) only [RR]
 refine⟨fun h=>by omega,fun _ h=>⟨by omega,by omega,by rw [List.length_replicate];omega,by omega,by omega,by omega,by omega,by omega,?_⟩⟩
 rfl
theorem anV {p:Int×Unit→Bool} {f:Int×Unit→List Int×Unit} (hp:∀n:Int,0≤n→n≤1073741824→p (n,())=true) (hf:∀n:Int,0≤n→n≤1073741824→f (n,())=([],()))
  (a b:List Int) (ha:a.length≤100000000) (hb:b.length≤100000000):YC (std 0) p f ([a,b],()) (fun y=>y=(a++b,())):=by
 dsimp only [YC,Alg.cl,Alg.cg,Alg.rb,Alg.bd,Alg.l1,Tup.q,Tup.o]
 refine au (fun(y:List (List Int)×Int×List (List Int)×Int×Int×Unit)=>y.1=[a,b]∧y.2.2.1=[a,b]∧y.2.2.2.1=2∧((y.2.2.2.2.1=0∧y.2.1=0)∨(y.2.2.2.2.1=1∧y.2.1=a.length)∨(y.2.2.2.2.1=2∧y.2.1=a.length+b.length))) (fun y=>(2-y.2.2.2.2.1).toNat)
  ⟨rfl,rfl,rfl,Or.inl ⟨rfl,rfl⟩⟩ ?_
 rintro⟨(l:List (List Int)),(s:Int),(l2:List (List Int)),(n:Int),(i:Int),⟨⟩⟩ hI
 dsimp only at hI ⊢
 obtain⟨rfl,rfl,rfl,h⟩:=hI
 simp (disch:=omega) only [RR]
 have g0: [a,b].getD (Int.toNat 0) default=a:=rfl
 have g1: [a,b].getD (Int.toNat 1) default=b:=rfl
 have gl:([a,b].length:Int)=2:=rfl
 refine⟨fun hi=> ?_,fun hi=> ?_⟩
 ·rcases h with⟨rfl,rfl⟩ | ⟨rfl,rfl⟩ | ⟨rfl,rfl⟩
  ·rw [g0,w64 (by omega) (by omega)]
   exact⟨by omega,by omega,fun h=>by omega,fun h=>⟨Or.inr (Or.inl ⟨by omega,by omega⟩),by omega⟩⟩
  ·rw [g1,w64 (by omega) (by omega)]
   exact⟨by omega,by omega,fun h=>by omega,fun h=>⟨Or.inr (Or.inr ⟨by omega,by omega⟩),by omega⟩⟩
  ·omega
 ·have hs:0≤s∧s≤200000000:=by omega
  refine⟨hp s (by omega) (by omega),?_⟩
  rw [hf s (by omega) (by omega)]
  refine au (fun(y:List (List Int)×Int×Int×List Int×Unit)=>y.1=[a,b]∧y.2.1=2∧((y.2.2.1=0∧y.2.2.2.1=[])∨(y.2.2.1=1∧y.2.2.2.1=a)∨(y.2.2.1=2∧y.2.2.2.1=a++b))) (fun y=>(2-y.2.2.1).toNat)
   ⟨rfl,rfl,Or.inl ⟨rfl,rfl⟩⟩ ?_
  rintro⟨(l:List (List Int)),(n:Int),(j:Int),(o:List Int),⟨⟩⟩ hI
  dsimp only at hI ⊢
  obtain⟨rfl,rfl,h3⟩:=hI
  simp (disch:=omega) only [RR]
  refine⟨fun hj=> ?_,fun hj=> ?_⟩
  ·rcases h3 with⟨rfl,rfl⟩ | ⟨rfl,rfl⟩ | ⟨rfl,rfl⟩
   ·rw [g0]
    exact⟨by omega,by omega,by simp only [List.length_nil];omega,Or.inr (Or.inl ⟨by omega,rfl⟩),by omega⟩
   ·rw [g1]
    exact⟨by omega,by omega,by omega,Or.inr (Or.inr ⟨by omega,rfl⟩),by omega⟩
   ·omega
  ·rcases h3 with⟨rfl,rfl⟩ | ⟨rfl,rfl⟩ | ⟨rfl,rfl⟩
   ·omega
   ·omega
   ·rfl
theorem mOk.le {m:aj} (h:mOk m):m.atoms.length≤4:=h.2.1
theorem aL.at {p:List aj} (h:aL p) {m:aj} (hm:m∈p):mOk m:=by
 obtain⟨i,hi,rfl⟩:=List.getElem_of_mem hm
 have:=(h.1 i (by omega) (by omega)).1
 rw [show(i:Int).toNat=i from rfl,getD_lt hi]at this;exact this
theorem aL.len {p:List aj} (h:aL p):p.length≤12:=h.2.1
noncomputable def mW (a b:List aj):Bool×List aj:=if bp (aL a)&&bp (aL b)then pq (a++b)else(false,[])
theorem anW {p1:List aj×Unit→Bool} {f1:List aj×Unit→Bool×Unit} (hp1:∀a,Sh a→p1 (a,())=true) (hf1:∀a,Sh a→f1 (a,())=(bp (aL a),()))
  {p2:List aj×Unit→Bool} {f2:List aj×Unit→Bool×List aj×List aj×Unit} (hp2:∀a,Sh a→Cb a→p2 (a,())=true) (hf2:∀a,Sh a→Cb a→(f2 (a,())).1=(pq a).1∧(f2 (a,())).2.2.1=(pq a).2)
  {p3:List (List aj)×Unit→Bool} {f3:List (List aj)×Unit→List aj×Unit} (hp3:∀a b:List aj,a.length≤100000000→b.length≤100000000→p3 ([a,b],())=true) (hf3:∀a b:List aj,a.length≤100000000→b.length≤100000000→f3 ([a,b],())=(a++b,()))
  (a b:List aj) (ha:Sh a) (hb:Sh b):Yz (std 0) p1 f1 p2 f2 p3 f3 (a,b,()) (fun y=>y=((mW a b).1,(mW a b).2,())):=by
 dsimp only [Yz,Alg.cl,Alg.cg,Alg.rb,Alg.bd,Alg.l1,Tup.q,Tup.o]
 simp (disch:=omega) only [RR,hp1 a ha,hf1 a ha,hp1 b hb,hf1 b hb,bg,jd]
 unfold mW
 refine⟨fun h=> ?_,fun⟨h1,h2⟩=> ?_⟩
 ·rw [if_neg]
  rw [Bool.and_eq_true,bg,bg];rintro⟨g1,g2⟩
  rcases h with h | h
  ·exact h g1
  ·exact h g2
 ·have l1:=h1.len
  have l2:=h2.len
  rw [hp3 a b (by omega) (by omega),hf3 a b (by omega) (by omega)]
  have hs:Sh (a++b):=⟨by rw [List.length_append];omega,fun m hm=>by
   rw [List.mem_append]at hm
   rcases hm with hm | hm
   ·exact ha.2 m hm
   ·exact hb.2 m hm⟩
  have hc:Cb (a++b):=fun m hm=>by
   rw [List.mem_append]at hm
   rcases hm with hm | hm
   ·have:=(h1.at hm).1;omega
   ·have:=(h2.at hm).1;omega
  obtain⟨g1,g2⟩:=hf2 _ hs hc
  refine⟨rfl,hp2 _ hs hc,?_⟩
  rw [if_pos (by rw [dH h1,dH h2];rfl),g1,g2]
def kV (l:List Int):List Int:=l.mergeSort fun x y=>decide (x≤y)
theorem Ip (l:List Int):(kV l).length=l.length:=List.length_mergeSort l
def mulM (m n:aj):aj:=⟨m.bD*n.bD%65536,kV (m.atoms++n.atoms)⟩
def prods (a b:List aj):List aj:=a.flatMap fun m=>b.map (mulM m)
theorem Gs (a b:List aj) (m:aj):prods (a++ [m]) b=prods a b++b.map (mulM m):=by simp [prods]
noncomputable def lI (a b:List aj):Bool×List aj:=if bp (aL a)&&bp (aL b)then pq (prods a b)else(false,[])
theorem JJ {a b:Int} (h1:0≤a) (h2:a≤65535) (h3:0≤b) (h4:b≤65535):0≤a*b∧a*b≤65535*65535:=⟨Int.mul_nonneg h1 h3,Int.mul_le_mul h2 h4 h3 (by omega)⟩
theorem anX {p1:List aj×Unit→Bool} {f1:List aj×Unit→Bool×Unit} (hp1:∀a,Sh a→p1 (a,())=true) (hf1:∀a,Sh a→f1 (a,())=(bp (aL a),()))
  {p0:Int×Unit→Bool} {f0:Int×Unit→Int×Unit} (hp0:∀a,p0 (a,())=true) (hf0:∀a,f0 (a,())=(a%65536,()))
  {p2:List aj×Unit→Bool} {f2:List aj×Unit→Bool×List aj×List aj×Unit} (hp2:∀a,Sh a→Cb a→p2 (a,())=true) (hf2:∀a,Sh a→Cb a→(f2 (a,())).1=(pq a).1∧(f2 (a,())).2.2.1=(pq a).2)
  {p3:List (List Int)×Unit→Bool} {f3:List (List Int)×Unit→List Int×Unit} (hp3:∀a b:List Int,a.length≤100000000→b.length≤100000000→p3 ([a,b],())=true) (hf3:∀a b:List Int,a.length≤100000000→b.length≤100000000→f3 ([a,b],())=(a++b,()))
  {p4:List Int×Unit→Bool} {f4:List Int×Unit→List Int×Unit} (hp4:∀a:List Int,a.length≤8→p4 (a,())=true) (hf4:∀a:List Int,a.length≤8→f4 (a,())=(kV a,()))
  (a b:List aj) (ha:Sh a) (hb:Sh b):YD (std 0) p1 f1 p0 f0 p2 f2 p3 f3 p4 f4 (a,b,()) (fun y=>y=((lI a b).1,(lI a b).2,())):=by
 dsimp only [YD,Alg.cl,Alg.cg,Alg.rb,Alg.bd,Alg.l1,Tup.q,Tup.o]
 simp (disch:=omega) only [RR,hp1 a ha,hf1 a ha,hp1 b hb,hf1 b hb,bg,jd]
 unfold lI
 refine⟨fun h=> ?_,fun⟨h1,h2⟩=> ?_⟩
 ·rw [if_neg]
  rw [Bool.and_eq_true,bg,bg];rintro⟨g1,g2⟩
  rcases h with h | h
  ·exact h g1
  ·exact h g2
 have l1:=h1.len
 have l2:=h2.len
 rw [if_pos (by rw [dH h1,dH h2];rfl)]
 have mm:∀i j:Int,0≤i→i<a.length→0≤j→j<b.length→mOk ((a).getD (i).toNat default)∧mOk ((b).getD (j).toNat default):=fun i j i1 i2 j1 j2=>⟨h1.at (eO i1 i2),h2.at (eO j1 j2)⟩
 refine au (fun(y:List aj×Int×Int×List aj×List aj×Unit)=>y.1=a∧y.2.1=a.length∧0≤y.2.2.1∧y.2.2.1≤a.length∧y.2.2.2.1=b∧y.2.2.2.2.1=prods (a.take y.2.2.1.toNat) b∧y.2.2.2.2.1.length≤12*y.2.2.1∧Sh y.2.2.2.2.1∧Cb y.2.2.2.2.1) (fun y=>(a.length-y.2.2.1).toNat)
  ⟨rfl,rfl,by simp,by simp,rfl,rfl,by simp,⟨by simp,fun m hm=>absurd hm (by simp)⟩,fun m hm=>absurd hm (by simp)⟩ ?_
 rintro⟨(a':List aj),(n:Int),(i:Int),(b':List aj),(o:List aj),⟨⟩⟩ hI
 dsimp only at hI ⊢
 obtain⟨rfl,rfl,h3,h4,rfl,h5,h6,h7,h8⟩:=hI
 simp (disch:=omega) only [RR]
 refine⟨fun h9=>⟨by omega,by omega,?_⟩,fun h9=> ?_⟩
 ·refine au (fun(y:List aj×Int×Int×List aj×Int×Int×List aj×List aj×aj×Unit)=>y.1=a'∧y.2.1=a'.length∧y.2.2.1=i∧y.2.2.2.1=b'∧y.2.2.2.2.1=b'.length∧0≤y.2.2.2.2.2.1∧y.2.2.2.2.2.1≤b'.length∧y.2.2.2.2.2.2.1=b'∧y.2.2.2.2.2.2.2.2.1=((a').getD (i).toNat default)
    ∧y.2.2.2.2.2.2.2.1=o++(b'.take y.2.2.2.2.2.1.toNat).map (mulM ((a').getD (i).toNat default))∧Sh y.2.2.2.2.2.2.2.1∧Cb y.2.2.2.2.2.2.2.1) (fun y=>(b'.length-y.2.2.2.2.2.1).toNat)
   ⟨rfl,rfl,rfl,rfl,rfl,by simp,by simp,rfl,rfl,by simp,h7,h8⟩ ?_
  rintro⟨(a'':List aj),(n:Int),(i':Int),(b'':List aj),(nb:Int),(j:Int),(b3:List aj),(o':List aj),(m:aj),⟨⟩⟩ hI
  dsimp only at hI ⊢
  obtain⟨rfl,rfl,rfl,rfl,rfl,k1,k2,rfl,rfl,k3,k4,k5⟩:=hI
  have lo:(o'.length:Int)≤12*i'+j:=by
   rw [k3,List.length_append,List.length_map];have:=List.length_take_le j.toNat b3;omega
  by_cases hj:j<b3.length
  ·obtain⟨m1,m2⟩:=mm i' j h3 h9 k1 hj
   have e1:=m1.le
   have e2:=m2.le
   have la:(((a'').getD (i').toNat default).atoms++((b3).getD (j).toNat default).atoms).length≤8:=by rw [List.length_append];omega
   have hm:=JJ (show 0≤((a'').getD (i').toNat default).bD by have:=m1.1;omega) (by have:=m1.1;omega) (show 0≤((b3).getD (j).toNat default).bD by have:=m2.1;omega) (by have:=m2.1;omega)
   simp (disch:=omega) only [RR,hp3 ((a'').getD (i').toNat default).atoms ((b3).getD (j).toNat default).atoms (by omega) (by omega),hf3 ((a'').getD (i').toNat default).atoms ((b3).getD (j).toNat default).atoms (by omega) (by omega),hp4 _ la,hf4 _ la,hp0,hf0]
   refine⟨fun _=>⟨by omega,by omega,by simp only [List.length_cons,List.length_nil];omega,⟨by omega,by omega,?_,⟨?_,?_⟩,?_⟩,by omega⟩,fun h=>by omega⟩
   ·rw [←bU (d:=default) k1 hj rfl,List.map_append,k3,List.append_assoc];rfl
   ·rw [List.length_append];simp only [List.length_cons,List.length_nil];omega
   ·intro m hm
    rw [List.mem_append,List.mem_singleton]at hm
    rcases hm with hm | rfl
    ·exact k4.2 m hm
    ·dsimp only;rw [Ip];omega
   ·intro m hm
    rw [List.mem_append,List.mem_singleton]at hm
    rcases hm with hm | rfl
    ·exact k5 m hm
    ·dsimp only;omega
  ·simp (disch:=omega) only [RR]
   refine⟨fun h=>absurd h hj,fun _=>⟨⟨by omega,by omega,?_,by omega,k4,k5⟩,by omega⟩⟩
   rw [←bU (d:=default) h3 h9 rfl,Gs,←h5,k3,List.take_of_length_le (by omega)]
 ·obtain⟨g1,g2⟩:=hf2 _ h7 h8
  refine⟨hp2 _ h7 h8,?_⟩
  rw [g1,g2,h5,List.take_of_length_le (by omega)]
noncomputable def iQ (a:List aj) (n:Int):List aj:=if bp (aL a)&&inB n 0 65535 then(lI a (dw n)).2 else []
theorem Iq (n:Int):Sh (dw n):=by
 unfold dw;split
 ·exact⟨by simp,fun m hm=>by rw [List.mem_singleton]at hm;subst hm;simp⟩
 ·exact⟨by simp,fun m hm=>absurd hm (by simp)⟩
theorem anY {p1:List aj×Unit→Bool} {f1:List aj×Unit→Bool×Unit} (hp1:∀a,Sh a→p1 (a,())=true) (hf1:∀a,Sh a→f1 (a,())=(bp (aL a),()))
  {p2:Int×Unit→Bool} {f2:Int×Unit→List aj×Unit} (hp2:∀n,p2 (n,())=true) (hf2:∀n,f2 (n,())=(dw n,()))
  {p3:Int×Unit→Bool} {f3:Int×Unit→Bool×Unit} (hp3:∀a,p3 (a,())=true) (hf3:∀a,f3 (a,())=(inB a 0 65535,()))
  {p4:List aj×List aj×Unit→Bool} {f4:List aj×List aj×Unit→Bool×List aj×Unit} (hp4:∀a b,Sh a→Sh b→p4 (a,b,())=true) (hf4:∀a b,Sh a→Sh b→f4 (a,b,())=((lI a b).1,(lI a b).2,()))
  (a:List aj) (n:Int) (ha:Sh a):YE (std 0) p1 f1 p2 f2 p3 f3 p4 f4 (a,n,()) (fun y=>y=(iQ a n,())):=by
 dsimp only [YE,Alg.cl,Alg.cg,Alg.rb,Alg.bd,Alg.l1,Tup.q,Tup.o]
 simp (disch:=omega) only [RR,hp1 a ha,hf1 a ha,hp2,hf2,hp3,hf3,hp4 a _ ha (Iq n),hf4 a _ ha (Iq n)]
 unfold iQ
 refine⟨fun h=> ?_,fun⟨h1,h2⟩=> ?_⟩
 ·rw [if_neg];rw [Bool.and_eq_true];rintro⟨g1,g2⟩
  rcases h with h | h
  ·rw [g1]at h;cases h
  ·rw [g2]at h;cases h
 ·rw [h1,h2];rfl
end Go.TX.F
namespace Go.TX.F
open Go Go.AE Go.TX
noncomputable def Gt (op:Int) (x y:List aj):List aj×Bool:=
 if(bM x).2&& (bM y).2 then(dw (wdo op (bM x).1 (bM y).1),true)
 else if eU x y=0∧op=4 then(x,true)
 else if eU x y=0 then([],true)
 else if(bM x).2 then
  (if op=4∧(bM x).1=0 then([],true)else if(op=4∧(bM x).1=65535)∨(op=5∧(bM x).1=0)then(y,true)else([],false))
 else if(bM y).2 then
  (if op=4∧(bM y).1=0 then([],true)else if(op=4∧(bM y).1=65535)∨(op=5∧(bM y).1=0)then(x,true)else([],false))
 else([],false)
noncomputable def iR (op:Int) (x y:List aj):List aj×Bool:=
 if op=1 then((mW x y).2,(mW x y).1)else if op=2 then((mW x (iQ y 65535)).2,(mW x (iQ y 65535)).1)else if op=3 then((lI x y).2,(lI x y).1)else Gt op x y
theorem aL.sh {l:List aj}:aL l→Sh l:=fun h=>⟨by have:=h.len;omega,fun m hm=>by have:=(h.at hm).le;omega⟩
theorem abE (l:List aj):Sh (pq l).2:=by
 unfold pq
 by_cases h:aL (nf l)
 ·rw [dH h];exact h.sh
 ·rw [cZ h];exact⟨by simp,fun m hm=>absurd hm (by simp)⟩
theorem mX:Sh []:=⟨by simp,fun m hm=>absurd hm (by simp)⟩
theorem abF (a b:List aj):Sh (lI a b).2:=by unfold lI;split;exact abE _;exact mX
theorem vC (a:List aj) (n:Int):Sh (iQ a n):=by unfold iQ;split;exact abF _ _;exact mX
theorem anZ {p1:List aj×List aj×Unit→Bool} {f1:List aj×List aj×Unit→Bool×Unit} (hp1:∀a b,Sh a→p1 (a,b,())=true) (hf1:∀a b,Sh a→f1 (a,b,())=(decide (eU a b=0),()))
  {p2:Int×Unit→Bool} {f2:Int×Unit→List aj×Unit} (hp2:∀n,p2 (n,())=true) (hf2:∀n,f2 (n,())=(dw n,()))
  {p3:Int×Int×Int×Unit→Bool} {f3:Int×Int×Int×Unit→Int×Unit} (hp3:∀op a b,p3 (op,a,b,())=true) (hf3:∀op a b,f3 (op,a,b,())=(wdo op a b,()))
  {p4:List aj×List aj×Unit→Bool} {f4:List aj×List aj×Unit→Bool×List aj×Unit} (hp4:∀a b,Sh a→Sh b→p4 (a,b,())=true) (hf4:∀a b,Sh a→Sh b→f4 (a,b,())=((mW a b).1,(mW a b).2,()))
  {p5:List aj×List aj×Unit→Bool} {f5:List aj×List aj×Unit→Bool×List aj×Unit} (hp5:∀a b,Sh a→Sh b→p5 (a,b,())=true) (hf5:∀a b,Sh a→Sh b→f5 (a,b,())=((lI a b).1,(lI a b).2,()))
  {p6:List aj×Int×Unit→Bool} {f6:List aj×Int×Unit→List aj×Unit} (hp6:∀a n,Sh a→p6 (a,n,())=true) (hf6:∀a n,Sh a→f6 (a,n,())=(iQ a n,()))
  {p7:List aj×Unit→Bool} {f7:List aj×Unit→Int×Bool×Unit} (hp7:∀a,Sh a→p7 (a,())=true) (hf7:∀a,Sh a→f7 (a,())=((bM a).1,(bM a).2,()))
  (op:Int) (x y:List aj) (hx:Sh x) (hy:Sh y):YI (std 0) p1 f1 p2 f2 p3 f3 p4 f4 p5 f5 p6 f6 p7 f7 (op,x,y,()) (fun z=>z=((iR op x y).1,(iR op x y).2,())):=by
 dsimp only [YI,Alg.cl,Alg.cg,Alg.rb,Alg.bd,Alg.l1,Tup.q,Tup.o]
 simp (disch:=omega) only [RR,hp1 x y hx,hf1 x y hx,hp2,hf2,hp3,hf3,hp4 x y hx hy,hf4 x y hx hy,hp4 x _ hx (vC y 65535),hf4 x _ hx (vC y 65535),hp5 x y hx hy,hf5 x y hx hy,hp6 y _ hy,hf6 y _ hy,hp7 x hx,hf7 x hx,hp7 y hy,hf7 y hy]
 unfold iR
 refine⟨fun h=>by rw [if_pos h],fun h=>⟨fun h1=>by rw [if_neg h,if_pos h1],fun h1=>⟨fun h2=>by rw [if_neg h,if_neg h1,if_pos h2],fun h2=> ?_⟩⟩⟩
 rw [if_neg h,if_neg h1,if_neg h2]
 unfold Gt
 generalize bM x=nx
 generalize bM y=ny
 obtain⟨n,bn⟩:=nx
 obtain⟨m,bm⟩:=ny
 dsimp only
 by_cases e:eU x y=0<;>by_cases o4:op=4<;>cases bn<;>cases bm<;>simp [e,o4]
 ·by_cases c:m=0<;>by_cases c2:m=65535<;>simp [c,c2]
 ·by_cases c:n=0<;>by_cases c2:n=65535<;>simp [c,c2]
 ·by_cases c:op=5<;>by_cases c2:m=0<;>simp [c,c2]
 ·by_cases c:op=5<;>by_cases c2:n=0<;>simp [c,c2]
noncomputable def tDo (t:List Atom) (op:Int) (x y:List aj):List Atom×List aj:=
 if(iR op x y).2 then(t,(iR op x y).1)else
 if op≠2∧0<eU x y then(if(aX t ⟨4,op,y,x⟩).2<0 then([],[])else((aX t ⟨4,op,y,x⟩).1,fE (aX t ⟨4,op,y,x⟩).2))
 else(if(aX t ⟨4,op,x,y⟩).2<0 then([],[])else((aX t ⟨4,op,x,y⟩).1,fE (aX t ⟨4,op,x,y⟩).2))
noncomputable def tOk (t:List Atom) (op:Int) (x y:List aj):Bool:=(iR op x y).2 || !decide ((if op≠2∧0<eU x y then(aX t ⟨4,op,y,x⟩).2 else(aX t ⟨4,op,x,y⟩).2)<0)
theorem an0 {p1:List aj×List aj×Unit→Bool} {f1:List aj×List aj×Unit→Int×Unit} (hp1:∀a b,Sh a→p1 (a,b,())=true) (hf1:∀a b,Sh a→f1 (a,b,())=(eU a b,()))
  {p2:Int×List aj×List aj×Unit→Bool} {f2:Int×List aj×List aj×Unit→List aj×Bool×Unit} (hp2:∀op x y,Sh x→Sh y→p2 (op,x,y,())=true) (hf2:∀op x y,Sh x→Sh y→f2 (op,x,y,())=((iR op x y).1,(iR op x y).2,()))
  {p3:List Atom×Atom×Unit→Bool} {f3:List Atom×Atom×Unit→List Atom×Int×Unit} (hp3:∀t a,t.length<1000000000→ShA a→p3 (t,a,())=true) (hf3:∀t a,t.length<1000000000→ShA a→f3 (t,a,())=((aX t a).1,(aX t a).2,()))
  {p4:Int×Unit→Bool} {f4:Int×Unit→List aj×Unit} (hp4:∀n,p4 (n,())=true) (hf4:∀n,f4 (n,())=(fE n,()))
  (t:List Atom) (op:Int) (x y:List aj) (ht:t.length<1000000000) (hx:Sh x) (hy:Sh y):YJ (std 0) p1 f1 p2 f2 p3 f3 p4 f4 (t,op,x,y,()) (fun z=>z.1=(tDo t op x y).1∧z.2.1=(tDo t op x y).2∧z.2.2.1=tOk t op x y):=by
 have s1:ShA ⟨4,op,x,y⟩:=⟨hx,hy⟩
 have s2:ShA ⟨4,op,y,x⟩:=⟨hy,hx⟩
 dsimp only [YJ,Alg.cl,Alg.cg,Alg.rb,Alg.bd,Alg.l1,Tup.q,Tup.o]
 simp (disch:=omega) only [RR,hp1 x y hx,hf1 x y hx,hp2 op x y hx hy,hf2 op x y hx hy,hp3 t _ ht s1,hf3 t _ ht s1,hp3 t _ ht s2,hf3 t _ ht s2,hp4,hf4]
 unfold tDo tOk
 refine⟨fun h=>by rw [if_pos h,h];exact⟨rfl,rfl,rfl⟩,fun h=> ?_⟩
 rw [if_neg (by rw [h];simp),h,Bool.false_or]
 generalize aX t ⟨4,op,y,x⟩=r1
 generalize aX t ⟨4,op,x,y⟩=r2
 generalize eU x y=o
 by_cases c1:op=2<;>by_cases c2:0<o<;>by_cases c3:r1.2<0<;>by_cases c4:r2.2<0<;>simp [c1,c2,c3,c4]
theorem abG:ShT []:=⟨by simp,fun m hm=>absurd hm (by simp)⟩
theorem nS {α:Type} {d:α} {a b:List α} (h:a.length=b.length) (h2:All a.length (fun i=>a.getD i.toNat d=b.getD i.toNat d)):a=b:=by
 refine List.ext_getElem h fun i h3 h4=> ?_
 have:=h2 i (by omega) (by omega)
 dsimp only at this
 rw [show(i:Int).toNat=i from rfl,getD_lt h3,getD_lt h4]at this;exact this
end Go.TX.F
namespace Go.TX.F
open Go Go.AE Go.TX
theorem Zb {a b:Int}:or2 a b=0↔a=0∧b=0:=by unfold or2;split<;>omega
theorem Ir {a b:aj}:JF a b=0↔a=b:=by
 unfold JF;rw [Zb,jL,iX]
 constructor
 ·rintro⟨h1,h2⟩;cases a;cases b;simp_all
 ·rintro rfl;exact⟨rfl,rfl⟩
theorem Iu:∀ {a b:List aj},a.length=b.length→Al a b=0→a=b
 | [],[],_,_=>rfl | [],_::_,h,_=>by simp at h
 | _::_,[],h,_=>by simp at h
 | a::az,b::bs,hl,h=>by
  simp only [Al]at h
  split at h
  ·exact absurd h (by assumption)
  ·rename_i h1
   rw [Ir.1 (Classical.not_not.1 h1),Iu (by simpa using hl) h]
theorem Iw:∀a:List aj,Al a a=0
 | []=>rfl
 | a::az=>by simp only [Al,Ir.2 rfl];simp [Iw az]
theorem iG {a b:List aj}:eU a b=0↔a=b:=by
 unfold eU
 constructor
 ·intro h
  split at h
  ·exact absurd h (by assumption)
  ·rename_i h1
   have:=iX.1 (Classical.not_not.1 h1)
   exact Iu (by omega) h
 ·rintro rfl;rw [if_neg (by rw [iX.2 rfl];simp),Iw]
theorem l7 {a b:Atom}:nQ a b=true↔a=b:=by
 unfold nQ
 rw [Bool.and_eq_true,Bool.and_eq_true,Bool.and_eq_true,decide_eq_true_eq,decide_eq_true_eq,decide_eq_true_eq,decide_eq_true_eq,iG,iG]
 constructor
 ·rintro⟨⟨⟨h1,h2⟩,h3⟩,h4⟩;cases a;cases b;simp_all
 ·rintro rfl;exact⟨⟨⟨rfl,rfl⟩,rfl⟩,rfl⟩
theorem nU {α:Type} {d:α} {l:List α} {G:α→Prop}:All l.length (fun i=>G (l.getD i.toNat d))↔∀m∈l,G m:=by
 constructor
 ·intro h m hm
  obtain⟨i,hi,rfl⟩:=List.getElem_of_mem hm
  have:=h i (by omega) (by omega)
  dsimp only at this
  rw [show(i:Int).toNat=i from rfl,getD_lt hi]at this;exact this
 ·intro h i h1 h2
  exact h _ (eO h1 h2)
theorem bW {p:List aj} {n:Int}:aW p n↔∀m∈p,∀k∈m.atoms,k<n:=by
 unfold aW JE
 rw [nU (d:=default) (G:=fun m:aj=>All m.atoms.length (fun i=>¬n≤m.atoms.getD i.toNat default))]
 refine forall_congr' fun m=>forall_congr' fun _=> ?_
 rw [nU (d:=default) (G:=fun k:Int=>¬n≤k)]
 exact forall_congr' fun k=>forall_congr' fun _=>by omega
theorem dh {α:Type} {d:α} {R:α→α→Prop} (tr:∀ {a b c},R a b→R b c→R a c) {l:List α}:l.Pairwise R↔∀i:Int,0<i→i<l.length→R (l.getD (i-1).toNat d) (l.getD i.toNat d):=by
 rw [List.pairwise_iff_getElem]
 constructor
 ·intro h i h1 h2
  rw [getD_lt (by omega),getD_lt (by omega)]
  exact h _ _ (by omega) (by omega) (by omega)
 ·intro h i j hi hj hij
  obtain⟨n,rfl⟩:∃n,j=i+1+n:=⟨j-i-1,by omega⟩
  clear hij
  induction n with
  | zero=>
   have:=h (i+1:Nat) (by omega) (by omega)
   rw [show(((i+1:Nat):Int)-1).toNat=i by omega,show(((i+1:Nat):Int)).toNat=i+1 by omega,getD_lt hi,getD_lt (by omega)]at this
   exact this
  | succ n ih=>
   have h1:=ih (by omega)
   have:=h (i+1+n+1:Nat) (by omega) (by omega)
   rw [show(((i+1+n+1:Nat):Int)-1).toNat=i+1+n by omega,show(((i+1+n+1:Nat):Int)).toNat=i+1+n+1 by omega,getD_lt (by omega),getD_lt (by omega)]at this
   exact tr h1 this
theorem JK {l:List Int}:Srt l↔l.Pairwise (· ≤ ·):=by
 rw [dh (d:=default) (R:=fun a b:Int=>a≤b) (fun h1 h2=>Int.le_trans h1 h2)]
 unfold Srt
 constructor
 ·intro h i h1 h2
  have:=h (i-1) (by omega) (by omega)
  dsimp only at this
  rw [show i-1+1=i by omega]at this;exact this
 ·intro h i h1 h2
  have:=h (i+1) (by omega) (by omega)
  rw [show i+1-1=i by omega]at this;exact this
theorem fF {a b c:aj} (h1:lt a b) (h2:lt b c):lt a c:=dM (le_of_lt h1) h2
def aok (l:List Int):Prop:=l.Pairwise (· ≤ ·)∧∀k∈l,0≤k∧k≤199
theorem gX {p:List aj}:aL p↔Nf p∧p.length≤12∧∀m∈p,m.atoms.length≤4∧aok m.atoms:=by
 constructor
 ·rintro⟨h1,h2,h3,h4⟩
  have h1':∀m∈p,mOk m:=nU (d:=default) (G:=mOk).1 (fun i g1 g2=>(h1 i g1 g2).1)
  have h4':∀m∈p,¬(0<m.atoms.length∧m.atoms.getD 0 default<0):=nU (d:=default) (G:=fun m:aj=>¬(0<m.atoms.length∧m.atoms.getD 0 default<0)).1 h4
  refine⟨⟨(dh (d:=default) (R:=lt) fF).2 fun i g1 g2=>(h1 i (by omega) g2).2 g1,fun m hm=>(h1' m hm).1⟩,h2,fun m hm=>⟨(h1' m hm).2.1,JK.1 (h1' m hm).2.2,fun k hk=>⟨?_,by have:=bW.1 h3 m hm k hk;omega⟩⟩⟩
  have hs:=JK.1 (h1' m hm).2.2
  have hn:=h4' m hm
  cases ha:m.atoms with
  | nil=>rw [ha]at hk;exact absurd hk (by simp)
  | cons b l=>
   rw [ha]at hk hs hn
   simp at hn
   rcases List.mem_cons.1 hk with rfl | hk
   ·exact hn
   ·have:=List.rel_of_pairwise_cons hs hk;omega
 ·rintro⟨h1,h2,h3⟩
  refine⟨fun i g1 g2=>⟨⟨h1.co _ (eO g1 g2),(h3 _ (eO g1 g2)).1,JK.2 (h3 _ (eO g1 g2)).2.1⟩,fun g3=>(dh (d:=default) (R:=lt) fF).1 h1.ss i g3 g2⟩,h2,bW.2 fun m hm k hk=>by have:=((h3 m hm).2.2 k hk);omega,?_⟩
  refine nU (d:=default) (G:=fun m:aj=>¬(0<m.atoms.length∧m.atoms.getD 0 default<0)).2 fun m hm=> ?_
  rintro⟨g1,g2⟩
  have:=(h3 m hm).2.2 _ (eO (i:=0) (d:=default) (xs:=m.atoms) (by omega) (by omega))
  rw [show Int.toNat 0=0 from rfl]at this;omega
theorem Zc {l:List aj} {k:List Int} (h:cf l k≠0):∃m∈l,m.atoms=k:=Classical.byContradiction fun h2=>h (iJ fun m hm e=>h2 ⟨m,hm,e⟩)
theorem Nf.cf {o:List aj} (h:Nf o) {m:aj} (hm:m∈o):cf o m.atoms=m.bD:=by
 induction o with
 | nil=>exact absurd hm (by simp)
 | cons a o ih=>
  rw [bV]
  rcases List.mem_cons.1 hm with rfl | hm
  ·rw [if_pos rfl,iJ (fun m' hm'=>((List.rel_of_pairwise_cons h.ss hm').ne).symm)];omega
  ·rw [if_neg (List.rel_of_pairwise_cons h.ss hm).ne,ih ⟨h.ss.tail,fun m hm=>h.co m (by simp [hm])⟩ hm];omega
theorem Nf.from {o l:List aj} (h:Nf o) (h2:∀k,F.cf o k=F.cf l k%65536) {m:aj} (hm:m∈o):∃m'∈l,m'.atoms=m.atoms:=by
 refine Zc fun e=> ?_
 have:=h2 m.atoms
 rw [h.cf hm,e]at this
 have:=h.co m hm;omega
theorem Nf.bnd {o:List aj} (h:Nf o) (k:List Int):0≤F.cf o k∧F.cf o k≤65535:=by
 by_cases e:F.cf o k=0
 ·omega
 ·obtain⟨m,hm,rfl⟩:=Zc e
  rw [h.cf hm];have:=h.co m hm;omega
theorem abH {l o:List aj} (h:Nf o) (h2:∀k,F.cf o k=F.cf l k%65536) (h3:∀m∈l,aok m.atoms):
  pq l=(decide (o.length≤12∧∀m∈o,m.atoms.length≤4),if o.length≤12∧∀m∈o,m.atoms.length≤4 then o else []):=by
 unfold pq
 rw [TW h h2]
 by_cases c:o.length≤12∧∀m∈o,m.atoms.length≤4
 ·have:aL o:=gX.2 ⟨h,c.1,fun m hm=>⟨c.2 m hm,by obtain⟨m',g1,g2⟩:=h.from h2 hm;rw [←g2];exact h3 m' g1⟩⟩
  rw [dH this,decide_eq_true c,if_pos rfl,if_pos c]
 ·have:¬aL o:=fun g=>c ⟨(gX.1 g).2.1,fun m hm=>((gX.1 g).2.2 m hm).1⟩
  rw [cZ this,decide_eq_false c,if_neg (by simp),if_neg c]
end Go.TX.F
namespace Go.TX.F
open Go Go.AE Go.TX
theorem Zd (a b c:Int):PL (std 0) (a,b,c,()) (fun y=>y=(inB a b c,())):=by
 dsimp only [PL,Alg.cl,Alg.cg,Alg.rb,Alg.bd,Alg.l1,Tup.q,Tup.o]
 simp (disch:=omega) only [RR]
 rfl
theorem Ze (a:Int):PN (std 0) (a,()) (fun y=>y=(inB a 0 65535,())):=by
 dsimp only [PN,Alg.cl,Alg.cg,Alg.rb,Alg.bd,Alg.l1,Tup.q,Tup.o]
 simp (disch:=omega) only [RR]
 refine congrArg (fun b=>(b,())) ?_
 rw [Bool.eq_iff_iff,dz,Bool.and_eq_true,decide_eq_true_eq,decide_eq_true_eq];omega
theorem ag5 {p1:Int×Int×Int×Unit→Bool} {f1:Int×Int×Int×Unit→Bool×Unit} (hp1:∀a b c,p1 (a,b,c,())=true) (hf1:∀a b c,f1 (a,b,c,())=(inB a b c,())) (a:Int):
  Qq (std 0) p1 f1 (a,()) (fun y=>y=(dw a,())):=by
 dsimp only [Qq,Alg.cl,Alg.cg,Alg.rb,Alg.bd,Alg.l1,Tup.q,Tup.o]
 simp (disch:=omega) only [RR,hp1,hf1,dz,mV]
 unfold dw
 exact⟨fun h=>by rw [if_neg (by omega)],fun h=>by rw [if_pos (by omega)]⟩
theorem ag6 {p1:Int×Int×Int×Unit→Bool} {f1:Int×Int×Int×Unit→Bool×Unit} (hp1:∀a b c,p1 (a,b,c,())=true) (hf1:∀a b c,f1 (a,b,c,())=(inB a b c,())) (a:Int):
  PZ (std 0) p1 f1 (a,()) (fun y=>y=(fE a,())):=by
 dsimp only [PZ,Alg.cl,Alg.cg,Alg.rb,Alg.bd,Alg.l1,Tup.q,Tup.o]
 simp (disch:=omega) only [RR,hp1,hf1,dz,mV]
 unfold fE
 exact⟨fun h=>by rw [if_neg (by omega)],fun h=>by rw [if_pos (by omega)]⟩
theorem Zf (a:Int):a.tmod 65536=if 0≤a then a%65536 else- (-a%65536):=by
 split
 ·rw [Int.tmod_eq_emod_of_nonneg (by omega)]
 ·have:=Int.neg_tmod (-a) 65536
  rw [Int.neg_neg]at this;rw [this,Int.tmod_eq_emod_of_nonneg (by omega)]
theorem Zg (a:Int):Qr (std 0) (a,()) (fun y=>y=(a%65536,())):=by
 dsimp only [Qr,Alg.cl,Alg.cg,Alg.rb,Alg.bd,Alg.l1,Tup.q,Tup.o]
 simp only [Y3]
 by_cases h:0≤a
 ·rw [show a.tmod 65536=a%65536 by rw [Zf,if_pos h]]
  simp (disch:=omega) only [RR]
  refine⟨by omega,fun h2=> ?_⟩
  exfalso;omega
 ·rw [show a.tmod 65536= - (-a%65536) by rw [Zf,if_neg h]]
  simp (disch:=omega) only [RR]
  refine⟨by omega,fun h2=> ?_,fun h2=> ?_⟩
  ·rw [show-(-a%65536)+65536=a%65536 by omega]
  ·rw [show-(-a%65536)=a%65536 by omega]
theorem Zh (a b:List Int) (ha:a.length<1000000000):P6 (std 0) (a,b,()) (fun y=>y=(dJ a b,())):=by
 dsimp only [P6,Alg.cl,Alg.cg,Alg.rb,Alg.bd,Alg.l1,Tup.q,Tup.o]
 simp (disch:=omega) only [RR]
 refine⟨fun h=>⟨fun h1=> ?_,fun h1=> ?_⟩,fun h=> ?_⟩
 ·rw [show dJ a b= -1 by(have e:gK a.length b.length= -1:=by unfold gK;rw [if_pos h1]);unfold dJ or2;rw [e];rfl]
 ·rw [show dJ a b=1 by(have e:gK a.length b.length=1:=by unfold gK;rw [if_neg h1,if_pos (by omega)]);unfold dJ or2;rw [e];rfl]
 have hl:a.length=b.length:=by omega
 have e0:dJ a b=jZ a b:=by unfold dJ or2;rw [iX.2 (by omega),if_neg (by simp)]
 refine au (fun(y:List Int×List Int×Int×Unit)=>y.1=a∧y.2.1=b∧0≤y.2.2.1∧y.2.2.1≤a.length∧dJ a b=jZ (a.drop y.2.2.1.toNat) (b.drop y.2.2.1.toNat)) (fun y=>(a.length-y.2.2.1).toNat) ⟨rfl,rfl,by simp,by simp,by simpa using e0⟩ ?_
 rintro⟨(l1:List Int),(l2:List Int),(i:Int),⟨⟩⟩ hI
 dsimp only at hI ⊢
 obtain⟨rfl,rfl,h1,h2,h3⟩:=hI
 simp (disch:=omega) only [RR]
 refine⟨fun h4=> ?_,fun h4=> ?_⟩
 ·have e:=Ak l1 l2 i.toNat (by omega) (by omega)
  rw [getD_lt (by omega),getD_lt (by omega)]
  refine⟨by omega,by omega,by omega,by omega,fun h5=> ?_,fun h5=>⟨by omega,by omega,by omega,by omega,fun h6=> ?_,fun h6=>⟨⟨by omega,by omega,?_⟩,by omega⟩⟩⟩
  ·rw [h3,e,show gK l1[i.toNat] l2[i.toNat]= -1 by unfold gK;rw [if_pos h5]];rfl
  ·rw [h3,e,show gK l1[i.toNat] l2[i.toNat]=1 by unfold gK;rw [if_neg h5,if_pos h6]];rfl
  ·rw [h3,e,show gK l1[i.toNat] l2[i.toNat]=0 by unfold gK;rw [if_neg h5,if_neg h6],show(i+1).toNat=i.toNat+1 by omega];rfl
 ·rw [h3,List.drop_eq_nil_of_le (by omega),List.drop_eq_nil_of_le (by omega)];rfl
theorem ag7 {p1:Int×Int×Int×Unit→Bool} {f1:Int×Int×Int×Unit→Bool×Unit} (hp1:∀a b c,p1 (a,b,c,())=true) (hf1:∀a b c,f1 (a,b,c,())=(inB a b c,())) (m:aj) (hm:m.atoms.length<1000000000):
  P7 (std 0) p1 f1 (m,()) (fun y=>y=(bp ((1≤m.bD∧m.bD≤65535)∧m.atoms.length≤4∧aok m.atoms),())):=by
 dsimp only [P7,Alg.cl,Alg.cg,Alg.rb,Alg.bd,Alg.l1,Tup.q,Tup.o]
 simp (disch:=omega) only [RR,hp1,hf1,dz,mV]
 refine⟨fun h=> ?_,fun⟨h1,h2⟩=> ?_⟩
 ·rw [cZ];rintro⟨g1,g2,g3⟩;omega
 refine au (fun(y:Int×aj×Unit)=>y.2.1=m∧0≤y.1∧y.1≤m.atoms.length∧All y.1 (fun i=>(0≤m.atoms.getD i.toNat default∧m.atoms.getD i.toNat default≤199)∧(0<i→m.atoms.getD (i-1).toNat default≤m.atoms.getD i.toNat default))) (fun y=>(m.atoms.length-y.1).toNat) ⟨rfl,by simp,by simp,All.zero⟩ ?_
 rintro⟨(i:Int),(m':aj),⟨⟩⟩ hI
 dsimp only at hI ⊢
 obtain⟨rfl,h3,h4,h5⟩:=hI
 simp (disch:=omega) only [RR,hp1,hf1,dz,mV]
 refine⟨fun h6=>⟨by omega,by omega,by by_cases c:0<i;(· right;omega);(· left;simp [c]),by by_cases c:0<i;(· right;omega);(· left;simp [c]),by omega,by omega,fun h7=> ?_,fun h7=>⟨⟨by omega,by omega,h5.snoc ⟨h7.1,fun c=> ?_⟩⟩,by omega⟩⟩,fun h6=> ?_⟩
 ·rw [cZ];rintro⟨g1,g2,g3,g4⟩
  rcases h7 with h7 | ⟨h7,h8⟩
  ·exact h7 (g4 _ (eO h3 h6))
  ·have:=(dh (d:=default) (R:=fun a b:Int=>a≤b) (fun h1 h2=>Int.le_trans h1 h2)).1 g3 i h7 h6;omega
 ·have:=h7.2;rw [decide_eq_true c,Bool.true_and,decide_eq_false_iff_not]at this;omega
 ·have h8:=h5.le (by omega:(m'.atoms.length:Int)≤i)
  rw [dH]
  refine⟨by omega,by omega,(dh (d:=default) (R:=fun a b:Int=>a≤b) (fun h1 h2=>Int.le_trans h1 h2)).2 fun j j1 j2=>(h8 j (by omega) j2).2 j1,nU (d:=default) (G:=fun k:Int=>0≤k∧k≤199).1 fun j j1 j2=>(h8 j j1 j2).1⟩
theorem ag8 {p1:aj×Unit→Bool} {f1:aj×Unit→Bool×Unit} (hp1:∀m:aj,m.atoms.length<1000000000→p1 (m,())=true) (hf1:∀m:aj,m.atoms.length<1000000000→f1 (m,())=(bp ((1≤m.bD∧m.bD≤65535)∧m.atoms.length≤4∧aok m.atoms),()))
  {p4:List Int×List Int×Unit→Bool} {f4:List Int×List Int×Unit→Int×Unit} (hp4:∀a b,a.length<1000000000→p4 (a,b,())=true) (hf4:∀a b,a.length<1000000000→f4 (a,b,())=(dJ a b,()))
  (a:List aj) (ha:Sh a):P8 (std 0) p1 f1 p4 f4 (a,()) (fun y=>y=(bp (aL a),())):=by
 have hlen:=ha.1
 dsimp only [P8,Alg.cl,Alg.cg,Alg.rb,Alg.bd,Alg.l1,Tup.q,Tup.o]
 simp (disch:=omega) only [RR]
 refine⟨fun h=> ?_,fun h=> ?_⟩
 ·rw [cZ (fun h2=>by have:=h2.len;omega)]
 refine au (fun(y:Int×List aj×Unit)=>y.2.1=a∧0≤y.1∧y.1≤a.length∧All y.1 (fun i=>((1≤((a).getD (i).toNat default).bD∧((a).getD (i).toNat default).bD≤65535)∧((a).getD (i).toNat default).atoms.length≤4∧aok ((a).getD (i).toNat default).atoms)∧(0<i→lt ((a).getD (i-1).toNat default) ((a).getD (i).toNat default)))) (fun y=>(a.length-y.1).toNat) ⟨rfl,by simp,by simp,All.zero⟩ ?_
 rintro⟨(i:Int),(l':List aj),⟨⟩⟩ hI
 dsimp only at hI ⊢
 obtain⟨rfl,h1,h2,h3⟩:=hI
 simp (disch:=omega) only [RR,hp1 _ (ha.at _),hf1 _ (ha.at _),hp4 _ _ (ha.at _),hf4 _ _ (ha.at _),bg,jd]
 refine⟨fun h4=>⟨by omega,by omega,by by_cases c:0<i;(· right;omega);(· left;simp [c]),by by_cases c:0<i;(· right;omega);(· left;simp [c]),by omega,by omega,fun h5=> ?_,fun h5=>⟨⟨by omega,by omega,h3.snoc ⟨h5.1,fun c=> ?_⟩⟩,by omega⟩⟩,fun h4=> ?_⟩
 ·rw [cZ (fun h=> ?_)]
  obtain⟨g1,g2,g3⟩:=gX.1 h
  rcases h5 with h5 | ⟨h5,h6⟩
  ·exact h5 ⟨g1.co _ (eO h1 h4),g3 _ (eO h1 h4)⟩
  ·have:=(dh (d:=default) (R:=lt) fF).1 g1.ss i h5 h4
   unfold lt at this;omega
 ·have:=h5.2;rw [decide_eq_true c,Bool.true_and,decide_eq_false_iff_not]at this;unfold lt;omega
 ·have h8:=h3.le (by omega:(l'.length:Int)≤i)
  rw [dH]
  have h9:=nU (d:=default) (G:=fun m:aj=>(1≤m.bD∧m.bD≤65535)∧m.atoms.length≤4∧aok m.atoms).1 fun j j1 j2=>(h8 j j1 j2).1
  exact gX.2 ⟨⟨(dh (d:=default) (R:=lt) fF).2 fun j j1 j2=>(h8 j (by omega) j2).2 j1,fun m hm=>(h9 m hm).1⟩,by omega,fun m hm=>(h9 m hm).2⟩
end Go.TX.F
namespace Go.TX.F
open Go Go.AE Go.TX
theorem Zi (a:List aj) (n:Int) (ha:Sh a):Qa (std 0) (a,n,()) (fun y=>y=(bp (aW a n),())):=by
 have hlen:=ha.1
 dsimp only [Qa,Alg.cl,Alg.cg,Alg.rb,Alg.bd,Alg.l1,Tup.q,Tup.o]
 simp (disch:=omega) only [RR]
 refine au (fun(y:Int×Int×List aj×Unit)=>y.1=n∧y.2.2.1=a∧0≤y.2.1∧y.2.1≤a.length∧All y.2.1 (fun i=>JE n ((a).getD (i).toNat default))) (fun y=>(a.length-y.2.1).toNat) ⟨rfl,rfl,by simp,by simp,All.zero⟩ ?_
 rintro⟨(n':Int),(i:Int),(l:List aj),⟨⟩⟩ hI
 dsimp only at hI ⊢
 obtain⟨rfl,rfl,h1,h2,h3⟩:=hI
 simp (disch:=omega) only [RR]
 refine⟨fun h4=> ?_,fun h4=> ?_⟩
 ·have h5:=ha.at i.toNat
  refine au (fun(y:Int×Int×Int×List aj×Unit)=>y.1=n'∧y.2.1=i∧y.2.2.2.1=l∧0≤y.2.2.1∧y.2.2.1≤((l).getD (i).toNat default).atoms.length∧All y.2.2.1 (fun j=>¬n'≤((l).getD (i).toNat default).atoms.getD j.toNat default)) (fun y=>(((l).getD (i).toNat default).atoms.length-y.2.2.1).toNat) ⟨rfl,rfl,rfl,by simp,by simp,All.zero⟩ ?_
  rintro⟨(n'':Int),(i':Int),(j:Int),(l':List aj),⟨⟩⟩ hI
  dsimp only at hI ⊢
  obtain⟨rfl,rfl,rfl,g1,g2,g3⟩:=hI
  simp (disch:=omega) only [RR]
  refine⟨by omega,by omega,fun g4=>⟨by omega,by omega,by omega,by omega,fun g5=> ?_,fun g5=>⟨⟨by omega,by omega,g3.snoc g5⟩,by omega⟩⟩,fun g4=>⟨⟨by omega,by omega,h3.snoc (g3.le (by omega))⟩,by omega⟩⟩
  rw [cZ (fun h=>h i' h1 h4 j g1 g4 g5)]
 ·rw [dH (show aW l n' from h3.le (by omega))]
theorem ag9 {p4:List Int×List Int×Unit→Bool} {f4:List Int×List Int×Unit→Int×Unit} (hp4:∀a b,a.length<1000000000→p4 (a,b,())=true) (hf4:∀a b,a.length<1000000000→f4 (a,b,())=(dJ a b,()))
  (a b:List aj) (ha:Sh a):Qc (std 0) p4 f4 (a,b,()) (fun y=>y=(eU a b,())):=by
 have hlen:=ha.1
 dsimp only [Qc,Alg.cl,Alg.cg,Alg.rb,Alg.bd,Alg.l1,Tup.q,Tup.o]
 simp (disch:=omega) only [RR]
 refine⟨fun h=>⟨fun h1=> ?_,fun h1=> ?_⟩,fun h=> ?_⟩
 ·rw [show eU a b= -1 by(have e:gK a.length b.length= -1:=by unfold gK;rw [if_pos h1]);unfold eU;rw [e];rfl]
 ·rw [show eU a b=1 by(have e:gK a.length b.length=1:=by unfold gK;rw [if_neg h1,if_pos (by omega)]);unfold eU;rw [e];rfl]
 have hl:a.length=b.length:=by omega
 have e0:eU a b=Al a b:=by unfold eU;rw [iX.2 (by omega),if_neg (by simp)]
 refine au (fun(y:Int×List aj×List aj×Unit)=>y.2.1=a∧y.2.2.1=b∧0≤y.1∧y.1≤a.length∧eU a b=Al (a.drop y.1.toNat) (b.drop y.1.toNat)) (fun y=>(a.length-y.1).toNat) ⟨rfl,rfl,by simp,by simp,by simpa using e0⟩ ?_
 rintro⟨(i:Int),(l:List aj),(l':List aj),⟨⟩⟩ hI
 dsimp only at hI ⊢
 obtain⟨rfl,rfl,h1,h2,h3⟩:=hI
 simp (disch:=omega) only [RR,hp4 _ _ (ha.at _),hf4 _ _ (ha.at _)]
 refine⟨fun h4=> ?_,fun h4=> ?_⟩
 ·have e:=Am l l' i.toNat (by omega) (by omega)
  rw [getD_lt (by omega),getD_lt (by omega)]
  generalize hu:l[i.toNat]=u at e ⊢
  generalize hv:l'[i.toNat]=v at e ⊢
  have em:JF u v=if dJ u.atoms v.atoms≠0 then dJ u.atoms v.atoms else gK u.bD v.bD:=rfl
  refine⟨by omega,by omega,by omega,by omega,fun h5=> ?_,fun h5=>⟨by omega,by omega,by omega,by omega,fun h6=>⟨by omega,by omega,by omega,by omega,fun h7=> ?_,fun h7=> ?_⟩,fun h6=>⟨⟨by omega,by omega,?_⟩,by omega⟩⟩⟩
  ·rw [if_pos h5]at em
   rw [h3,e,em,if_pos h5]
  ·rw [if_neg (by simpa using h5),show gK u.bD v.bD= -1 by unfold gK;rw [if_pos h7]]at em
   rw [h3,e,em];rfl
  ·rw [if_neg (by simpa using h5),show gK u.bD v.bD=1 by unfold gK;rw [if_neg h7,if_pos (by omega)]]at em
   rw [h3,e,em];rfl
  ·rw [if_neg (by simpa using h5),iX.2 h6]at em
   rw [h3,e,em,show(i+1).toNat=i.toNat+1 by omega];rfl
 ·rw [h3,List.drop_eq_nil_of_le (by omega)];rfl
theorem Zj (a:Atom):P9 (std 0) (a,()) (fun y=>y=(bp (a.x=[]∧a.y=[]),())):=by
 dsimp only [P9,Alg.cl,Alg.cg,Alg.rb,Alg.bd,Alg.l1,Tup.q,Tup.o]
 simp (disch:=omega) only [RR]
 refine congrArg (fun b=>(b,())) ?_
 rw [Bool.eq_iff_iff,bg,Bool.and_eq_true,decide_eq_true_eq,decide_eq_true_eq]
 constructor
 ·rintro⟨h1,h2⟩;exact⟨List.eq_nil_of_length_eq_zero (by omega),List.eq_nil_of_length_eq_zero (by omega)⟩
 ·rintro⟨h1,h2⟩;rw [h1,h2];exact⟨rfl,rfl⟩
theorem aha {p1:Int×Int×Int×Unit→Bool} {f1:Int×Int×Int×Unit→Bool×Unit} (hp1:∀a b c,p1 (a,b,c,())=true) (hf1:∀a b c,f1 (a,b,c,())=(inB a b c,()))
  {p4:List aj×Unit→Bool} {f4:List aj×Unit→Bool×Unit} (hp4:∀a,Sh a→p4 (a,())=true) (hf4:∀a,Sh a→f4 (a,())=(bp (aL a),()))
  {p3:List aj×Int×Unit→Bool} {f3:List aj×Int×Unit→Bool×Unit} (hp3:∀a n,Sh a→p3 (a,n,())=true) (hf3:∀a n,Sh a→f3 (a,n,())=(bp (aW a n),()))
  {p5:Atom×Unit→Bool} {f5:Atom×Unit→Bool×Unit} (hp5:∀a,p5 (a,())=true) (hf5:∀a,f5 (a,())=(bp (a.x=[]∧a.y=[]),())) (a:Atom) (n:Int) (ha:ShA a):
  Qb (std 0) p1 f1 p4 f4 p3 f3 p5 f5 (a,n,()) (fun y=>y=(bp (gY a n),())):=by
 obtain⟨hx,hy⟩:=ha
 dsimp only [Qb,Alg.cl,Alg.cg,Alg.rb,Alg.bd,Alg.l1,Tup.q,Tup.o]
 simp (disch:=omega) only [RR,hp1,hf1,hp5,hf5,hp3 a.x n hx,hf3 a.x n hx,hp3 a.y n hy,hf3 a.y n hy,hp4 a.x hx,hf4 a.x hx,hp4 a.y hy,hf4 a.y hy]
 unfold gY
 have E:∀(b:Bool) (P:Prop),(b=true↔P)→(b,())=(bp P,()):=fun b P h=>by
  rw [show b=bp P from Bool.eq_iff_iff.2 (h.trans bg.symm)]
 have T:∀ {P:Prop},¬P→(false,())=(bp P,()):=fun h=>by rw [cZ h]
 refine⟨fun h=>E _ _ ?_,fun h=>⟨fun h1=>⟨fun _=>E _ _ ?_,fun h'=>absurd h1 h'⟩,fun h1=>⟨fun h2=>E _ _ ?_,fun h2=>⟨fun h3=>E _ _ ?_,fun h3=>T ?_⟩⟩⟩⟩
 ·rw [if_neg (by omega),Bool.and_eq_true,dz,bg]
  constructor
  ·rintro⟨g1,g2⟩;exact⟨g2,Or.inl ⟨h,g1⟩⟩
  ·rintro⟨g2,⟨_,g1⟩ | ⟨g3,g1⟩⟩
   ·exact⟨g1,g2⟩
   ·omega
 ·rw [if_neg (by omega),Bool.and_eq_true,dz,bg]
  constructor
  ·rintro⟨g1,g2⟩;exact⟨g2,Or.inr ⟨Or.inl h1,g1⟩⟩
  ·rintro⟨g2,⟨_,g1⟩ | ⟨g3,g1⟩⟩
   ·omega
   ·exact⟨g1,g2⟩
 ·rw [if_neg (by omega),Bool.and_eq_true,dz,bg]
  constructor
  ·rintro⟨g1,g2⟩;exact⟨g2,Or.inr ⟨Or.inr h2,g1⟩⟩
  ·rintro⟨g2,⟨_,g1⟩ | ⟨g3,g1⟩⟩
   ·omega
   ·exact⟨g1,g2⟩
 ·rw [if_pos h3]
  simp only [Bool.and_eq_true,dz,bg,and_assoc]
 ·rw [if_neg h3]
  rintro⟨_,⟨g,_⟩ | ⟨g,_⟩⟩<;>omega
theorem ahb {p1:List aj×List aj×Unit→Bool} {f1:List aj×List aj×Unit→Int×Unit} (hp1:∀a b,Sh a→p1 (a,b,())=true) (hf1:∀a b,Sh a→f1 (a,b,())=(eU a b,())) (a b:Atom) (ha:ShA a):
  Qd (std 0) p1 f1 (a,b,()) (fun y=>y=(nQ a b,())):=by
 dsimp only [Qd,Alg.cl,Alg.cg,Alg.rb,Alg.bd,Alg.l1,Tup.q,Tup.o]
 simp (disch:=omega) only [RR,hp1 a.x b.x ha.1,hf1 a.x b.x ha.1,hp1 a.y b.y ha.2,hf1 a.y b.y ha.2]
 rfl
theorem Zk (G:Int→Prop):∀n:Nat,∃r,Idx n G r
 | 0=>⟨-1,Or.inl ⟨rfl,All.zero⟩⟩
 | n+1=>by
  obtain⟨r,h⟩:=Zk G n
  rcases h with⟨h1,h2⟩ | ⟨h1,h2,h3,h4⟩
  ·by_cases g:G n
   ·exact⟨n,Or.inr ⟨by omega,by omega,g,h2⟩⟩
   ·exact⟨-1,Or.inl ⟨rfl,by have:=h2.snoc g;exact this.le (by omega)⟩⟩
  ·exact⟨r,Or.inr ⟨h1,by omega,h3,h4⟩⟩
theorem Rt (G:Int→Prop) (n:Nat):Idx n G (idxOf n G):=by
 obtain⟨r,h⟩:=Zk G n
 rw [←h.eq];exact h
theorem jC (t:List Atom) (a:Atom):Idx t.length (fun i=>a=t.getD i.toNat default) (qj t a):=by
 have:=Rt (fun i=>nQ a (t.getD i.toNat default)=true) t.length
 simp only [l7]at this
 unfold qj;simp only [l7];exact this
theorem l8 {t:List Atom}:aF t↔All t.length (fun i=>gY (t.getD i.toNat default) i∧All i (fun j=>¬t.getD i.toNat default=t.getD j.toNat default))∧t.length≤200:=by
 unfold aF
 refine and_congr ⟨fun h i h1 h2=>⟨(h i h1 h2).1,?_⟩,fun h i h1 h2=>⟨(h i h1 h2).1,?_⟩⟩ Iff.rfl
 ·have:=jC t (t.getD i.toNat default)
  rw [(h i h1 h2).2]at this
  rcases this with⟨g1,_⟩ | ⟨_,_,_,g⟩
  ·omega
  ·exact g
 ·exact((jC t (t.getD i.toNat default)).uniq (Or.inr ⟨h1,h2,rfl,(h i h1 h2).2⟩))
theorem ahc {p1:Atom×Int×Unit→Bool} {f1:Atom×Int×Unit→Bool×Unit} (hp1:∀a n,ShA a→p1 (a,n,())=true) (hf1:∀a n,ShA a→f1 (a,n,())=(bp (gY a n),()))
  {p2:Atom×Atom×Unit→Bool} {f2:Atom×Atom×Unit→Bool×Unit} (hp2:∀a b,ShA a→p2 (a,b,())=true) (hf2:∀a b,ShA a→f2 (a,b,())=(nQ a b,())) (a:List Atom) (ha:ShT a):
  Qe (std 0) p1 f1 p2 f2 (a,()) (fun y=>y=(bp (aF a),())):=by
 have hlen:=ha.1
 dsimp only [Qe,Alg.cl,Alg.cg,Alg.rb,Alg.bd,Alg.l1,Tup.q,Tup.o]
 simp (disch:=omega) only [RR]
 refine⟨fun h=> ?_,fun h=> ?_⟩
 ·rw [cZ (fun h2=>by have:=h2.2;omega)]
 refine au (fun(y:Int×List Atom×Unit)=>y.2.1=a∧0≤y.1∧y.1≤a.length∧All y.1 (fun i=>gY ((a).getD (i).toNat default) i∧All i (fun j=>¬((a).getD (i).toNat default)=((a).getD (j).toNat default)))) (fun y=>(a.length-y.1).toNat) ⟨rfl,by simp,by simp,All.zero⟩ ?_
 rintro⟨(i:Int),(l:List Atom),⟨⟩⟩ hI
 dsimp only at hI ⊢
 obtain⟨rfl,h1,h2,h3⟩:=hI
 simp (disch:=omega) only [RR,hp1 _ _ (ha.at _),hf1 _ _ (ha.at _),bg,jd]
 refine⟨fun h4=>⟨by omega,by omega,fun h5=> ?_,fun h5=> ?_⟩,fun h4=> ?_⟩
 ·rw [cZ (fun h=>h5 (h.1 i h1 h4).1)]
 ·refine au (fun(y:Int×Int×List Atom×Unit)=>y.1=i∧y.2.2.1=l∧0≤y.2.1∧y.2.1≤i∧All y.2.1 (fun j=>¬((l).getD (i).toNat default)=((l).getD (j).toNat default))) (fun y=>(i-y.2.1).toNat) ⟨rfl,rfl,by simp,by simp;omega,All.zero⟩ ?_
  rintro⟨(i':Int),(j:Int),(l':List Atom),⟨⟩⟩ hI
  dsimp only at hI ⊢
  obtain⟨rfl,rfl,g1,g2,g3⟩:=hI
  simp (disch:=omega) only [RR,hp2 _ _ (ha.at _),hf2 _ _ (ha.at _)]
  refine⟨fun g4=>⟨by omega,by omega,by omega,by omega,fun g5=> ?_,fun g5=>⟨⟨by omega,by omega,g3.snoc ?_⟩,by omega⟩⟩,fun g4=>⟨⟨by omega,by omega,h3.snoc ⟨h5,g3.le (by omega)⟩⟩,by omega⟩⟩
  ·rw [cZ (fun h=>((l8.1 h).1 i' h1 h4).2 j g1 g4 (l7.1 g5).symm)]
  ·intro e;rw [l7.2 e.symm]at g5;cases g5
 ·rw [dH (l8.2 ⟨h3.le (by omega),by omega⟩)]
theorem ahd {p1:Int×Unit→Bool} {f1:Int×Unit→Bool×Unit} (hp1:∀a,p1 (a,())=true) (hf1:∀a,f1 (a,())=(inB a 0 65535,()))
  {p2:Int×Unit→Bool} {f2:Int×Unit→Int×Unit} (hp2:∀a,p2 (a,())=true) (hf2:∀a,f2 (a,())=(a%65536,())) (op a b:Int):
  QE (std 0) p2 f2 p1 f1 (op,a,b,()) (fun y=>y=(wdo op a b,())):=by
 dsimp only [QE,Alg.cl,Alg.cg,Alg.rb,Alg.bd,Alg.l1,Tup.q,Tup.o]
 simp (disch:=omega) only [RR,hp1,hf1,hp2,hf2,Rs,Y7,dz,mV]
 by_cases ha:(0≤a∧a≤65535)∧(0≤b∧b≤65535)
 ·have hm:0≤a*b∧a*b≤65535*65535:=⟨Int.mul_nonneg ha.1.1 ha.2.1,Int.mul_le_mul ha.1.2 ha.2.2 ha.2.1 (by omega)⟩
  rw [w64 (x:=a+b) (by omega) (by omega),w64 (x:=a-b) (by omega) (by omega),w64 (x:=a*b) (by omega) (by omega)]
  unfold wdo
  rw [if_pos ha]
  refine⟨fun h=>absurd h (by omega),fun _=>⟨fun h=> ?_,fun h=>⟨fun h1=> ?_,fun h1=>⟨fun h2=> ?_,fun h2=>⟨fun h3=> ?_,fun h3=>⟨fun h4=> ?_,fun h4=> ?_⟩⟩⟩⟩⟩⟩<;>(subst_vars;first | rfl | simp only [if_true,if_false, *])
 ·refine⟨fun h=> ?_,fun h=>absurd h ?_⟩
  ·unfold wdo;rw [if_neg ha]
  ·exact ha
theorem ahe {p1:List aj×Unit→Bool} {f1:List aj×Unit→Bool×Unit} (hp1:∀a,Sh a→p1 (a,())=true) (hf1:∀a,Sh a→f1 (a,())=(bp (aL a),())) (a:List aj) (ha:Sh a):
  QD (std 0) p1 f1 (a,()) (fun y=>y=((bM a).1,(bM a).2,())):=by
 dsimp only [QD,Alg.cl,Alg.cg,Alg.rb,Alg.bd,Alg.l1,Tup.q,Tup.o]
 simp (disch:=omega) only [RR,hp1 a ha,hf1 a ha]
 unfold bM
 have z:Int.toNat 0=0:=rfl
 rw [z]
 refine⟨fun h=> ?_,fun h=>⟨fun h1=> ?_,fun h1=>⟨by omega,by omega,fun h2=> ?_,fun h2=>⟨by omega,by omega,?_⟩⟩⟩⟩
 ·rw [if_neg (by simpa using h)]
 ·rw [if_pos h,if_pos (by omega)]
 ·rw [if_pos h,if_neg (by omega),if_neg (by omega)]
 ·rw [if_pos h,if_neg (by omega),if_pos (by omega)]
theorem Zl (a:List aj) (ha:Sh a):Qj (std 0) (a,()) (fun y=>y=(a,())):=by
 have hlen:=ha.1
 dsimp only [Qj,Alg.cl,Alg.cg,Alg.rb,Alg.bd,Alg.l1,Tup.q,Tup.o]
 simp (disch:=omega) only [RR]
 refine au (fun(y:List aj×Int×List aj×Unit)=>y.1=a∧y.2.2.1=a.take y.2.1.toNat∧0≤y.2.1∧y.2.1≤a.length) (fun y=>(a.length-y.2.1).toNat) ⟨rfl,by simp,by simp,by simp⟩ ?_
 rintro⟨(l:List aj),(i:Int),(o:List aj),⟨⟩⟩ hI
 dsimp only at hI ⊢
 obtain⟨rfl,rfl,h1,h2⟩:=hI
 have h3:=ha.at i.toNat
 have h4:=List.length_take_le' i.toNat l
 simp (disch:=omega) only [RR]
 simp only [List.length_nil,List.nil_append,List.length_cons]
 refine⟨fun h4=>⟨by omega,by omega,by omega,by omega,Or.inr (by omega),by omega,by omega,⟨bU h1 h4 rfl,by omega,by omega⟩,by omega⟩,fun h4=>by rw [List.take_of_length_le (by omega)]⟩
end Go.TX.F
namespace Go.TX.F
open Go Go.AE Go.TX
def Gu (l:List aj):Prop:=l.length≤12∧∀m∈l,m.atoms.length≤4
theorem ahf {p1:List aj×Unit→Bool} {f1:List aj×Unit→List aj×Unit} (hp1:∀a,Sh a→p1 (a,())=true) (hf1:∀a,Sh a→f1 (a,())=(a,())) (a:List aj) (ha:Sh a):
  Qt (std 0) p1 f1 (a,()) (fun y=>y=(bp (Gu a),if bp (Gu a)then a else [],())):=by
 have hlen:=ha.1
 dsimp only [Qt,Alg.cl,Alg.cg,Alg.rb,Alg.bd,Alg.l1,Tup.q,Tup.o]
 simp (disch:=omega) only [RR]
 refine⟨fun h=> ?_,fun h=> ?_⟩
 ·rw [cZ (fun h2=>by have:=h2.1;omega)];rfl
 refine au (fun(y:List aj×Int×Unit)=>y.1=a∧0≤y.2.1∧y.2.1≤a.length∧All y.2.1 (fun i=>((a).getD (i).toNat default).atoms.length≤4)) (fun y=>(a.length-y.2.1).toNat) ⟨rfl,by simp,by simp,All.zero⟩ ?_
 rintro⟨(l:List aj),(i:Int),⟨⟩⟩ hI
 dsimp only at hI ⊢
 obtain⟨rfl,h1,h2,h3⟩:=hI
 simp (disch:=omega) only [RR,hp1 l ha,hf1 l ha]
 refine⟨fun h4=>⟨by omega,by omega,fun h5=> ?_,fun h5=>⟨⟨by omega,by omega,h3.snoc (by omega)⟩,by omega⟩⟩,fun h4=> ?_⟩
 ·rw [cZ (fun h=>by have:=h.2 _ (eO (d:=default) h1 h4);omega)];rfl
 ·rw [dH (show Gu l from⟨by omega,nU (d:=default) (G:=fun m:aj=>m.atoms.length≤4).1 (h3.le (by omega))⟩)];rfl
theorem ahg {p1:List aj×Unit→Bool} {f1:List aj×Unit→List aj×Unit} (hp1:∀a,Sh a→p1 (a,())=true) (hf1:∀a,Sh a→f1 (a,())=(a,())) (a:Atom) (ha:ShA a):
  Qk (std 0) p1 f1 (a,()) (fun y=>y=(a.kind,a.k,a.x,a.y,())):=by
 dsimp only [Qk,Alg.cl,Alg.cg,Alg.rb,Alg.bd,Alg.l1,Tup.q,Tup.o]
 simp (disch:=omega) only [RR,hp1 a.x ha.1,hf1 a.x ha.1,hp1 a.y ha.2,hf1 a.y ha.2]
theorem ahh {p1:Atom×Unit→Bool} {f1:Atom×Unit→Int×Int×List aj×List aj×Unit} (hp1:∀a,ShA a→p1 (a,())=true) (hf1:∀a,ShA a→f1 (a,())=(a.kind,a.k,a.x,a.y,())) (a:List Atom) (ha:ShT a):
  Ql (std 0) p1 f1 (a,()) (fun y=>y=(a,())):=by
 have hlen:=ha.1
 dsimp only [Ql,Alg.cl,Alg.cg,Alg.rb,Alg.bd,Alg.l1,Tup.q,Tup.o]
 simp (disch:=omega) only [RR]
 refine au (fun(y:Int×List Atom×List Atom×Unit)=>y.2.1=a∧y.2.2.1=a.take y.1.toNat∧0≤y.1∧y.1≤a.length) (fun y=>(a.length-y.1).toNat) ⟨rfl,by simp,by simp,by simp⟩ ?_
 rintro⟨(i:Int),(l:List Atom),(o:List Atom),⟨⟩⟩ hI
 dsimp only at hI ⊢
 obtain⟨rfl,rfl,h1,h2⟩:=hI
 simp (disch:=omega) only [RR,hp1 _ (ha.at _),hf1 _ (ha.at _)]
 have h5:=List.length_take_le' i.toNat l
 refine⟨fun h4=>⟨by omega,by omega,?_,⟨bU h1 h4 rfl,by omega,by omega⟩,by omega⟩,fun h4=>by rw [List.take_of_length_le (by omega)]⟩
 simp only [List.length_cons,List.length_nil];omega
theorem vD {p:List aj} {n m:Int} (h:aW p n) (h2:n≤m):aW p m:=bW.2 fun a ha k hk=>by have:=bW.1 h a ha k hk;omega
theorem Zm {a:Atom} {n m:Int} (h:gY a n) (h2:n≤m):gY a m:=by
 unfold gY at h ⊢
 split
 ·rename_i h3;rw [if_pos h3]at h;exact⟨h.1,h.2.1,h.2.2.1,vD h.2.2.2.1 h2,vD h.2.2.2.2 h2⟩
 ·rename_i h3;rw [if_neg h3]at h;exact h
theorem ahi {p1:Atom×Int×Unit→Bool} {f1:Atom×Int×Unit→Bool×Unit} (hp1:∀a n,ShA a→p1 (a,n,())=true) (hf1:∀a n,ShA a→f1 (a,n,())=(bp (gY a n),()))
  {p2:Atom×Atom×Unit→Bool} {f2:Atom×Atom×Unit→Bool×Unit} (hp2:∀a b,ShA a→p2 (a,b,())=true) (hf2:∀a b,ShA a→f2 (a,b,())=(nQ a b,()))
  {p3:Atom×Unit→Bool} {f3:Atom×Unit→Int×Int×List aj×List aj×Unit} (hp3:∀a,ShA a→p3 (a,())=true) (hf3:∀a,ShA a→f3 (a,())=(a.kind,a.k,a.x,a.y,()))
  (a:Atom) (t:List Atom) (ha:ShA a) (ht:ShT t) (hok:aF t):Qo (std 0) p1 f1 p2 f2 p3 f3 (a,t,()) (fun y=>y=((aX t a).2,(aX t a).1,())):=by
 have hlen:=ht.1
 dsimp only [Qo,Alg.cl,Alg.cg,Alg.rb,Alg.bd,Alg.l1,Tup.q,Tup.o]
 simp (disch:=omega) only [RR,hp1 _ _ ha,hf1 _ _ ha,bg,jd]
 have hsp:=jC t a
 refine⟨fun h=> ?_,fun h=> ?_⟩
 ·have:qj t a= -1:=by
   rcases hsp with⟨g,_⟩ | ⟨g1,g2,g3,_⟩
   ·exact g
   ·exfalso;apply h
    have:=(hok.1 _ g1 g2).1
    rw [←g3]at this;exact Zm this (by omega)
  unfold aX
  rw [this,if_neg (by omega),if_pos (Or.inl h)]
 refine au (fun(y:Int×List Atom×Atom×Unit)=>y.2.1=t∧y.2.2.1=a∧0≤y.1∧y.1≤t.length∧All y.1 (fun i=>¬a=t.getD i.toNat default)) (fun y=>(t.length-y.1).toNat) ⟨rfl,rfl,by simp,by simp,All.zero⟩ ?_
 rintro⟨(i:Int),(l:List Atom),(a':Atom),⟨⟩⟩ hI
 dsimp only at hI ⊢
 obtain⟨rfl,rfl,h1,h2,h3⟩:=hI
 simp (disch:=omega) only [RR,hp2 _ _ (ht.at _),hf2 _ _ (ht.at _),hp3 _ ha,hf3 _ ha]
 refine⟨fun h4=>⟨by omega,by omega,by omega,by omega,fun h5=> ?_,fun h5=>⟨⟨by omega,by omega,h3.snoc ?_⟩,by omega⟩⟩,fun h4=> ?_⟩
 ·have e:=(l7.1 h5).symm
  have:qj l a'=i:=hsp.uniq (Or.inr ⟨h1,h4,e,h3⟩)
  unfold aX;rw [this,if_pos h1]
 ·intro e;rw [l7.2 e.symm]at h5;cases h5
 ·have:qj l a'= -1:=hsp.uniq (Or.inl ⟨rfl,h3.le (by omega)⟩)
  unfold aX;rw [this,if_neg (by omega)]
  refine⟨fun h5=> ?_,fun h5=>⟨?_,?_⟩⟩
  ·rw [if_pos (Or.inr (by omega))]
  ·simp only [List.length_cons,List.length_nil];omega
  ·rw [if_neg (by rintro(g | g);exact g h;omega),List.length_append]
   rw [w64 (by simp only [List.length_cons,List.length_nil];omega) (by simp only [List.length_cons,List.length_nil];omega)]
   simp only [List.length_cons,List.length_nil]
   rw [show(((l.length+(0+1):Nat):Int)-1)=l.length by omega]
def BD (op n:Int) (y:List aj):List aj×Bool:=if op=4∧n=0 then([],true)else if(op=4∧n=65535)∨(op=5∧n=0)then(y,true)else([],false)
theorem ahj {p1:List aj×Unit→Bool} {f1:List aj×Unit→List aj×Unit} (hp1:∀a,Sh a→p1 (a,())=true) (hf1:∀a,Sh a→f1 (a,())=(a,())) (op n:Int) (y:List aj) (hy:Sh y):
  QF (std 0) p1 f1 (op,n,y,()) (fun z=>z=((BD op n y).2,(BD op n y).1,())):=by
 dsimp only [QF,Alg.cl,Alg.cg,Alg.rb,Alg.bd,Alg.l1,Tup.q,Tup.o]
 simp (disch:=omega) only [RR,hp1 y hy,hf1 y hy]
 unfold BD
 by_cases c1:op=4<;>by_cases c2:n=0<;>by_cases c3:n=65535<;>by_cases c4:op=5<;>simp [c1,c2,c3,c4]<;>omega
theorem abI (op:Int) (x y:List aj):Gt op x y=if(bM x).2&& (bM y).2 then(dw (wdo op (bM x).1 (bM y).1),true)
  else if eU x y=0 then(if op=4 then(x,true)else([],true))else if(bM x).2 then BD op (bM x).1 y else if(bM y).2 then BD op (bM y).1 x else([],false):=by
 unfold Gt BD
 by_cases c1:eU x y=0<;>by_cases c2:op=4<;>simp [c1,c2]
theorem ahk {p1:List aj×List aj×Unit→Bool} {f1:List aj×List aj×Unit→Int×Unit} (hp1:∀a b,Sh a→p1 (a,b,())=true) (hf1:∀a b,Sh a→f1 (a,b,())=(eU a b,()))
  {p2:List aj×Unit→Bool} {f2:List aj×Unit→List aj×Unit} (hp2:∀a,Sh a→p2 (a,())=true) (hf2:∀a,Sh a→f2 (a,())=(a,()))
  {p3:Int×Int×Int×Unit→Bool} {f3:Int×Int×Int×Unit→Int×Unit} (hp3:∀op a b,p3 (op,a,b,())=true) (hf3:∀op a b,f3 (op,a,b,())=(wdo op a b,()))
  {p4:Int×Unit→Bool} {f4:Int×Unit→List aj×Unit} (hp4:∀n,p4 (n,())=true) (hf4:∀n,f4 (n,())=(dw n,()))
  {p7:List aj×Unit→Bool} {f7:List aj×Unit→Int×Bool×Unit} (hp7:∀a,Sh a→p7 (a,())=true) (hf7:∀a,Sh a→f7 (a,())=((bM a).1,(bM a).2,()))
  {p8:Int×Int×List aj×Unit→Bool} {f8:Int×Int×List aj×Unit→Bool×List aj×Unit} (hp8:∀op n y,Sh y→p8 (op,n,y,())=true) (hf8:∀op n y,Sh y→f8 (op,n,y,())=((BD op n y).2,(BD op n y).1,()))
  (op:Int) (x y:List aj) (hx:Sh x) (hy:Sh y):QG (std 0) p1 f1 p2 f2 p3 f3 p4 f4 p7 f7 p8 f8 (op,x,y,()) (fun z=>z=((Gt op x y).2,(Gt op x y).1,())):=by
 dsimp only [QG,Alg.cl,Alg.cg,Alg.rb,Alg.bd,Alg.l1,Tup.q,Tup.o]
 simp (disch:=omega) only [RR,hp1 x y hx,hf1 x y hx,hp2 x hx,hf2 x hx,hp3,hf3,hp4,hf4,hp7 x hx,hf7 x hx,hp7 y hy,hf7 y hy,hp8 op _ y hy,hf8 op _ y hy,hp8 op _ x hx,hf8 op _ x hx]
 rw [abI]
 generalize bM x=nx
 generalize bM y=ny
 obtain⟨n,bn⟩:=nx
 obtain⟨m,bm⟩:=ny
 dsimp only
 by_cases e:eU x y=0<;>by_cases o4:op=4<;>cases bn<;>cases bm<;>simp [e,o4]
noncomputable def Gw (op:Int) (x y:List aj):List aj×Bool:=
 if op=1 then((mW x y).2,(mW x y).1)else if op=2 then((mW x (iQ y 65535)).2,(mW x (iQ y 65535)).1)else if op=3 then((lI x y).2,(lI x y).1)else([],false)
theorem ahl
  {p5:List aj×List aj×Unit→Bool} {f5:List aj×List aj×Unit→Bool×List aj×Unit} (hp5:∀a b,Sh a→Sh b→p5 (a,b,())=true) (hf5:∀a b,Sh a→Sh b→f5 (a,b,())=((lI a b).1,(lI a b).2,()))
  {p4:List aj×List aj×Unit→Bool} {f4:List aj×List aj×Unit→Bool×List aj×Unit} (hp4:∀a b,Sh a→Sh b→p4 (a,b,())=true) (hf4:∀a b,Sh a→Sh b→f4 (a,b,())=((mW a b).1,(mW a b).2,()))
  {p6:List aj×Int×Unit→Bool} {f6:List aj×Int×Unit→List aj×Unit} (hp6:∀a n,Sh a→p6 (a,n,())=true) (hf6:∀a n,Sh a→f6 (a,n,())=(iQ a n,()))
  (op:Int) (x y:List aj) (hx:Sh x) (hy:Sh y):QC (std 0) p5 f5 p4 f4 p6 f6 (op,x,y,()) (fun z=>z=((Gw op x y).2,(Gw op x y).1,())):=by
 dsimp only [QC,Alg.cl,Alg.cg,Alg.rb,Alg.bd,Alg.l1,Tup.q,Tup.o]
 simp (disch:=omega) only [RR,hp4 x y hx hy,hf4 x y hx hy,hp4 x _ hx (vC y 65535),hf4 x _ hx (vC y 65535),hp5 x y hx hy,hf5 x y hx hy,hp6 y _ hy,hf6 y _ hy]
 unfold Gw
 refine⟨fun h=>by rw [if_pos h],fun h=>⟨fun h1=>by rw [if_neg h,if_pos h1],fun h1=>⟨fun h2=>by rw [if_neg h,if_neg h1,if_pos h2],fun h2=>by rw [if_neg h,if_neg h1,if_neg h2]⟩⟩⟩
theorem ahm {p1:Int×Unit→Bool} {f1:Int×Unit→List aj×Unit} (hp1:∀n,p1 (n,())=true) (hf1:∀n,f1 (n,())=(fE n,()))
  {p2:List aj×List aj×Unit→Bool} {f2:List aj×List aj×Unit→Int×Unit} (hp2:∀a b,Sh a→p2 (a,b,())=true) (hf2:∀a b,Sh a→f2 (a,b,())=(eU a b,()))
  {p3:Int×List aj×List aj×Unit→Bool} {f3:Int×List aj×List aj×Unit→Bool×List aj×Unit} (hp3:∀op x y,Sh x→Sh y→p3 (op,x,y,())=true) (hf3:∀op x y,Sh x→Sh y→f3 (op,x,y,())=((Gw op x y).2,(Gw op x y).1,()))
  {p4:Int×List aj×List aj×Unit→Bool} {f4:Int×List aj×List aj×Unit→Bool×List aj×Unit} (hp4:∀op x y,Sh x→Sh y→p4 (op,x,y,())=true) (hf4:∀op x y,Sh x→Sh y→f4 (op,x,y,())=((Gt op x y).2,(Gt op x y).1,()))
  {p5:Atom×List Atom×Unit→Bool} {f5:Atom×List Atom×Unit→Int×List Atom×Unit} (hp5:∀a t,ShA a→ShT t→aF t→p5 (a,t,())=true) (hf5:∀a t,ShA a→ShT t→aF t→f5 (a,t,())=((aX t a).2,(aX t a).1,()))
  (op:Int) (x y:List aj) (t:List Atom) (hop:1≤op∧op≤5) (hx:Sh x) (hy:Sh y) (ht:ShT t) (hok:aF t):QJ (std 0) p1 f1 p2 f2 p3 f3 p4 f4 p5 f5 (op,x,y,t,()) (fun z=>z=((tDo t op x y).1,(tDo t op x y).2,())):=by
 have s1:ShA ⟨4,op,x,y⟩:=⟨hx,hy⟩
 have s2:ShA ⟨4,op,y,x⟩:=⟨hy,hx⟩
 dsimp only [QJ,Alg.cl,Alg.cg,Alg.rb,Alg.bd,Alg.l1,Tup.q,Tup.o]
 simp (disch:=omega) only [RR,hp1,hf1,hp2 x y hx,hf2 x y hx,hp3 op x y hx hy,hf3 op x y hx hy,hp4 op x y hx hy,hf4 op x y hx hy,hp5 _ _ s1 ht hok,hf5 _ _ s1 ht hok,hp5 _ _ s2 ht hok,hf5 _ _ s2 ht hok]
 have e1:(op=4∨op=5)→Gt op x y=iR op x y:=fun h=>by unfold iR;rw [if_neg (by omega),if_neg (by omega),if_neg (by omega)]
 have e2:¬(op=4∨op=5)→Gw op x y=iR op x y:=fun h=>by
  unfold iR Gw
  by_cases c1:op=1
  ·rw [if_pos c1,if_pos c1]
  ·rw [if_neg c1,if_neg c1]
   by_cases c2:op=2
   ·rw [if_pos c2,if_pos c2]
   ·rw [if_neg c2,if_neg c2,if_pos (by omega),if_pos (by omega)]
 unfold tDo
 by_cases c:op=4∨op=5
 ·rw [e1 c]
  generalize aX t ⟨4,op,y,x⟩=r1
  generalize aX t ⟨4,op,x,y⟩=r2
  generalize eU x y=o
  generalize iR op x y=s
  obtain⟨p,b⟩:=s
  have c':¬op=2:=by omega
  cases b<;>by_cases c2:0<o<;>by_cases c3:r1.2<0<;>by_cases c4:r2.2<0<;>simp [c,c',c2,c3,c4]<;>omega
 ·rw [e2 c]
  generalize aX t ⟨4,op,y,x⟩=r1
  generalize aX t ⟨4,op,x,y⟩=r2
  generalize eU x y=o
  generalize iR op x y=s
  obtain⟨p,b⟩:=s
  obtain⟨n4,n5⟩:=not_or.1 c
  cases b<;>by_cases c1:op=2<;>by_cases c2:0<o<;>by_cases c3:r1.2<0<;>by_cases c4:r2.2<0<;>simp [n4,n5,c1,c2,c3,c4]
end Go.TX.F
namespace Go.TX.F
open Go Go.AE Go.TX
structure Plus (l:List aj) (m:aj) (o:List aj):Prop where
 nf:Nf o
 cf:∀k,cf o k=F.cf (l++ [m]) k%65536
 len:o.length≤l.length+1
theorem ahn {p1:List Int×List Int×Unit→Bool} {f1:List Int×List Int×Unit→Int×Unit} (hp1:∀a b,a.length<1000000000→p1 (a,b,())=true) (hf1:∀a b,a.length<1000000000→f1 (a,b,())=(dJ a b,()))
    {p2:Int×Unit→Bool} {f2:Int×Unit→Int×Unit} (hp2:∀a,p2 (a,())=true) (hf2:∀a,f2 (a,())=(a%65536,()))
    (l:List aj) (m:aj) (hl:l.length<1000000000) (hn:Nf l) (hm:1≤m.bD∧m.bD≤65535) (hma:m.atoms.length<1000000000):Qs (std 0) p1 f1 p2 f2 (l,m,()) (fun y=>Plus l m y.1):=by
  dsimp only [Qs,Alg.cl,Alg.cg,Alg.rb,Alg.bd,Alg.l1,Tup.q,Tup.o]
  refine au (fun(y:List aj×Bool×Int×aj×List aj×Unit)=>y.1=l∧y.2.2.2.1=m∧0≤y.2.2.1∧y.2.2.1≤l.length∧
      ((y.2.1=false∧y.2.2.2.2.1=l.take y.2.2.1.toNat∧∀x∈l.take y.2.2.1.toNat,lt x m)∨
       (y.2.1=true∧Nf y.2.2.2.2.1∧(∀k,cf y.2.2.2.2.1 k=cf (l.take y.2.2.1.toNat++ [m]) k%65536)∧(y.2.2.2.2.1.length:Int)≤y.2.2.1+1∧(y.2.2.1<l.length→lt m ((l).getD (y.2.2.1).toNat default)∧∀x∈y.2.2.2.2.1,lt x ((l).getD (y.2.2.1).toNat default))))) (fun y=>(l.length-y.2.2.1).toNat)
    ⟨rfl,rfl,by simp,by simp,Or.inl ⟨rfl,by simp,by simp⟩⟩ ?_
  rintro⟨(l':List aj),(dn:Bool),(i:Int),(m':aj),(o:List aj),⟨⟩⟩ hI
  dsimp only at hI ⊢
  obtain⟨rfl,rfl,h1,h2,h3⟩:=hI
  simp (disch:=omega) only [RR,hp1 _ _ hma,hf1 _ _ hma,hp2,hf2]
  have hss:=hn.ss
  have nx:i+1<l'.length→lt ((l').getD (i).toNat default) ((l').getD (i+1).toNat default):=fun h=>by
    have:=(dh (d:=default) (R:=lt) fF).1 hss (i+1) (by omega) h
    rw [show i+1-1=i by omega]at this;exact this
  have tk:i<l'.length→l'.take (i+1).toNat=l'.take i.toNat++ [((l').getD (i).toNat default)]:=fun h=>(bU h1 h rfl).symm
  have bf:i<l'.length→∀x∈l'.take i.toNat,lt x ((l').getD (i).toNat default):=fun h x hx=>by
    have:=hss
    rw [←List.take_append_drop i.toNat l',List.pairwise_append]at this
    refine this.2.2 x hx _ ?_
    rw [getD_lt (by omega),List.drop_eq_getElem_cons (show i.toNat<l'.length by omega)];exact List.mem_cons_self
  have lt0:=List.length_take_le' i.toNat l'
  have lt1:=List.length_take_le i.toNat l'
  have co:i<l'.length→1≤((l').getD (i).toNat default).bD∧((l').getD (i).toNat default).bD≤65535:=fun h=>hn.co _ (eO h1 h)
  have ntk:Nf (l'.take i.toNat):=⟨List.Pairwise.sublist (List.take_sublist _ _) hss,fun x hx=>hn.co x (List.mem_of_mem_take hx)⟩
  have Zn:∀ {a:List aj} {x:aj},Nf a→(∀y∈a,lt y x)→1≤x.bD∧x.bD≤65535→Nf (a++ [x]):=fun {a x} g1 g2 g3=>⟨by
    rw [List.pairwise_append]
    exact⟨g1.ss,List.pairwise_singleton _ _,fun y hy z hz=>by rw [List.mem_singleton]at hz;subst hz;exact g2 y hy⟩,fun y hy=>by
    rw [List.mem_append,List.mem_singleton]at hy
    rcases hy with hy | rfl
    · exact g1.co y hy
    · exact g3⟩
  have l1:∀(x:List aj) (y:aj),(x++ [y]).length=x.length+1:=fun x y=>by rw [List.length_append];rfl
  have fin:∀o,i=l'.length→Nf o→(∀k,cf o k=cf (l'.take i.toNat++ [m']) k%65536)→(o.length:Int)≤i+1→Plus l' m' o:=fun o e g1 g2 g3=>⟨g1,fun k=>by rw [g2 k,List.take_of_length_le (by omega)],by omega⟩
  by_cases hi:i<l'.length
  · have nx:=nx
    have tk:=tk hi
    have bf:=bf hi
    have co:=co hi
    rw [tk]
    have hv:∀ {P:Prop},P→(∀x,x=((l').getD (i).toNat default)→P)→P:=fun h _=>h
    generalize ((l').getD (i).toNat default)=v at nx tk bf co h3 ⊢
    have cfs:∀k,cf (l'.take i.toNat++ [v]++ [m']) k=cf (l'.take i.toNat) k+(if v.atoms=k then v.bD else 0)+(if m'.atoms=k then m'.bD else 0):=fun k=>by
      rw [cu,cu,bV,bV,j4];simp only [Int.add_zero]
    have cfm:∀k,cf (l'.take i.toNat++ [m']) k=cf (l'.take i.toNat) k+(if m'.atoms=k then m'.bD else 0):=fun k=>by
      rw [cu,bV,j4,Int.add_zero]
    rcases h3 with⟨rfl,rfl,h4⟩ | ⟨rfl,h4,h5,h6,h7⟩
    ·
      simp (disch:=omega) only [RR,decide_true,Bool.not_false,Bool.true_and,decide_eq_true_eq,hi]
      by_cases c1:dJ m'.atoms v.atoms<0
      · have c2:¬dJ m'.atoms v.atoms=0:=by omega
        simp (disch:=omega) only [RR,c1,c2]
        have n1:=Zn ntk h4 hm
        have b2:∀x∈l'.take i.toNat++ [m'],lt x v:=fun x hx=>by
          rw [List.mem_append,List.mem_singleton]at hx
          rcases hx with hx | rfl
          · exact bf x hx
          · exact c1
        have n2:=Zn n1 b2 co
        refine⟨by omega,by rw [show([m']:List aj).length=1 from rfl];omega,by omega,by rw [l1,show([v]:List aj).length=1 from rfl];omega,⟨by omega,by omega,Or.inr ⟨n2,fun k=> ?_,by rw [l1,l1];omega,fun h=>⟨fF c1 (nx h),fun x hx=> ?_⟩⟩⟩,by omega⟩
        · have e1:=cfs k
          have e2:=n2.bnd k
          have e3:cf (l'.take i.toNat++ [m']++ [v]) k=cf (l'.take i.toNat++ [v]++ [m']) k:=by rw [e1,cu,cfm,bV,j4];omega
          rw [←e3];omega
        · rw [List.mem_append,List.mem_singleton]at hx
          rcases hx with hx | rfl
          · exact fF (b2 x hx) (nx h)
          · exact nx h
      · by_cases c2:dJ m'.atoms v.atoms=0
        · have ev:=jL.1 c2
          simp (disch:=omega) only [RR,c1,c2,List.append_nil]
          have zz:cf (l'.take i.toNat) v.atoms=0:=iJ fun x hx=>(bf x hx).ne
          refine⟨by omega,fun h=>absurd h (by omega),fun _=>⟨by omega,fun c3=> ?_,fun c3=> ?_⟩⟩
          · have n2:=Zn (x:=⟨(v.bD+m'.bD)%65536,v.atoms⟩) ntk bf ⟨by dsimp only;omega,by dsimp only;omega⟩
            refine⟨by omega,by simp only [List.length_cons,List.length_nil];omega,⟨by omega,by omega,Or.inr ⟨n2,fun k=> ?_,by rw [l1];omega,fun h=>⟨?_,fun x hx=> ?_⟩⟩⟩,by omega⟩
            · have e1:=cfs k
              have e2:=n2.bnd k
              rw [e1]
              rw [cu,bV,j4]at e2 ⊢
              dsimp only at e2 ⊢
              by_cases ek:v.atoms=k
              · rw [if_pos ek]at e2 ⊢
                rw [if_pos ek,if_pos (ev.trans ek)]
                rw [←ek,zz]at e2 ⊢;omega
              · rw [if_neg ek]at e2 ⊢
                rw [if_neg ek,if_neg (fun e=>ek (ev.symm.trans e))];omega
            · have:=nx h;unfold lt at this ⊢;rw [ev];exact this
            · rw [List.mem_append,List.mem_singleton]at hx
              rcases hx with hx | rfl
              · exact fF (bf x hx) (nx h)
              · exact nx h
          · refine⟨⟨by omega,by omega,Or.inr ⟨ntk,fun k=> ?_,by omega,fun h=>⟨?_,fun x hx=>fF (bf x hx) (nx h)⟩⟩⟩,by omega⟩
            · have e1:=cfs k
              have e2:=ntk.bnd k
              rw [e1]
              by_cases ek:v.atoms=k
              · rw [if_pos ek,if_pos (ev.trans ek),←ek,zz];omega
              · rw [if_neg ek,if_neg (fun e=>ek (ev.symm.trans e))];omega
            · have:=nx h;unfold lt at this ⊢;rw [ev];exact this
        · simp (disch:=omega) only [RR,c1,c2]
          refine⟨by omega,by omega,by simp only [List.length_cons,List.length_nil];omega,⟨by omega,by omega,Or.inl (fun x hx=> ?_)⟩,by omega⟩
          rw [List.mem_append,List.mem_singleton]at hx
          rcases hx with hx | rfl
          · exact h4 x hx
          · unfold lt;rw [qm];omega
    · have c3:=(h7 hi).1
      have b2:=(h7 hi).2
      have c1:dJ m'.atoms v.atoms<0:=c3
      have c2:¬dJ m'.atoms v.atoms=0:=by omega
      simp (disch:=omega) only [RR,decide_true,Bool.not_true,Bool.false_and,decide_eq_true_eq,hi,c2]
      have n2:=Zn h4 b2 co
      refine⟨by omega,fun h=>h.1.elim,by omega,by simp only [List.length_cons,List.length_nil];omega,⟨by omega,by omega,Or.inr ⟨n2,fun k=> ?_,by rw [l1];omega,fun h=>⟨fF c3 (nx h),fun x hx=> ?_⟩⟩⟩,by omega⟩
      · have e1:=cfs k
        have e2:=n2.bnd k
        have e3:=h5 k
        rw [cfm]at e3
        rw [cu,bV,j4]at e2 ⊢
        rw [e1]
        by_cases ek:v.atoms=k
        · rw [if_pos ek]at e2 ⊢;omega
        · rw [if_neg ek]at e2 ⊢;omega
      · rw [List.mem_append,List.mem_singleton]at hx
        rcases hx with hx | rfl
        · exact fF (b2 x hx) (nx h)
        · exact nx h
  · have ei:i=l'.length:=by omega
    rcases h3 with⟨rfl,rfl,h4⟩ | ⟨rfl,h4,h5,h6,h7⟩
    · simp (disch:=omega) only [RR,decide_true,Bool.not_false,Bool.true_and,decide_eq_true_eq,hi]
      have n1:=Zn ntk h4 hm
      refine⟨by simp only [List.length_cons,List.length_nil];omega,fin _ ei n1 (fun k=> ?_) (by rw [l1];omega)⟩
      have e2:=n1.bnd k
      omega
    · simp (disch:=omega) only [RR,decide_true,Bool.not_true,Bool.false_and,decide_eq_true_eq,hi]
      exact fin _ ei h4 h5 h6
end Go.TX.F
namespace Go.TX.F
open Go Go.AE Go.TX
theorem yc {a o:List Int} (h:o.Pairwise (· ≤ ·)) (hp:o.Perm a):o=kV a:=by
 refine List.Perm.eq_of_pairwise (le:=fun x y:Int=>x≤y) (fun a b _ _ h1 h2=>Int.le_antisymm h1 h2) h ?_ (hp.trans (List.mergeSort_perm a _).symm)
 have:=List.pairwise_mergeSort (le:=fun x y:Int=>decide (x≤y)) (fun a b c h1 h2=>by simp at*;omega) (fun a b=>by simp;omega) a
 exact this.imp (fun h=>by simpa using h)
theorem Zo (a b:List Int) (ha:a.length<100000000) (hb:b.length<100000000) (sa:a.Pairwise (· ≤ ·)) (sb:b.Pairwise (· ≤ ·)):
  QA (std 0) (a,b,()) (fun y=>y=(kV (a++b),())):=by
 dsimp only [QA,Alg.cl,Alg.cg,Alg.rb,Alg.bd,Alg.l1,Tup.q,Tup.o]
 have sa':=(dh (d:=default) (R:=fun a b:Int=>a≤b) (fun h1 h2=>Int.le_trans h1 h2)).1 sa
 have sb':=(dh (d:=default) (R:=fun a b:Int=>a≤b) (fun h1 h2=>Int.le_trans h1 h2)).1 sb
 let I:List Int→Int→Int→Prop:=fun o i k=>0≤i∧i≤a.length∧0≤k∧k≤b.length∧o.Pairwise (· ≤ ·)∧o.Perm (a.take i.toNat++b.take k.toNat)∧(i<a.length→∀x∈o,x≤((a).getD (i).toNat default))∧(k<b.length→∀x∈o,x≤((b).getD (k).toNat default))
 have sn:∀ {o:List Int} {y:Int},o.Pairwise (· ≤ ·)→(∀x∈o,x≤y)→(o++ [y]).Pairwise (· ≤ ·):=fun {o y} g1 g2=>by
  rw [List.pairwise_append]
  exact⟨g1,List.pairwise_singleton _ _,fun x hx z hz=>by rw [List.mem_singleton]at hz;subst hz;exact g2 x hx⟩
 have il:∀o i k,I o i k→(o.length:Int)=i+k:=fun o i k ⟨h1,h2,h3,h4,_,h5,_⟩=>by
  have:=h5.length_eq;rw [List.length_append,List.length_take,List.length_take]at this;omega
 have stA:∀o i k,I o i k→i<a.length→(k<b.length→((a).getD (i).toNat default)≤((b).getD (k).toNat default))→I (o++ [((a).getD (i).toNat default)]) (i+1) k:=by
  rintro o i k ⟨h1,h2,h3,h4,h5,h6,h7,h8⟩ hi hk
  refine⟨by omega,by omega,h3,h4,sn h5 (h7 hi),?_,fun g x hx=> ?_,fun g x hx=> ?_⟩
  ·rw [←bU (d:=default) h1 hi rfl]
   refine(h6.append_right _).trans ?_
   rw [List.append_assoc,List.append_assoc]
   exact(List.perm_append_comm).append_left _
  ·have:=sa' (i+1) (by omega) g
   rw [show i+1-1=i by omega]at this
   rw [List.mem_append,List.mem_singleton]at hx
   rcases hx with hx | rfl
   ·exact Int.le_trans (h7 hi x hx) this
   ·exact this
  ·rw [List.mem_append,List.mem_singleton]at hx
   rcases hx with hx | rfl
   ·exact h8 g x hx
   ·exact hk g
 have stB:∀o i k,I o i k→k<b.length→(i<a.length→((b).getD (k).toNat default)≤((a).getD (i).toNat default))→I (o++ [((b).getD (k).toNat default)]) i (k+1):=by
  rintro o i k ⟨h1,h2,h3,h4,h5,h6,h7,h8⟩ hk hi
  refine⟨h1,h2,by omega,by omega,sn h5 (h8 hk),?_,fun g x hx=> ?_,fun g x hx=> ?_⟩
  ·rw [←bU (d:=default) h3 hk rfl,←List.append_assoc]
   exact h6.append_right _
  ·rw [List.mem_append,List.mem_singleton]at hx
   rcases hx with hx | rfl
   ·exact h7 g x hx
   ·exact hi g
  ·have:=sb' (k+1) (by omega) g
   rw [show k+1-1=k by omega]at this
   rw [List.mem_append,List.mem_singleton]at hx
   rcases hx with hx | rfl
   ·exact Int.le_trans (h8 hk x hx) this
   ·exact this
 refine au (fun(y:List Int×List Int×Int×Int×List Int×Unit)=>y.1=a∧y.2.1=b∧I y.2.2.2.2.1 y.2.2.1 y.2.2.2.1) (fun y=>(b.length-y.2.2.2.1).toNat)
  ⟨rfl,rfl,by simp,by simp,by simp,by simp,List.Pairwise.nil,by simp,fun _ x hx=>absurd hx (by simp),fun _ x hx=>absurd hx (by simp)⟩ ?_
 rintro⟨(a':List Int),(b':List Int),(i:Int),(k:Int),(o:List Int),⟨⟩⟩ hI
 dsimp only at hI ⊢
 obtain⟨rfl,rfl,hI⟩:=hI
 have hb1:=hI.1
 have hb2:=hI.2.1
 have hb3:=hI.2.2.1
 have hb4:=hI.2.2.2.1
 have hol:=il _ _ _ hI
 simp (disch:=omega) only [RR]
 refine⟨fun h9=> ?_,fun h9=> ?_⟩
 ·refine au (fun(y:List Int×List Int×Int×Int×List Int×Unit)=>y.1=a'∧y.2.1=b'∧y.2.2.2.1=k∧I y.2.2.2.2.1 y.2.2.1 k) (fun y=>(a'.length-y.2.2.1).toNat) ⟨rfl,rfl,rfl,hI⟩ ?_
  rintro⟨(a2:List Int),(b2:List Int),(i2:Int),(k2:Int),(o2:List Int),⟨⟩⟩ hI2
  dsimp only at hI2 ⊢
  obtain⟨rfl,rfl,rfl,hI2⟩:=hI2
  have hc1:=hI2.1
  have hc2:=hI2.2.1
  have hol:=il _ _ _ hI2
  simp (disch:=omega) only [RR]
  refine⟨by omega,by omega,by omega,by omega,fun⟨g1,g2⟩=>⟨by omega,g1,by simp only [List.length_cons,List.length_nil];omega,stA _ _ _ hI2 g1 (fun _=>g2),by omega⟩,fun g=>⟨by omega,h9,by simp only [List.length_cons,List.length_nil];omega,stB _ _ _ hI2 h9 (fun g1=> ?_),by omega⟩⟩
  rw [decide_eq_true g1,Bool.true_and,decide_eq_false_iff_not]at g;omega
 ·have e1:List.drop i.toNat (List.take ((a'.length:Int)).toNat a')=a'.drop i.toNat:=by rw [List.take_of_length_le (by omega)]
  rw [e1]
  refine⟨by omega,by omega,by omega,by rw [List.length_drop];omega,?_⟩
  obtain⟨h1,h2,h3,h4,h5,h6,h7,h8⟩:=hI
  rw [yc (a:=a'++b') (o:=o++a'.drop i.toNat)]
  ·rw [List.pairwise_append]
   refine⟨h5,List.Pairwise.sublist (List.drop_sublist _ _) sa,fun x hx y hy=> ?_⟩
   by_cases hi:i<a'.length
   ·refine Int.le_trans (h7 hi x hx) ?_
    rw [List.drop_eq_getElem_cons (show i.toNat<a'.length by omega)]at hy
    have hd:=List.Pairwise.sublist (List.drop_sublist i.toNat _) sa
    rw [List.drop_eq_getElem_cons (show i.toNat<a'.length by omega)]at hd
    rw [getD_lt (show i.toNat<a'.length by omega)]
    rcases List.mem_cons.1 hy with rfl | hy
    ·exact Int.le_refl _
    ·exact List.rel_of_pairwise_cons hd hy
   ·rw [List.drop_eq_nil_of_le (by omega)]at hy;exact absurd hy (by simp)
  ·rw [List.take_of_length_le (show b'.length≤k.toNat by omega)]at h6
   refine(h6.append_right _).trans ?_
   rw [List.append_assoc]
   refine((List.perm_append_comm).append_left _).trans ?_
   rw [←List.append_assoc,List.take_append_drop]
end Go.TX.F
namespace Go.TX.F
open Go Go.AE Go.TX
theorem aL.nf {p:List aj} (h:aL p):Nf p:=(gX.1 h).1
theorem aL.aok {p:List aj} (h:aL p) {m:aj} (hm:m∈p):m.atoms.length≤4∧F.aok m.atoms:=(gX.1 h).2.2 m hm
theorem JL {l o:List aj} (h:Nf o) (h2:∀k,cf o k=cf l k%65536) (h3:∀m∈l,aok m.atoms):(bp (Gu o),if bp (Gu o)then o else [])=((pq l).1,(pq l).2):=by
 rw [abH h h2 h3]
 by_cases c:Gu o
 ·rw [dH c,if_pos rfl];dsimp only;rw [decide_eq_true (show o.length≤12∧∀m∈o,m.atoms.length≤4 from c),if_pos (show o.length≤12∧∀m∈o,m.atoms.length≤4 from c)]
 ·rw [cZ c,if_neg (by simp)];dsimp only;rw [decide_eq_false (show¬(o.length≤12∧∀m∈o,m.atoms.length≤4)from c),if_neg (show¬(o.length≤12∧∀m∈o,m.atoms.length≤4)from c)]
theorem Zp {o l:List aj} (h:Nf o) (h2:∀k,cf o k=cf l k%65536) (h3:∀m∈l,m.atoms.length<1000000000) (h4:o.length<1000000000):Sh o:=⟨h4,fun m hm=>by
 obtain⟨m',g1,g2⟩:=h.from h2 hm
 rw [←g2];exact h3 m' g1⟩
theorem aho {p1:List aj×Unit→Bool} {f1:List aj×Unit→Bool×Unit} (hp1:∀a,Sh a→p1 (a,())=true) (hf1:∀a,Sh a→f1 (a,())=(bp (aL a),()))
  {p2:List aj×aj×Unit→Bool} {f2:List aj×aj×Unit→List aj×Unit}
  (hp2:∀(l:List aj) m,l.length<1000000000→Nf l→1≤m.bD∧m.bD≤65535→m.atoms.length<1000000000→p2 (l,m,())=true) (hf2:∀(l:List aj) m,l.length<1000000000→Nf l→1≤m.bD∧m.bD≤65535→m.atoms.length<1000000000→Plus l m (f2 (l,m,())).1)
  {p3:List aj×Unit→Bool} {f3:List aj×Unit→Bool×List aj×Unit} (hp3:∀a,Sh a→p3 (a,())=true) (hf3:∀a,Sh a→f3 (a,())=(bp (Gu a),if bp (Gu a)then a else [],()))
  (a b:List aj) (ha:Sh a) (hb:Sh b):Qu (std 0) p1 f1 p2 f2 p3 f3 (a,b,()) (fun y=>y=((mW a b).1,(mW a b).2,())):=by
 dsimp only [Qu,Alg.cl,Alg.cg,Alg.rb,Alg.bd,Alg.l1,Tup.q,Tup.o]
 simp (disch:=omega) only [RR,hp1 a ha,hf1 a ha,hp1 b hb,hf1 b hb,bg,jd]
 unfold mW
 refine⟨fun h=> ?_,fun⟨h1,h2⟩=> ?_⟩
 ·rw [if_neg]
  rw [Bool.and_eq_true,bg,bg];rintro⟨g1,g2⟩
  rcases h with h | h
  ·exact h g1
  ·exact h g2
 rw [if_pos (by rw [dH h1,dH h2];rfl)]
 have l1:=h1.len
 have l2:=h2.len
 have hl:∀m∈a++b,F.aok m.atoms∧m.atoms.length<1000000000:=fun m hm=>by
  rw [List.mem_append]at hm
  rcases hm with hm | hm
  ·exact⟨(h1.aok hm).2,ha.2 m hm⟩
  ·exact⟨(h2.aok hm).2,hb.2 m hm⟩
 refine au (fun(y:List aj×Int×List aj×Unit)=>y.2.2.1=b∧0≤y.2.1∧y.2.1≤b.length∧Nf y.1∧(∀k,cf y.1 k=cf (a++b.take y.2.1.toNat) k%65536)∧(y.1.length:Int)≤12+y.2.1) (fun y=>(b.length-y.2.1).toNat)
  ⟨rfl,by simp,by simp,h1.nf,fun k=>by have:=h1.nf.bnd k;simp only [Int.toNat_zero,List.take_zero,List.append_nil];omega,by simp only;omega⟩ ?_
 rintro⟨(o:List aj),(i:Int),(b':List aj),⟨⟩⟩ hI
 dsimp only at hI ⊢
 obtain⟨rfl,h3,h4,h5,h6,h7⟩:=hI
 have so:Sh o:=Zp h5 h6 (fun m hm=>(hl m (by rw [List.mem_append]at hm ⊢;exact hm.imp id List.mem_of_mem_take)).2) (by omega)
 simp (disch:=omega) only [RR,hp3 o so,hf3 o so]
 refine⟨fun h9=> ?_,fun h9=> ?_⟩
 ·have hm:=h2.nf.co _ (eO (d:=default) h3 h9)
  have pl:=hf2 o ((b').getD (i).toNat default) so.1 h5 hm (hb.at _)
  refine⟨by omega,by omega,hp2 o ((b').getD (i).toNat default) so.1 h5 hm (hb.at _),⟨by omega,by omega,pl.nf,fun k=> ?_,by have:=pl.len;omega⟩,by omega⟩
  rw [pl.cf k,cu,h6 k,←bU (d:=default) h3 h9 rfl,←List.append_assoc,cu (a++_)];omega
 ·have:=JL h5 (fun k=>by rw [h6 k,List.take_of_length_le (by omega)]) (fun m hm=>(hl m hm).1)
  exact congrArg (fun z:Bool×List aj=>(z.1,z.2,())) this
theorem ahp {p1:List aj×Unit→Bool} {f1:List aj×Unit→Bool×Unit} (hp1:∀a,Sh a→p1 (a,())=true) (hf1:∀a,Sh a→f1 (a,())=(bp (aL a),()))
  {p0:Int×Unit→Bool} {f0:Int×Unit→Int×Unit} (hp0:∀a,p0 (a,())=true) (hf0:∀a,f0 (a,())=(a%65536,()))
  {p2:List aj×aj×Unit→Bool} {f2:List aj×aj×Unit→List aj×Unit}
  (hp2:∀(l:List aj) m,l.length<1000000000→Nf l→1≤m.bD∧m.bD≤65535→m.atoms.length<1000000000→p2 (l,m,())=true) (hf2:∀(l:List aj) m,l.length<1000000000→Nf l→1≤m.bD∧m.bD≤65535→m.atoms.length<1000000000→Plus l m (f2 (l,m,())).1)
  {p4:List Int×List Int×Unit→Bool} {f4:List Int×List Int×Unit→List Int×Unit}
  (hp4:∀a b:List Int,a.length<100000000→b.length<100000000→a.Pairwise (· ≤ ·)→b.Pairwise (· ≤ ·)→p4 (a,b,())=true) (hf4:∀a b:List Int,a.length<100000000→b.length<100000000→a.Pairwise (· ≤ ·)→b.Pairwise (· ≤ ·)→f4 (a,b,())=(kV (a++b),()))
  {p3:List aj×Unit→Bool} {f3:List aj×Unit→Bool×List aj×Unit} (hp3:∀a,Sh a→p3 (a,())=true) (hf3:∀a,Sh a→f3 (a,())=(bp (Gu a),if bp (Gu a)then a else [],()))
  (a b:List aj) (ha:Sh a) (hb:Sh b):QB (std 0) p1 f1 p0 f0 p2 f2 p4 f4 p3 f3 (a,b,()) (fun y=>y=((lI a b).1,(lI a b).2,())):=by
 dsimp only [QB,Alg.cl,Alg.cg,Alg.rb,Alg.bd,Alg.l1,Tup.q,Tup.o]
 simp (disch:=omega) only [RR,hp1 a ha,hf1 a ha,hp1 b hb,hf1 b hb,bg,jd]
 unfold lI
 refine⟨fun h=> ?_,fun⟨h1,h2⟩=> ?_⟩
 ·rw [if_neg]
  rw [Bool.and_eq_true,bg,bg];rintro⟨g1,g2⟩
  rcases h with h | h
  ·exact h g1
  ·exact h g2
 rw [if_pos (by rw [dH h1,dH h2];rfl)]
 have l1:=h1.len
 have l2:=h2.len
 have am:∀m∈a,∀n∈b,aok (mulM m n).atoms∧(mulM m n).atoms.length≤8:=fun m hm n hn=>by
  obtain⟨g1,g2⟩:=h1.aok hm
  obtain⟨g3,g4⟩:=h2.aok hn
  refine⟨⟨?_,fun k hk=> ?_⟩,?_⟩
  ·have:=List.pairwise_mergeSort (le:=fun x y:Int=>decide (x≤y)) (fun a b c h1 h2=>by simp at*;omega) (fun a b=>by simp;omega) (m.atoms++n.atoms)
   exact this.imp (fun h=>by simpa using h)
  ·have:k∈m.atoms++n.atoms:=List.mem_mergeSort.1 hk
   rw [List.mem_append]at this
   rcases this with hk | hk
   ·exact g2.2 k hk
   ·exact g4.2 k hk
  ·show(kV _).length≤8
   rw [Ip,List.length_append];omega
 have pm:∀m∈prods a b,aok m.atoms∧m.atoms.length≤8:=fun m hm=>by
  unfold prods at hm
  rw [List.mem_flatMap]at hm
  obtain⟨x,hx,hm⟩:=hm
  rw [List.mem_map]at hm
  obtain⟨y,hy,rfl⟩:=hm
  exact am x hx y hy
 let J:List aj→Int→Int→Prop:=fun o i k=>Nf o∧(∀t,cf o t=cf (prods (a.take i.toNat) b++(b.take k.toNat).map (mulM ((a).getD (i).toNat default))) t%65536)∧(o.length:Int)≤12*i+k
 refine au (fun(y:Int×List aj×List aj×List aj×Unit)=>y.2.1=a∧y.2.2.1=b∧0≤y.1∧y.1≤a.length∧J y.2.2.2.1 y.1 0) (fun y=>(a.length-y.1).toNat)
  ⟨rfl,rfl,by simp,by simp,⟨⟨List.Pairwise.nil,fun m hm=>absurd hm (by simp)⟩,fun k=>by simp [cf,prods],by simp⟩⟩ ?_
 rintro⟨(i:Int),(a':List aj),(b':List aj),(o:List aj),⟨⟩⟩ hI
 dsimp only at hI ⊢
 obtain⟨rfl,rfl,h3,h4,hJ⟩:=hI
 have hJ1:=hJ.2.2
 have so:Sh o:=Zp (l:=prods (a'.take i.toNat) b') hJ.1 (fun t=>by rw [hJ.2.1 t];simp) (fun m hm=>by
  have:m∈prods a' b':=by
   unfold prods at hm ⊢
   rw [List.mem_flatMap]at hm ⊢
   obtain⟨x,hx,hm⟩:=hm
   exact⟨x,List.mem_of_mem_take hx,hm⟩
  have:=(pm m this).2;omega) (by omega)
 simp (disch:=omega) only [RR,hp3 o so,hf3 o so]
 refine⟨fun h9=> ?_,fun h9=> ?_⟩
 ·refine au (fun(y:Int×Int×List aj×List aj×List aj×Unit)=>y.1=i∧y.2.2.1=a'∧y.2.2.2.1=b'∧0≤y.2.1∧y.2.1≤b'.length∧J y.2.2.2.2.1 i y.2.1) (fun y=>(b'.length-y.2.1).toNat) ⟨rfl,rfl,rfl,by simp,by simp,hJ⟩ ?_
  rintro⟨(i':Int),(k:Int),(a2:List aj),(b2:List aj),(o2:List aj),⟨⟩⟩ hI
  dsimp only at hI ⊢
  obtain⟨rfl,rfl,rfl,g1,g2,hK⟩:=hI
  have hK1:=hK.2.2
  by_cases g3:k<b2.length
  ·have ma:((a2).getD (i').toNat default)∈a2:=eO h3 h9
   have mb:((b2).getD (k).toNat default)∈b2:=eO g1 g3
   have ca:=h1.nf.co _ ma
   have cb:=h2.nf.co _ mb
   obtain⟨q1,q2⟩:=h1.aok ma
   obtain⟨q3,q4⟩:=h2.aok mb
   have hm:=JJ (show 0≤((a2).getD (i').toNat default).bD by omega) (by omega) (show 0≤((b2).getD (k).toNat default).bD by omega) (by omega)
   have am':=(am _ ma _ mb).2
   simp (disch:=omega) only [RR,hp0,hf0,hp4 _ _ (show((a2).getD (i').toNat default).atoms.length<100000000 by omega) (show((b2).getD (k).toNat default).atoms.length<100000000 by omega) q2.1 q4.1,hf4 _ _ (show((a2).getD (i').toNat default).atoms.length<100000000 by omega) (show((b2).getD (k).toNat default).atoms.length<100000000 by omega) q2.1 q4.1]
   have tk:prods (a2.take i'.toNat) b2++(b2.take (k+1).toNat).map (mulM ((a2).getD (i').toNat default))=prods (a2.take i'.toNat) b2++(b2.take k.toNat).map (mulM ((a2).getD (i').toNat default))++ [mulM ((a2).getD (i').toNat default) ((b2).getD (k).toNat default)]:=by
    rw [←bU (d:=default) g1 g3 rfl,List.map_append,List.append_assoc];rfl
   refine⟨fun _=>⟨by omega,by omega,by omega,by omega,fun g4=> ?_,fun g4=>⟨⟨by omega,by omega,hK.1,fun t=> ?_,by omega⟩,by omega⟩⟩,fun h=>absurd g3 h⟩
   ·have an1:(⟨((a2).getD (i').toNat default).bD*((b2).getD (k).toNat default).bD%65536,kV (((a2).getD (i').toNat default).atoms++((b2).getD (k).toNat default).atoms)⟩:aj).atoms.length<1000000000:=by have:(kV (((a2).getD (i').toNat default).atoms++((b2).getD (k).toNat default).atoms)).length≤8:=am';dsimp only;omega
    have cc:1≤(⟨((a2).getD (i').toNat default).bD*((b2).getD (k).toNat default).bD%65536,kV (((a2).getD (i').toNat default).atoms++((b2).getD (k).toNat default).atoms)⟩:aj).bD∧(⟨((a2).getD (i').toNat default).bD*((b2).getD (k).toNat default).bD%65536,kV (((a2).getD (i').toNat default).atoms++((b2).getD (k).toNat default).atoms)⟩:aj).bD≤65535:=by dsimp only;omega
    have pl:=hf2 o2 _ (by omega) hK.1 cc an1
    refine⟨by omega,by omega,by omega,by omega,hp2 o2 _ (by omega) hK.1 cc an1,⟨by omega,by omega,pl.nf,fun t=> ?_,by have:=pl.len;omega⟩,by omega⟩
    rw [pl.cf t,cu,hK.2.1 t,tk,cu (prods _ _++_)]
    show(_+cf [mulM ((a2).getD (i').toNat default) ((b2).getD (k).toNat default)] t)%65536=_
    omega
   ·rw [tk,cu,hK.2.1 t]
    have:cf [mulM ((a2).getD (i').toNat default) ((b2).getD (k).toNat default)] t=0:=by
     rw [bV,j4]
     have:(mulM ((a2).getD (i').toNat default) ((b2).getD (k).toNat default)).bD=0:=by show((a2).getD (i').toNat default).bD*((b2).getD (k).toNat default).bD%65536=0;omega
     rw [this];split<;>rfl
    rw [this];omega
  ·simp (disch:=omega) only [RR]
   refine⟨fun h=>absurd h g3,fun _=>⟨⟨by omega,by omega,hK.1,fun t=> ?_,by omega⟩,by omega⟩⟩
   rw [hK.2.1 t,List.take_of_length_le (show b2.length≤k.toNat by omega),←Gs,bU (d:=default) h3 h9 rfl];simp
 ·have:=JL hJ.1 (l:=prods a' b') (fun t=>by rw [hJ.2.1 t,List.take_of_length_le (show a'.length≤i.toNat by omega)];simp) (fun m hm=>(pm m hm).1)
  exact congrArg (fun z:Bool×List aj=>(z.1,z.2,())) this
end Go.TX.F
