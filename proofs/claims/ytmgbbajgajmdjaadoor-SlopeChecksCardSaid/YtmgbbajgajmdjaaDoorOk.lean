/- The small code is what the functions come to. -/
import Derived.Test.YtmgbbajgajmdjaaDoorIb
import Derived.Test.YtmgbbajgajmdjaaDoorTa
import Derived.Test.YtmgbbajgajmdjaaDoorProg
import Derived.KernelRfl

set_option linter.unusedSimpArgs false
set_option linter.unusedVariables false

open Go Go.AI Go.Proofs
namespace Go.AI.Sl
set_option maxRecDepth 100000
theorem ok3 : compF Tryd.prog ⟨[0,1,7,15,9,57,16,13,66,17,86,8,10,12,14,19,21,20,181,24,186,199,4],[2,5,6,11,18,22,23],201⟩ Tryd.f3 = some ir3 := by kernel_rfl
theorem ok4 : compF Tryd.prog ⟨[0,1,9,11,13,10,67,15,73,17,80,14,91,100,2,19,18,118,22,123,24,23,167,21,6],[3,7,8,12,16,20,25],211⟩ Tryd.f4 = some ir4 := by kernel_rfl
theorem ok5 : compF Tryd.prog ⟨[0,1,11,9,45,7,12,10,59,8,14,16,13,15,103,18,20,23,25,27,22,17,19,166,28,4],[2,5,6,24,26],211⟩ Tryd.f5 = some ir5 := by kernel_rfl
theorem ok6 : compF Tryd.prog ⟨[0,1,7,9,11,10,71,13,79,104,14,106,12,15,133,152,4],[2,5,6,8],175⟩ Tryd.f6 = some ir6 := by kernel_rfl
theorem ok7 : compF Tryd.prog ⟨[0,1,8,31,7,11,14,10,16,13,9,15,12,96,18,17,112,20,116,19,4],[2,5,6],134⟩ Tryd.f7 = some ir7 := by kernel_rfl
theorem ok8 : compF Tryd.prog ⟨[0,9,8,10,7,11,69,1,12,14,16,15,17,111,4],[2,5,6,13],123⟩ Tryd.f8 = some ir8 := by kernel_rfl
theorem ok9 : compF Tryd.prog ⟨[0,1,7,9,11,10,13,4],[2,5,6,8,12,14],103⟩ Tryd.f9 = some ir9 := by kernel_rfl
theorem ok10 : compF Tryd.prog ⟨[0,1,9,7,34,8,11,13,15,17,19,21,107,18,20,4],[2,5,6,10,12,14,16],150⟩ Tryd.f10 = some ir10 := by kernel_rfl
theorem ok11 : compF Tryd.prog ⟨[0,1,47,8,51,53,10,12,9,11,77,7,13,15,14,111,17,16,143,152,19,21,24,27,30,32,34,36,38,23,26,29,37,28,18,20,22,25,33,4],[2,5,6,31,35],312⟩ Tryd.f11 = some ir11 := by kernel_rfl
theorem ok12 : compF Tryd.prog ⟨[0,6,5,31,7,8,9,74,10,80,87,11,12,100,13,108,14,116,15,154],[1,2,3,4],164⟩ Tryd.f12 = some ir12 := by kernel_rfl
theorem ok13 : compF Tryd.prog ⟨[0,3,4],[1,2],16⟩ Tryd.f13 = some ir13 := by kernel_rfl
theorem ok14 : compF Tryd.prog ⟨[6,1,10,0,16,5,7,4],[],30⟩ Tryd.f14 = some ir14 := by kernel_rfl
theorem ok15 : compF Tryd.prog ⟨[5,0,1,4],[],14⟩ Tryd.f15 = some ir15 := by kernel_rfl
theorem ok16 : compF Tryd.prog ⟨[0,1,6,16,24,23,25,22,7,8,4,5],[2,9],53⟩ Tryd.f16 = some ir16 := by kernel_rfl
theorem ok17 : compF Tryd.prog ⟨[0,1,6,16,22,23,21,8,9,5],[2,4,7],32⟩ Tryd.f17 = some ir17 := by kernel_rfl
theorem ok18 : compF Tryd.prog ⟨[0,1,6,13,4,5],[2],19⟩ Tryd.f18 = some ir18 := by kernel_rfl
theorem ok19 : compF Tryd.prog ⟨[0,1,9,31,5,12,58,6,13,15,16,17],[2,4,8,10,11,14],111⟩ Tryd.f19 = some ir19 := by kernel_rfl
theorem ok20 : compF Tryd.prog ⟨[0,3,4],[1,2],26⟩ Tryd.f20 = some ir20 := by kernel_rfl
theorem ok21 : compF Tryd.prog ⟨[0,1,10,5,14,25,4],[],26⟩ Tryd.f21 = some ir21 := by kernel_rfl
theorem ok22 : compF Tryd.prog ⟨[0,1,10,5,14,25,4],[],26⟩ Tryd.f22 = some ir22 := by kernel_rfl
theorem ok23 : compF Tryd.prog ⟨[0,6,16,5,7,1,8,4],[2],56⟩ Tryd.f23 = some ir23 := by kernel_rfl
theorem ok24 : compF Tryd.prog ⟨[3,6,5,9,8,7,11,10,14,13,0],[1,2,12],123⟩ Tryd.f24 = some ir24 := by kernel_rfl
theorem ok25 : compF Tryd.prog ⟨[6,0,12,7,5,8,48,1,4],[],53⟩ Tryd.f25 = some ir25 := by kernel_rfl
theorem ok26 : compF Tryd.prog ⟨[0,4,13,3,5,23,6,30,7,8,9,2],[1],63⟩ Tryd.f26 = some ir26 := by kernel_rfl
theorem ok27 : compF Tryd.prog ⟨[0,1,5],[2,3,4],34⟩ Tryd.f27 = some ir27 := by kernel_rfl
theorem ok28 : compF Tryd.prog ⟨[0,1,6,16,21,20,22,19,7,4,5],[2,9],41⟩ Tryd.f28 = some ir28 := by kernel_rfl
theorem ok29 : compF Tryd.prog ⟨[0,1],[2,3,4],13⟩ Tryd.f29 = some ir29 := by kernel_rfl
theorem ok30 : compF Tryd.prog ⟨[0,1],[2,3,4],16⟩ Tryd.f30 = some ir30 := by kernel_rfl
theorem ok31 : compF Tryd.prog ⟨[0,1,6,18,26,25,27,24,8,33,34,35,7,10,11,9,4,5],[2],47⟩ Tryd.f31 = some ir31 := by kernel_rfl
theorem ok32 : compF Tryd.prog ⟨[5,0,9,23,1,4],[],28⟩ Tryd.f32 = some ir32 := by kernel_rfl
theorem ok33 : compF Tryd.prog ⟨[0,1,3,6,18,23,22,24,8,28,29,30,9,11,10,7,4,5],[2],45⟩ Tryd.f33 = some ir33 := by kernel_rfl
theorem ok34 : compF Tryd.prog ⟨[0,1,7,17,25,24,26,23,8,9,49,4,5,6],[2,10],58⟩ Tryd.f34 = some ir34 := by kernel_rfl
theorem ok35 : compF Tryd.prog ⟨[3,0,7,14,2],[],15⟩ Tryd.f35 = some ir35 := by kernel_rfl
theorem ok36 : compF Tryd.prog ⟨[4,0,8,3,2],[],20⟩ Tryd.f36 = some ir36 := by kernel_rfl
theorem ok37 : compF Tryd.prog ⟨[0,1,6,21,26,25,27,24,7,9,48,47,49,46,13,12,5],[2,4,10,11,14],64⟩ Tryd.f37 = some ir37 := by kernel_rfl
theorem ok38 : compF Tryd.prog ⟨[3,0,7,39,2],[],40⟩ Tryd.f38 = some ir38 := by kernel_rfl
theorem ok39 : compF Tryd.prog ⟨[4,0,9],[2,3],24⟩ Tryd.f39 = some ir39 := by kernel_rfl
theorem ok40 : compF Tryd.prog ⟨[0,1,7,21,8,9,30,29,31,28,11,54,13,14,85,10,4,5,6],[2,12],106⟩ Tryd.f40 = some ir40 := by kernel_rfl
theorem ok41 : compF Tryd.prog ⟨[0,9,27,7,8,10,42,11,49,12,13,74,6,1,100,15,14,122,133,4,5],[2],135⟩ Tryd.f41 = some ir41 := by kernel_rfl
theorem ok42 : compF Tryd.prog ⟨[0,2,8,24,10,27,13,43,11,51,12,14,62,65,9,1,6,7],[3],76⟩ Tryd.f42 = some ir42 := by kernel_rfl
theorem ok43 : compF Tryd.prog ⟨[0,6,15,5,1,4],[2],41⟩ Tryd.f43 = some ir43 := by kernel_rfl
theorem ok44 : compF Tryd.prog ⟨[0,4,19,24,23,25,7,33,32,34,8,6,43,44,45,9,10,5,63,62,64,61,13,68,11,14,2,3],[1],87⟩ Tryd.f44 = some ir44 := by kernel_rfl
theorem ok45 : compF Tryd.prog ⟨[0,4,8,2,3],[1],19⟩ Tryd.f45 = some ir45 := by kernel_rfl
theorem ok46 : compF Tryd.prog ⟨[0,1,7,16,6,8,4,5],[2],31⟩ Tryd.f46 = some ir46 := by kernel_rfl
theorem ok47 : compF Tryd.prog ⟨[0,6,18,5,1,11,50,14,57,9,68,7,13,10,4],[2,12],90⟩ Tryd.f47 = some ir47 := by kernel_rfl
theorem ok48 : compF Tryd.prog ⟨[0,1,10,5,14,41,4],[],42⟩ Tryd.f48 = some ir48 := by kernel_rfl
theorem ok49 : compF Tryd.prog ⟨[0,27,3,32,4,5,96,6,101,162,2],[1,7],163⟩ Tryd.f49 = some ir49 := by kernel_rfl
theorem ok50 : compF Tryd.prog ⟨[0,28,32,31,33,30,4,3,68,73,72,74,71,6,5,104,122,121,123,120,130,2],[1,8],133⟩ Tryd.f50 = some ir50 := by kernel_rfl
theorem ok51 : compF Tryd.prog ⟨[0,1,9,21,2,25,28,27,29,26,11,12,13,14,59,62,10,6,7,8],[3],77⟩ Tryd.f51 = some ir51 := by kernel_rfl
theorem ok52 : compF Tryd.prog ⟨[0,7,12,1,2,27,6],[3],29⟩ Tryd.f52 = some ir52 := by kernel_rfl
theorem ok53 : compF Tryd.prog ⟨[5,0,13,1,38,4],[],39⟩ Tryd.f53 = some ir53 := by kernel_rfl
theorem ok54 : compF Tryd.prog ⟨[0,7,11,1,2,21,6],[3],22⟩ Tryd.f54 = some ir54 := by kernel_rfl
theorem ok55 : compF Tryd.prog ⟨[0,2],[1],6⟩ Tryd.f55 = some ir55 := by kernel_rfl
theorem ok56 : compF Tryd.prog ⟨[0,2,1,33,32,34,31,6,63,62,64,12,69,70,71,75,74,76,16,80,81,82,17,14,85,13,15,18,9,11,19,114,113,115,20,128,127,129,126,21,135,136,137,23,22,24,155,154,156,153,26,25],[4,5,8],180⟩ Tryd.f56 = some ir56 := by kernel_rfl
theorem ok57 : compF Tryd.prog ⟨[0,8,7,9,6,3,2],[5],22⟩ Tryd.f57 = some ir57 := by kernel_rfl
theorem ok58 : compF Tryd.prog ⟨[0,1,26,25,27,33,32,34,31,37,38,12,8,44,6,5,13,87,86,88,14,15,94,98,97,99,17,105,4],[2,9,11,16],119⟩ Tryd.f58 = some ir58 := by kernel_rfl
theorem ok59 : compF Tryd.prog ⟨[0,7,12,6,1,4,5],[2],36⟩ Tryd.f59 = some ir59 := by kernel_rfl
theorem ok60 : compF Tryd.prog ⟨[0,6,16,5,1,4],[2,7],65⟩ Tryd.f60 = some ir60 := by kernel_rfl
theorem ok61 : compF Tryd.prog ⟨[0,5,1,4],[],12⟩ Tryd.f61 = some ir61 := by kernel_rfl
theorem ok62 : compF Tryd.prog ⟨[1,6,0,4],[],15⟩ Tryd.f62 = some ir62 := by kernel_rfl
theorem ok63 : compF Tryd.prog ⟨[1,7,0,5],[4],22⟩ Tryd.f63 = some ir63 := by kernel_rfl
theorem ok64 : compF Tryd.prog ⟨[0,2],[1],5⟩ Tryd.f64 = some ir64 := by kernel_rfl
theorem ok65 : compF Tryd.prog ⟨[0,2],[1],6⟩ Tryd.f65 = some ir65 := by kernel_rfl
theorem ok66 : compF Tryd.prog ⟨[0,1,2,3,4],[],6⟩ Tryd.f66 = some ir66 := by kernel_rfl
theorem ok67 : compF Tryd.prog ⟨[0,21,20,22,6,7,26,5,8,46,55,54,56,53,60,61,12,1,10,75,15,13,9,14,86,4],[2,11],116⟩ Tryd.f67 = some ir67 := by kernel_rfl
theorem ok68 : compF Tryd.prog ⟨[0,4,2],[],8⟩ Tryd.f68 = some ir68 := by kernel_rfl
theorem ok69 : compF Tryd.prog ⟨[0],[2],5⟩ Tryd.f69 = some ir69 := by kernel_rfl
theorem ok70 : compF Tryd.prog ⟨[0,8,7,9,6,3],[2,5],21⟩ Tryd.f70 = some ir70 := by kernel_rfl
theorem ok71 : compF Tryd.prog ⟨[1,0,12,2,4],[],26⟩ Tryd.f71 = some ir71 := by kernel_rfl
theorem ok72 : compF Tryd.prog ⟨[0,2,3,9],[],28⟩ Tryd.f72 = some ir72 := by kernel_rfl
theorem ok73 : compF Tryd.prog ⟨[2,0,7,24,23,25,8,1,32,31,33,9,11,10,50,56,12,81,80,82,14,97,96,98,95,15,16,112,119,118,120,18,6],[5,13,17],148⟩ Tryd.f73 = some ir73 := by kernel_rfl
theorem ok74 : compF Tryd.prog ⟨[0,1,4],[],9⟩ Tryd.f74 = some ir74 := by kernel_rfl
theorem ok75 : compF Tryd.prog ⟨[0,11,10,12,9,3,5,20,27,26,28,25,6,8,2],[],36⟩ Tryd.f75 = some ir75 := by kernel_rfl
theorem ok76 : compF Tryd.prog ⟨[0,2],[],5⟩ Tryd.f76 = some ir76 := by kernel_rfl
theorem ok77 : compF Tryd.prog ⟨[1,8,6,23,9,0,7,13,48,11,12,10,14,72,77,15,94,110,17,129,18,163,170,4,5],[16],197⟩ Tryd.f77 = some ir77 := by kernel_rfl
theorem ok78 : compF Tryd.prog ⟨[4,0,10,6,16,5,3,2],[],35⟩ Tryd.f78 = some ir78 := by kernel_rfl
theorem ok79 : compF Tryd.prog ⟨[0,1],[2,3,4],16⟩ Tryd.f79 = some ir79 := by kernel_rfl
theorem ok80 : compF Tryd.prog ⟨[0,1,5,7,16,4],[2,3],24⟩ Tryd.f80 = some ir80 := by kernel_rfl
theorem ok81 : compF Tryd.prog ⟨[0,11,10,12,9,5,1,19,6,7,8,28,35,4],[],36⟩ Tryd.f81 = some ir81 := by kernel_rfl
theorem ok82 : compF Tryd.prog ⟨[1,0,4],[3],9⟩ Tryd.f82 = some ir82 := by kernel_rfl
theorem ok83 : compF Tryd.prog ⟨[1,0,8,7,9,5,16,4],[3],19⟩ Tryd.f83 = some ir83 := by kernel_rfl
theorem ok84 : compF Tryd.prog ⟨[0,1,4],[],9⟩ Tryd.f84 = some ir84 := by kernel_rfl
theorem ok85 : compF Tryd.prog ⟨[0,2],[],9⟩ Tryd.f85 = some ir85 := by kernel_rfl
theorem ok86 : compF Tryd.prog ⟨[0,1],[2,3,4],13⟩ Tryd.f86 = some ir86 := by kernel_rfl
theorem ok87 : compF Tryd.prog ⟨[3,4,2],[0,1],11⟩ Tryd.f87 = some ir87 := by kernel_rfl
theorem ok88 : compF Tryd.prog ⟨[0,1],[2,3,4,5],28⟩ Tryd.f88 = some ir88 := by kernel_rfl
theorem ok89 : compF Tryd.prog ⟨[0,13,12,14,5,6,1,7,37,36,38,8,50,49,51,48,10,56,9,4],[],69⟩ Tryd.f89 = some ir89 := by kernel_rfl
theorem ok90 : compF Tryd.prog ⟨[0,1],[2,3,4,5,6],28⟩ Tryd.f90 = some ir90 := by kernel_rfl
theorem ok91 : compF Tryd.prog ⟨[1,0,11,3],[],19⟩ Tryd.f91 = some ir91 := by kernel_rfl
theorem ok92 : compF Tryd.prog ⟨[0,6,16,5,1,4],[2,7],43⟩ Tryd.f92 = some ir92 := by kernel_rfl
theorem ok93 : compF Tryd.prog ⟨[0,1],[2,4,5],30⟩ Tryd.f93 = some ir93 := by kernel_rfl
theorem ok94 : compF Tryd.prog ⟨[1,2,16,15,17,14,21,22,35,7,0,5,50],[4,6],52⟩ Tryd.f94 = some ir94 := by kernel_rfl
theorem ok95 : compF Tryd.prog ⟨[0,9,8,10,7],[2,3,5],18⟩ Tryd.f95 = some ir95 := by kernel_rfl
theorem ok96 : compF Tryd.prog ⟨[0,8,7,9,1,5,16,4],[],19⟩ Tryd.f96 = some ir96 := by kernel_rfl
theorem ok97 : compF Tryd.prog ⟨[1,6,0,16,4],[],27⟩ Tryd.f97 = some ir97 := by kernel_rfl
theorem ok98 : compF Tryd.prog ⟨[0,1,5,11,6,12,13,16,19,4],[],20⟩ Tryd.f98 = some ir98 := by kernel_rfl
theorem ok99 : compF Tryd.prog ⟨[0,8,7,9,1,5,16,4],[],19⟩ Tryd.f99 = some ir99 := by kernel_rfl
theorem ok100 : compF Tryd.prog ⟨[0,1,6,10,5,16,20],[4],30⟩ Tryd.f100 = some ir100 := by kernel_rfl
theorem ok101 : compF Tryd.prog ⟨[0,2],[],6⟩ Tryd.f101 = some ir101 := by kernel_rfl
theorem ok117 : compF Tryd.prog ⟨[0,1,7],[2,3,4],24⟩ Tryd.f117 = some ir117 := by kernel_rfl
theorem ok122 : compF Tryd.prog ⟨[],[],1⟩ Tryd.f122 = some ir122 := by kernel_rfl
end Go.AI.Sl
