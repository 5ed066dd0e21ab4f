/-
  The program's functions, each checked, part 2. No conditions.
-/
import Derived.Test.YtfkcmflhiccmkaaGreatDoorI1
set_option linter.all false
set_option linter.unusedVariables false
set_option linter.unusedSimpArgs false
namespace Go.Proofs.YtfkcmflhiccmkaaGreatDoor.VM
open Go Go.RowKit
noncomputable section
set_option maxRecDepth 1000000
noncomputable def x101:FC:=⟨101,Tryz.f101,⟨lyD [3,5,7,9,11,13,15,17,19,21,30,32,34,36,38,30,32,34,36,38,40,42,360492,54,360504,66,68,70,72,23,25,27,29,30,32,30,32,65570,30,30],1920,none,5,511⟩,c101,0⟩
theorem y101:FCOk DI Tryz.prog x101:=⟨by kernel_rfl,by kernel_rfl⟩
noncomputable def x102:FC:=⟨102,Tryz.f102,⟨lyD [3,5,7,14,360464,26,9,14,65552,11,14,16,14,16,65554,13,14,16,14,16,65554],896,none,5,61⟩,c102,0⟩
theorem y102:FCOk DI Tryz.prog x102:=⟨by kernel_rfl,by kernel_rfl⟩
noncomputable def x103:FC:=⟨103,Tryz.f103,⟨lyD [3,5,7,9,11,13,14,360464,14,16,18,20,22,24,26,28,30,32,34,36,38,40],896,none,5,7⟩,c103,0⟩
theorem y103:FCOk DI Tryz.prog x103:=⟨by kernel_rfl,by kernel_rfl⟩
noncomputable def x104:FC:=⟨104,Tryz.f104,⟨lyD [3,5,7,9,11,12,14,16,12,65550,12,14,65552,12,65550,12,14,16,18,65556,12,65550,12,65550],768,none,5,127⟩,c104,0⟩
theorem y104:FCOk DI Tryz.prog x104:=⟨by kernel_rfl,by kernel_rfl⟩
noncomputable def x105:FC:=⟨105,Tryz.f105,⟨lyD [3,5,7,9,11,14,16,18,14,65552,14,16,65554,14,65552,14,16,18,20,22,14,65552,14,13,14,16,65554,14,16,65554],896,none,5,1023⟩,c105,0⟩
theorem y105:FCOk DI Tryz.prog x105:=⟨by kernel_rfl,by kernel_rfl⟩
noncomputable def x107:FC:=⟨107,Tryz.f107,⟨lyD [98307,5,7,9,11,13,15,17,32,34,36,38,32,34,36,38,32,19,32,34,32,34,32,34,36,38,40,21,23,25,27,32,34,32,34,36,38,40,42,44,46,48,29,32,34,36,38,32,32,34,36,38,32,34,36,38,40,42,44,46,48,50,31,32],2048,none,5,97279⟩,c107,0⟩
theorem y107:FCOk DI Tryz.prog x107:=⟨by kernel_rfl,by kernel_rfl⟩
noncomputable def x108:FC:=⟨108,Tryz.f108,⟨lyD [3,5,7,9,11,12,14,16,18],768,none,5,3⟩,c108,0⟩
theorem y108:FCOk DI Tryz.prog x108:=⟨by kernel_rfl,by kernel_rfl⟩
noncomputable def x109:FC:=⟨109,Tryz.f109,⟨lyD [360451,13,15,17,98322,360468,30,32],1152,none,5,3⟩,c109,0⟩
theorem y109:FCOk DI Tryz.prog x109:=⟨by kernel_rfl,by kernel_rfl⟩
noncomputable def x110:FC:=⟨110,Tryz.f110,⟨lyD [98307,360453,15,17,19,21,23,25,34,27,29,31,33,34,36,34,36,38,40,42,44,46,48,50,34,34,36,38,40,42],2176,none,5,255⟩,c110,0⟩
theorem y110:FCOk DI Tryz.prog x110:=⟨by kernel_rfl,by kernel_rfl⟩
noncomputable def x111:FC:=⟨111,Tryz.f111,⟨lyD [3,5,7,10,9,10,12,14],640,none,5,11⟩,c111,0⟩
theorem y111:FCOk DI Tryz.prog x111:=⟨by kernel_rfl,by kernel_rfl⟩
noncomputable def x112:FC:=⟨112,Tryz.f112,⟨lyD [3,5,7,9,11,13,15,17,20,19,20,22,24,26,28,30,32,34,36,38,40,42,44,163886,50],1280,none,5,1⟩,c112,0⟩
theorem y112:FCOk DI Tryz.prog x112:=⟨by kernel_rfl,by kernel_rfl⟩
noncomputable def x113:FC:=⟨113,Tryz.f113,⟨lyD [294915,11,13,15,17,18,20,22,24],1152,none,5,3⟩,c113,0⟩
theorem y113:FCOk DI Tryz.prog x113:=⟨by kernel_rfl,by kernel_rfl⟩
noncomputable def x114:FC:=⟨114,Tryz.f114,⟨lyD [3,5,7,9,10,12,14,16,18,20,22,24,26,28,10,65548,10,12,14,16,18,20,22,24,26,28,30,32,34,36],640,none,5,7⟩,c114,0⟩
theorem y114:FCOk DI Tryz.prog x114:=⟨by kernel_rfl,by kernel_rfl⟩
noncomputable def x115:FC:=⟨115,Tryz.f115,⟨lyD [3,5,7,9,11,58,13,22,24,26,28,30,360480,15,17,19,21,22,24,17104942,22,24,26,360476,38,17104936,163892,56,22,24,26,28,65566,22,24,65562,22,24,26,28,30,32,34,22,22,24,26,28,30,65568],1408,none,5,259⟩,c115,0⟩
theorem y115:FCOk DI Tryz.prog x115:=⟨by kernel_rfl,by kernel_rfl⟩
noncomputable def x116:FC:=⟨116,Tryz.f116,⟨lyD [3,5,7,9,11,13,15,17,19,21,30,32,34,36,23,25,27,17104936,30,32,17104930,163886,50,29,163870,163870],1920,none,5,127⟩,c116,1⟩
theorem y116:FCOk DI Tryz.prog x116:=⟨by kernel_rfl,by kernel_rfl⟩
noncomputable def x117:FC:=⟨117,Tryz.f117,⟨lyD [3,5,7,9,11,13,15,17,18,20,360470,32,18,20,22,24,26,28,30,32,18,20,22,24,65562,18,20,22,24,26,28,30,32,34,36,38,40,42,44,46,48,18,20,22,24,26,28,30,32,34,36,38,40,42,44,46,163888,18,20,22,24,26,28,30,32,34,36],1152,none,6,63⟩,c117,0⟩
theorem y117:FCOk DI Tryz.prog x117:=⟨by kernel_rfl,by kernel_rfl⟩
noncomputable def x118:FC:=⟨118,Tryz.f118,⟨lyD [3,5,7,9,11,13,14,16,65554],896,none,6,3⟩,c118,0⟩
theorem y118:FCOk DI Tryz.prog x118:=⟨by kernel_rfl,by kernel_rfl⟩
noncomputable def x119:FC:=⟨119,Tryz.f119,⟨lyD [3,360453,15,17,68,19,17301548,20,360470,17301536,360504,66,20,360470,360480,42,44,46,48,50,884788,65614],1280,none,5,7⟩,c119,0⟩
theorem y119:FCOk DI Tryz.prog x119:=⟨by kernel_rfl,by kernel_rfl⟩
noncomputable def x120:FC:=⟨120,Tryz.f120,⟨lyD [3,360453,15,17,68,19,17301548,20,360470,17301536,360504,66,20,360470,32,34,360484,46,884784,65610],1280,none,5,7⟩,c120,0⟩
theorem y120:FCOk DI Tryz.prog x120:=⟨by kernel_rfl,by kernel_rfl⟩
noncomputable def x129:FC:=⟨129,Tryz.f129,⟨lyD [3,360453,15,17,18,20,360470,32,884770,60],1152,none,5,3⟩,c129,0⟩
theorem y129:FCOk DI Tryz.prog x129:=⟨by kernel_rfl,by kernel_rfl⟩
noncomputable def x130:FC:=⟨130,Tryz.f130,⟨lyD [3,360453,15,16,16,884754,44],1024,none,5,3⟩,c130,0⟩
theorem y130:FCOk DI Tryz.prog x130:=⟨by kernel_rfl,by kernel_rfl⟩
noncomputable def x131:FC:=⟨131,Tryz.f131,⟨lyD [3,360453,15,16,16,884754,44],1024,none,5,3⟩,c131,0⟩
theorem y131:FCOk DI Tryz.prog x131:=⟨by kernel_rfl,by kernel_rfl⟩
noncomputable def x133:FC:=⟨133,Tryz.f133,⟨lyD [3,5,7,9,11,13,15,17,19,21,23,25,27,40,229418,40,42,229416,29,40,42,44,40,42,44,229422,52,54,31,40,42,44,46,48,50,52,54,56,58,60,62,64,66,68,40,229418,48,50,33,40,42,44,40,42,44,46,48,229426,229432,62,64,35,40,42,44,46,48,50,52,40,42,44,46,48,50,52,229430,229436,66,37,40,42,44,46,48,50,52,54,56,58,60,62,40,42,44,46,48,50,52,54,56,58,229436,66,68,70,72,229450,229456,86,88,40,40,42,39,229416,40,42,229420],2560,none,5,1442239⟩,c133,0⟩
theorem y133:FCOk DI Tryz.prog x133:=⟨by kernel_rfl,by kernel_rfl⟩
noncomputable def x134:FC:=⟨134,Tryz.f134,⟨lyD [229379,9,11,13,229390,229396,26,14,16,18,20,22,24,26,28,14,16,18,20,22,24,26,28,229390,229390],896,none,5,63⟩,c134,0⟩
theorem y134:FCOk DI Tryz.prog x134:=⟨by kernel_rfl,by kernel_rfl⟩
noncomputable def x135:FC:=⟨135,Tryz.f135,⟨lyD [163843,7,9,11,13,15,17,19,21,23,25,27,29,31,33,35,37,39,56,58,60,62,64,66,68,70,41,56,58,60,62,294976,16908358,294968,64,16908354,74,76,56,43,56,58,60,45,56,58,56,58,60,62,64,66,68,70,72,74,47,294968,64,66,68,70,72,74,76,78,884816,491626,56,58,60,49,56,58,56,58,60,62,64,491586,491600,94,96,56,51,56,491578,72,74,56,58,60,53,56,58,56,56,58,60,62,64,66,491588,82,84,86,88,491610,104,55,56,58,56,58,60,62,64,66,68,70,72,491594,88,90,92,491614,108,110,56],3584,none,5,167772155⟩,c135,0⟩
theorem y135:FCOk DI Tryz.prog x135:=⟨by kernel_rfl,by kernel_rfl⟩
noncomputable def x136:FC:=⟨136,Tryz.f136,⟨lyD [294915,11,13,15,17,19,21,23,25,27,29,31,33,35,52,54,56,58,60,62,64,66,68,70,72,74,76,78,80,82,84,86,88,90,92,37,52,54,52,54,56,229434,64,52,54,56,39,52,54,52,54,56,41,294964,60,62,64,229442,72,52,54,56,43,52,54,52,54,56,45,52,54,52,54,56,58,60,229438,68,70,72,229450,80,82,52,47,52,54,56,58,229436,66,68,52,54,56,49,52,54,52,52,54,56,58,60,62,229440,70,72,74,76,229454,84,51,52,54,52,54,56,58,60,62,64,66,68,229446,76,78,80,229458,88,90,52],3328,none,5,167772155⟩,c136,0⟩
theorem y136:FCOk DI Tryz.prog x136:=⟨by kernel_rfl,by kernel_rfl⟩
noncomputable def x137:FC:=⟨137,Tryz.f137,⟨lyD [163843,7,9,11,13,15,17,19,21,23,25,27,29,31,33,35,46,48,50,52,54,56,163886,50,52,54,56,58,46,48,50,52,54,56,58,60,62,64,66,68,70,72,74,76,78,80,82,84,37,46,48,50,52,39,46,48,46,48,50,41,46,48,46,48,50,52,54,56,58,60,62,163886,50,52,54,46,48,50,52,43,46,48,50,163886,50,52,54,56,58,60,62,64,66,68,70,72,74,76,45],2944,none,5,1048575⟩,c137,0⟩
theorem y137:FCOk DI Tryz.prog x137:=⟨by kernel_rfl,by kernel_rfl⟩
noncomputable def x138:FC:=⟨138,Tryz.f138,⟨lyD [3,5,7,9,11,13,28,30,32,34,36,38,40,42,44,15,28,30,32,17,28,30,28,30,32,34,36,38,40,19,28,30,28,30,32,34,36,38,40,42,44,46,48,50,52,54,56,58,60,62,64,66,68,70,21,28,30,32,34,23,28,30,32,25,28,30,28,30,32,34,36,38,40,42,44,46,48,50,52,54,56,58,60,62,360512,74,76,78,80,82,84,86,88,90,92,94,96,98,360548,110,112,114,27],1792,none,5,388091⟩,c138,0⟩
theorem y138:FCOk DI Tryz.prog x138:=⟨by kernel_rfl,by kernel_rfl⟩
noncomputable def x139:FC:=⟨139,Tryz.f139,⟨lyD [3,5,7,9,11,13,15,17,19,21,38,40,42,44,46,48,50,52,54,56,58,60,62,23,38,40,38,40,42,44,46,48,50,38,40,42,360492,38,40,25,38,40,42,44,27,38,40,42,65580,38,40,42,44,46,29,38,40,42,65580,38,40,42,44,46,48,50,52,54,56,58,38,40,42,44,46,48,50,52,54,56,58,360508,70,72,74,76,38,40,42,44,31,38,40,42,65580,38,40,42,44,46,48,50,52,54,56,58,33,38,40,42,65580,38,40,42,44,46,48,50,52,54,56,58,38,40,42,44,46,48,50,163892,56,58,60,62,38,40,42,44,35,38,40,38,40,42,44,46,48,50,52,54,38,40,42,44,46,48,50,52,54,37,38,40,42,44,46,48,50,65588,38,40,42,44,46,48,50,52,54,56,58,38,40,42,44,46,48,50,52,54,56,58,38,40,42,44,46,48,50,52,54,56],2432,none,5,125787519⟩,c139,0⟩
theorem y139:FCOk DI Tryz.prog x139:=⟨by kernel_rfl,by kernel_rfl⟩
noncomputable def x140:FC:=⟨140,Tryz.f140,⟨lyD [3,5,7,9,11,13,15,17,19,21,72,23,30,32,34,36,38,40,360490,30,32,34,36,38,40,42,360492,54,30,32,34,36,38,40,42,44,30,32,34,36,38,40,42,44,46,48,25,30,32,17170488,30,32,34,36,38,40,42,44,46,17170480,229440,70,27,30,32,34,36,38,40,65578,30,32,34,36,38,40,42,44,46,48,50,52,54,65592,30,32,34,36,38,40,42,30,32,34,36,29,30,32,34,36,38,65576],1920,none,5,6175⟩,c140,0⟩
theorem y140:FCOk DI Tryz.prog x140:=⟨by kernel_rfl,by kernel_rfl⟩
noncomputable def x141:FC:=⟨141,Tryz.f141,⟨lyD [163843,7,9,11,13,15,17,19,21,24,26,28,30,32,34,36,38,23,24,26,24,163866,30,32,34,36,38,40,42,44,46,48,50,52,54,56,58,24],1536,none,5,127⟩,c141,0⟩
theorem y141:FCOk DI Tryz.prog x141:=⟨by kernel_rfl,by kernel_rfl⟩
noncomputable def x142:FC:=⟨142,Tryz.f142,⟨lyD [229379,9,11,14,16,18,20,22,24,26,28,30,32,34,36,38,40,42,44,46,48,50,52,54,56,58,60,62,64,66,68,70,72,74,76,13,229390,229390],896,none,5,15⟩,c142,0⟩
theorem y142:FCOk DI Tryz.prog x142:=⟨by kernel_rfl,by kernel_rfl⟩
end
end Go.Proofs.YtfkcmflhiccmkaaGreatDoor.VM
namespace Go.Proofs.YtfkcmflhiccmkaaGreatDoor.VM
open Go Go.RowKit
noncomputable section
set_option maxRecDepth 1000000
noncomputable def x144:FC:=⟨144,Tryz.f144,⟨lyD [229379,9,11,13,15,17,19,22,24,26,22,24,26,28,30,32,34,21,163862,22,24,26,163868],1408,none,5,23⟩,c144,0⟩
theorem y144:FCOk DI Tryz.prog x144:=⟨by kernel_rfl,by kernel_rfl⟩
noncomputable def x145:FC:=⟨145,Tryz.f145,⟨lyD [3,5,163847,11,13,15,17,19,21,23,25,27,29,31,33,35,37,54,163896,60,62,64,39,54,56,54,56,229434,229430,60,54,229432,62,64,54,56,58,60,62,64,66,68,70,41,54,56,54,56,163898,62,64,66,229444,43,45,47,49,54,229432,229430,60,54,56,58,51,54,56,54,229432,62,64,54,54,56,58,53,54,65592,54],3456,none,5,2097147⟩,c145,0⟩
theorem y145:FCOk DI Tryz.prog x145:=⟨by kernel_rfl,by kernel_rfl⟩
noncomputable def x146:FC:=⟨146,Tryz.f146,⟨lyD [884739,29,31,33,35,37,42,44,46,48,50,52,54,39,491562,42,44,46,48,50,52,491574,42,41,42,44,46,229424,54,491562],2688,none,5,123⟩,c146,0⟩
theorem y146:FCOk DI Tryz.prog x146:=⟨by kernel_rfl,by kernel_rfl⟩
noncomputable def x147:FC:=⟨147,Tryz.f147,⟨lyD [3,5,7,9,11,12,14,12,14,16,18,20,22,65560],768,none,5,3⟩,c147,0⟩
theorem y147:FCOk DI Tryz.prog x147:=⟨by kernel_rfl,by kernel_rfl⟩
noncomputable def x148:FC:=⟨148,Tryz.f148,⟨lyD [491523,491537,31,33,35,37,38,40,42,44,46,48,491570,64,66,491588,82,84,86,88,90,92,94,96,98,100,102,104,106,108,110,112,114,116,118,120,122,124,126,128,130,132,134,136,138,140],2432,none,5,7⟩,c148,0⟩
theorem y148:FCOk DI Tryz.prog x148:=⟨by kernel_rfl,by kernel_rfl⟩
noncomputable def x149:FC:=⟨149,Tryz.f149,⟨lyD [3,5,7,9,11,13,24,26,15,24,24,26,28,17,24,26,24,26,28,491550,44,46,48,50,491572,19,24,26,28,24,26,28,21,24,26,24,26,28,491550,44,46,48,50,491572,23,24,26,28,30,32,491554,48,24,26,24,26,28,24,26,28,24],1536,none,5,131071⟩,c149,0⟩
theorem y149:FCOk DI Tryz.prog x149:=⟨by kernel_rfl,by kernel_rfl⟩
noncomputable def x150:FC:=⟨150,Tryz.f150,⟨lyD [3,5,7,9,11,13,15,17,19,21,26,28,884766,26,28,23,26,28,30,32,25,26,28,26],1664,none,5,255⟩,c150,0⟩
theorem y150:FCOk DI Tryz.prog x150:=⟨by kernel_rfl,by kernel_rfl⟩
noncomputable def x151:FC:=⟨151,Tryz.f151,⟨lyD [3,163845,9,11,13,15,17,18,20,22,24,26,28,30,32,34,36,38,40,42,44],1152,none,5,3⟩,c151,0⟩
theorem y151:FCOk DI Tryz.prog x151:=⟨by kernel_rfl,by kernel_rfl⟩
noncomputable def x152:FC:=⟨152,Tryz.f152,⟨lyD [3,5,229383,13,15,17,19,21,23,28,30,32,34,36,38,40,42,44,46,48,50,52,54,56,58,60,62,25,491548,28,30,32,34,884772,62,491584,28,30,32,27,491548,491548],1792,none,5,127⟩,c152,0⟩
theorem y152:FCOk DI Tryz.prog x152:=⟨by kernel_rfl,by kernel_rfl⟩
noncomputable def x153:FC:=⟨153,Tryz.f153,⟨lyD [3,491525,19,21,23,25,27,29,32,34,36,38,40,42,44,46,48,50,16908340,32,491554,16908336,56,58,32,34,31,32,34,36,38,40,42,44,46,48,50,52,54,56,32,34,36,38,40,42,44,46,48,50,52,54,56,32,32,34,491556,50,52],2048,none,5,287⟩,c153,0⟩
theorem y153:FCOk DI Tryz.prog x153:=⟨by kernel_rfl,by kernel_rfl⟩
noncomputable def x155:FC:=⟨155,Tryz.f155,⟨lyD [884739,29,31,33,35,36],2304,none,5,3⟩,c155,0⟩
theorem y155:FCOk DI Tryz.prog x155:=⟨by kernel_rfl,by kernel_rfl⟩
noncomputable def x156:FC:=⟨156,Tryz.f156,⟨lyD [3,5,7,10,9,10,12,14],640,none,5,15⟩,c156,0⟩
theorem y156:FCOk DI Tryz.prog x156:=⟨by kernel_rfl,by kernel_rfl⟩
noncomputable def x157:FC:=⟨157,Tryz.f157,⟨lyD [3,5,7,9,11,13,22,15,17,19,22,22,24,26,28,294942,21,22,22],1408,none,5,223⟩,c157,0⟩
theorem y157:FCOk DI Tryz.prog x157:=⟨by kernel_rfl,by kernel_rfl⟩
noncomputable def x159:FC:=⟨159,Tryz.f159,⟨lyD [3,5,7,9,11,12,14,16],768,none,6,3⟩,c159,0⟩
theorem y159:FCOk DI Tryz.prog x159:=⟨by kernel_rfl,by kernel_rfl⟩
noncomputable def x160:FC:=⟨160,Tryz.f160,⟨lyD [3,5,7,9,11,13,22,15,17,19,22,22,24,26,28,30,21,22,22],1408,none,5,255⟩,c160,0⟩
theorem y160:FCOk DI Tryz.prog x160:=⟨by kernel_rfl,by kernel_rfl⟩
noncomputable def x161:FC:=⟨161,Tryz.f161,⟨lyD [3,5,7,9,11,12,14,16,18,20,22,24,26,28,30,32,34],768,none,5,3⟩,c161,0⟩
theorem y161:FCOk DI Tryz.prog x161:=⟨by kernel_rfl,by kernel_rfl⟩
noncomputable def x162:FC:=⟨162,Tryz.f162,⟨lyD [3,5,7,8,10,12],512,none,5,3⟩,c162,0⟩
theorem y162:FCOk DI Tryz.prog x162:=⟨by kernel_rfl,by kernel_rfl⟩
noncomputable def x163:FC:=⟨163,Tryz.f163,⟨lyD [3,5,7,10,9,10,12,14],640,none,5,15⟩,c163,0⟩
theorem y163:FCOk DI Tryz.prog x163:=⟨by kernel_rfl,by kernel_rfl⟩
noncomputable def x164:FC:=⟨164,Tryz.f164,⟨lyD [3,5,7,9,11,13,16,18,20,22,16,18,20,22,24,26,28,30,32,34,36,38,40,42,44,46,48,50,52,54,56,58,60,62,15,16,18,20,22,24,26,28,16,18,20,22,24,26,28,30,32,34,36],1024,none,5,31⟩,c164,0⟩
theorem y164:FCOk DI Tryz.prog x164:=⟨by kernel_rfl,by kernel_rfl⟩
noncomputable def x167:FC:=⟨167,Tryz.f167,⟨lyD [3,5,7,9,11,12,14,16],768,none,6,3⟩,c167,0⟩
theorem y167:FCOk DI Tryz.prog x167:=⟨by kernel_rfl,by kernel_rfl⟩
noncomputable def x168:FC:=⟨168,Tryz.f168,⟨lyD [3,5,7,9,11,13,24,15,17,19,21,24,26,24,26,28,30,32,34,24,23,24,24],1536,none,5,447⟩,c168,0⟩
theorem y168:FCOk DI Tryz.prog x168:=⟨by kernel_rfl,by kernel_rfl⟩
noncomputable def x169:FC:=⟨169,Tryz.f169,⟨lyD [3,5,7,9,11,12,14,16,18,20,22,24,26,28,30,32,34,36],768,none,5,3⟩,c169,0⟩
theorem y169:FCOk DI Tryz.prog x169:=⟨by kernel_rfl,by kernel_rfl⟩
noncomputable def x174:FC:=⟨174,Tryz.f174,⟨lyD [3,5,7,9,11,13,15,17,19,20,22,24,26,28,30,32,34,36,38,40,42,44,46,48,50,52,54,56,58,60,62,20,22,24,26],1280,none,6,7⟩,c174,0⟩
theorem y174:FCOk DI Tryz.prog x174:=⟨by kernel_rfl,by kernel_rfl⟩
noncomputable def x175:FC:=⟨175,Tryz.f175,⟨lyD [3,5,7,9,12,14,16,11,12,65550],768,none,6,1⟩,c175,0⟩
theorem y175:FCOk DI Tryz.prog x175:=⟨by kernel_rfl,by kernel_rfl⟩
noncomputable def x176:FC:=⟨176,Tryz.f176,⟨lyD [3,5,7,9,10,12,14,16,18,20,360470,32,34,36],640,none,6,1⟩,c176,0⟩
theorem y176:FCOk DI Tryz.prog x176:=⟨by kernel_rfl,by kernel_rfl⟩
noncomputable def x177:FC:=⟨177,Tryz.f177,⟨lyD [3,5,7,9,11,13,16,18,65556,16,15,16,18,65556],1024,none,6,7⟩,c177,0⟩
theorem y177:FCOk DI Tryz.prog x177:=⟨by kernel_rfl,by kernel_rfl⟩
noncomputable def x178:FC:=⟨178,Tryz.f178,⟨lyD [3,5,7,9,10,12,14,16,18,20],640,none,6,1⟩,c178,0⟩
theorem y178:FCOk DI Tryz.prog x178:=⟨by kernel_rfl,by kernel_rfl⟩
noncomputable def x179:FC:=⟨179,Tryz.f179,⟨lyD [3,5,7,10,12,9,10,12,14,16,65554],640,none,6,1⟩,c179,0⟩
theorem y179:FCOk DI Tryz.prog x179:=⟨by kernel_rfl,by kernel_rfl⟩
noncomputable def x180:FC:=⟨180,Tryz.f180,⟨lyD [3,5,7,9,11,14,16,18,13,14,16,18,20,22,24,26,28],896,none,6,31⟩,c180,0⟩
theorem y180:FCOk DI Tryz.prog x180:=⟨by kernel_rfl,by kernel_rfl⟩
noncomputable def x181:FC:=⟨181,Tryz.f181,⟨lyD [3,5,7,9,10,12,14,16,18,20,22],640,none,6,1⟩,c181,0⟩
theorem y181:FCOk DI Tryz.prog x181:=⟨by kernel_rfl,by kernel_rfl⟩
noncomputable def x182:FC:=⟨182,Tryz.f182,⟨lyD [3,5,7,9,10,12,14,16,18],640,none,6,3⟩,c182,0⟩
theorem y182:FCOk DI Tryz.prog x182:=⟨by kernel_rfl,by kernel_rfl⟩
noncomputable def x183:FC:=⟨183,Tryz.f183,⟨lyD [3,5,7,9,11,13,22,15,17,19,22,22,24,26,28,360478,21,22,22],1408,none,5,223⟩,c183,0⟩
theorem y183:FCOk DI Tryz.prog x183:=⟨by kernel_rfl,by kernel_rfl⟩
noncomputable def x184:FC:=⟨184,Tryz.f184,⟨lyD [3,5,7,9,11,12,14,16,18],768,none,6,3⟩,c184,0⟩
theorem y184:FCOk DI Tryz.prog x184:=⟨by kernel_rfl,by kernel_rfl⟩
noncomputable def x185:FC:=⟨185,Tryz.f185,⟨lyD [3,5,7,9,11,13,15,17,19,20,22,24,26,20,22,294936,32,34,36,38,294952,48,50,52,54,294968,64,66,294980,76,294990,86,295000,96,98,100,102,295016,112,114,116,118,295032,128,130,132,295046,142,144,146,295060,156,158,160,162,295076,172,174,176,295090,186,188,190,295104,200,202,295116,212,214,216,295130,226,228,230,295144,240,242,244,246,248,295162,258,260,295174,270,272,295186,282,295196,292,295206,302,304,295218,314,295228,324,295238,334,336,295250,346,348,295262,358,360,295274,370,372,295286,382,384,20,22,24],1280,none,6,31⟩,c185,0⟩
theorem y185:FCOk DI Tryz.prog x185:=⟨by kernel_rfl,by kernel_rfl⟩
noncomputable def x186:FC:=⟨186,Tryz.f186,⟨lyD [294915,11,13,15,17,294930,26,28,30,32,34,36,38,40,42,44,46,48,50,52,54,56,58,60,62,64,66,68,70,72,74,76,78,80,82,84,86,88,90],1152,none,6,3⟩,c186,0⟩
theorem y186:FCOk DI Tryz.prog x186:=⟨by kernel_rfl,by kernel_rfl⟩
noncomputable def x187:FC:=⟨187,Tryz.f187,⟨lyD [294915,11,13,15,17,19,21,23,38,40,42,44,46,48,50,52,54,56,58,60,62,64,66,68,70,72,25,27,29,31,33,38,40,42,38,40,38,40,42,44,35,38,40,42,44,46,38,40,42,37,38],2432,none,6,7163⟩,c187,0⟩
theorem y187:FCOk DI Tryz.prog x187:=⟨by kernel_rfl,by kernel_rfl⟩
noncomputable def x188:FC:=⟨188,Tryz.f188,⟨lyD [3,5,7,9,12,14,16,18,20,22,24,11,12,14,163856,20,12,14,16,18],768,none,6,27⟩,c188,0⟩
theorem y188:FCOk DI Tryz.prog x188:=⟨by kernel_rfl,by kernel_rfl⟩
noncomputable def x189:FC:=⟨189,Tryz.f189,⟨lyD [3,5,7,9,11,13,22,15,17,19,22,22,24,26,28,360478,21,22,22],1408,none,5,223⟩,c189,0⟩
theorem y189:FCOk DI Tryz.prog x189:=⟨by kernel_rfl,by kernel_rfl⟩
noncomputable def x190:FC:=⟨190,Tryz.f190,⟨lyD [360451,13,15,17,18,20,22,24],1152,none,5,3⟩,c190,0⟩
theorem y190:FCOk DI Tryz.prog x190:=⟨by kernel_rfl,by kernel_rfl⟩
noncomputable def x191:FC:=⟨191,Tryz.f191,⟨lyD [3,5,7,8],512,none,6,3⟩,c191,0⟩
theorem y191:FCOk DI Tryz.prog x191:=⟨by kernel_rfl,by kernel_rfl⟩
noncomputable def x192:FC:=⟨192,Tryz.f192,⟨lyD [3,5,7,9,11,20,22,360472,13,15,17,19,20,22,20,22,24,26,28,360478,40,42,44,46,65584,20,22,65560,20],1280,none,6,63⟩,c192,0⟩
theorem y192:FCOk DI Tryz.prog x192:=⟨by kernel_rfl,by kernel_rfl⟩
noncomputable def x193:FC:=⟨193,Tryz.f193,⟨lyD [3,5,7,9,11,13,15,17,19,21,94,23,25,27,70,72,360522,70,29,70,31,33,35,37,70,72,70,72,360522,39,70,72,65610,41,70,70,72,74,43,70,70,72,65610,70,45,70,70,70,72,74,76,78,65616,70,72,74,76,78,80,82,84,86,88,90,92,94,96,98,100,102,104,65642,70,72,47,49,51,53,70,72,70,72,65610,70,55,70,70,72,74,76,78,80,70,72,74,76,78,80,82,84,86,88,70,72,74,76,78,80,82,84,86,88,90,92,94,96,98,100,102,104,106,65644,70,57,59,61,63,70,72,70,72,65610,70,65,70,70,72,74,76,78,80,82,84,86,88,90,65628,67,70,17104978,70,72,74,17104972,163928,92,70,72,74,76,65614,70,72,65610,70,72,74,76,78,80,82,84,86,88,90,92,69,70,72,65610],4480,none,6,423062664703⟩,c193,0⟩
theorem y193:FCOk DI Tryz.prog x193:=⟨by kernel_rfl,by kernel_rfl⟩
noncomputable def x194:FC:=⟨194,Tryz.f194,⟨lyD [3,360453,15,17,19,21,23,25,26,28,30,32,34,36,38,40,42,44,46,48,360498,60,62,64,66,68,70,72,74,76,78,80,82],1664,none,6,3⟩,c194,0⟩
theorem y194:FCOk DI Tryz.prog x194:=⟨by kernel_rfl,by kernel_rfl⟩
noncomputable def x195:FC:=⟨195,Tryz.f195,⟨lyD [3,360453,15,884753,43,45,47,49,51,53,55,17301584,56,360506,17301572,360540,102,56,56,58,60,62,884800,90,56,58,60,62,64,884802,92,56,58,60,62,64,56,884794,84],3584,none,6,127⟩,c195,0⟩
theorem y195:FCOk DI Tryz.prog x195:=⟨by kernel_rfl,by kernel_rfl⟩
noncomputable def x196:FC:=⟨196,Tryz.f196,⟨lyD [360451,13,15,17,19,20,22,24,26,28],1280,none,6,3⟩,c196,0⟩
theorem y196:FCOk DI Tryz.prog x196:=⟨by kernel_rfl,by kernel_rfl⟩
noncomputable def x197:FC:=⟨197,Tryz.f197,⟨lyD [3,5,7,8,10,12,14,16,18,20,22,24,26,28],512,none,6,3⟩,c197,0⟩
theorem y197:FCOk DI Tryz.prog x197:=⟨by kernel_rfl,by kernel_rfl⟩
noncomputable def x198:FC:=⟨198,Tryz.f198,⟨lyD [3,360453,15,17,19,21,23,25,27,29,31,33,42,44,46,48,35,37,39,41,42,44,42,44,46,48,294962,58,60,62,64,42,42],2688,none,6,255⟩,c198,0⟩
theorem y198:FCOk DI Tryz.prog x198:=⟨by kernel_rfl,by kernel_rfl⟩
noncomputable def x199:FC:=⟨199,Tryz.f199,⟨lyD [294915,11,13,15,17,19,21,23,25,52,54,56,58,60,62,64,66,68,70,72,74,76,78,80,82,27,52,54,56,58,60,360510,52,29,31,33,35,52,54,52,54,56,58,60,62,64,37,52,294966,62,64,66,52,52,39,41,52,52,54,229432,62,43,52,52,54,56,58,60,229438,68,45,52,52,229430,60,62,47,52,52,229430,60,62,49,52,52,229430,60,62,51,52,52,229430,60,62],3328,none,6,63611⟩,c199,0⟩
theorem y199:FCOk DI Tryz.prog x199:=⟨by kernel_rfl,by kernel_rfl⟩
end
end Go.Proofs.YtfkcmflhiccmkaaGreatDoor.VM
namespace Go.Proofs.YtfkcmflhiccmkaaGreatDoor.VM
open Go Go.RowKit
noncomputable section
set_option maxRecDepth 1000000
noncomputable def x202:FC:=⟨202,Tryz.f202,⟨lyD [294915,884747,37,39,41,43,48,50,52,54,56,58,60,45,491568,48,50,52,54,56,58,491580,48,47,48,50,52,54,229432,62,491568],3072,none,6,123⟩,c202,0⟩
theorem y202:FCOk DI Tryz.prog x202:=⟨by kernel_rfl,by kernel_rfl⟩
noncomputable def x203:FC:=⟨203,Tryz.f203,⟨lyD [491523,491537,31,33,35,37,39,41,50,52,54,56,58,60,62,64,66,68,70,72,74,76,78,80,50,52,54,56,58,60,62,64,66,68,70,72,74,76,78,80,50,43,50,52,50,45,50,52,50,52,54,47,50,52,50,52,54,56,58,60,62,64,49,50,52,54,56,58,60,62,64,66],3200,none,6,4095⟩,c203,0⟩
theorem y203:FCOk DI Tryz.prog x203:=⟨by kernel_rfl,by kernel_rfl⟩
noncomputable def x204:FC:=⟨204,Tryz.f204,⟨lyD [294915,229387,17,19,21,23,25,27,29,31,33,35,37,64,66,68,70,72,74,76,78,80,82,84,86,88,90,92,94,96,98,100,102,104,106,108,110,112,114,39,64,66,68,70,72,884810,64,66,64,66,64,66,68,70,64,41,43,64,17432670,294976,229448,17432654,491630,124,45,64,491586,80,47,64,64,294978,884810,491620,114,49,64,64,66,68,51,64,64,66,68,70,72,74,53,64,64,66,68,70,55,64,66,68,57,64,64,66,68,70,72,74,59,64,64,64,66,68,61,64,66,64,66,68,70,72,74,76,78,80,82,84,86,88,90,92,94,96,98,100,102,104,106,108,110,112,114,116,118,120,122,124,126,128,130,132,134,136,138,140,142,144,63,64,66,68,70,72,74,76,229454,84,86,64],4096,none,6,17167982587⟩,c204,0⟩
theorem y204:FCOk DI Tryz.prog x204:=⟨by kernel_rfl,by kernel_rfl⟩
noncomputable def x205:FC:=⟨205,Tryz.f205,⟨lyD [229379,229385,15,17,19,21,28,30,32,34,36,38,40,42,44,46,48,50,52,54,56,58,60,62,64,66,23,28,30,32,34,25,28,30,28,30,32,34,491556,50,52,54,56,491578,27],1792,none,6,7⟩,c205,0⟩
theorem y205:FCOk DI Tryz.prog x205:=⟨by kernel_rfl,by kernel_rfl⟩
noncomputable def x206:FC:=⟨206,Tryz.f206,⟨lyD [229379,229385,15,17,19,21,23,25,38,40,42,44,27,38,40,42,44,46,38,40,42,44,29,38,40,38,40,42,44,46,48,50,52,54,56,58,31,38,40,38,40,42,44,491566,60,62,64,66,491588,491558,491572,33,491558,491572,66,68,491590,491604,98,35,491558,491572,66,38,40,42,44,37,38,40,42,44,46,38,40,38,40,42,44,46,48,50],2432,none,6,7⟩,c206,0⟩
theorem y206:FCOk DI Tryz.prog x206:=⟨by kernel_rfl,by kernel_rfl⟩
noncomputable def x207:FC:=⟨207,Tryz.f207,⟨lyD [163843,7,9,11,13,15,17,19,21,28,30,32,34,229412,42,44,46,48,229426,229404,229410,23,28,30,32,34,36,38,40,42,44,46,48,25,28,30,32,34,36,38,40,42,44,46,27],1792,none,6,511⟩,c207,0⟩
theorem y207:FCOk DI Tryz.prog x207:=⟨by kernel_rfl,by kernel_rfl⟩
noncomputable def x208:FC:=⟨208,Tryz.f208,⟨lyD [3,5,7,9,11,13,15,22,24,26,17,22,24,22,24,26,28,30,32,34,19,22,24,22,24,26,28,30,32,34,36,38,40,42,44,46,48,50,52,54,56,58,21,22,24,26,22],1408,none,6,1787⟩,c208,0⟩
theorem y208:FCOk DI Tryz.prog x208:=⟨by kernel_rfl,by kernel_rfl⟩
noncomputable def x209:FC:=⟨209,Tryz.f209,⟨lyD [360451,13,15,17,19,26,28,30,32,34,36,38,40,42,44,46,48,50,52,54,56,58,60,62,64,66,68,70,72,74,76,78,80,82,84,86,88,90,92,94,96,98,100,102,104,106,108,110,26,21,23,26,26,26,26,25,26,26,28,30,32,34,36,38,40,42,44,46,48,50,52,54,56,58,60,62,64,66,68,70,72],1664,none,6,4095⟩,c209,0⟩
theorem y209:FCOk DI Tryz.prog x209:=⟨by kernel_rfl,by kernel_rfl⟩
noncomputable def x210:FC:=⟨210,Tryz.f210,⟨lyD [3,5,7,9,11,13,15,17,52,52,54,56,19,52,54,52,54,56,58,60,62,64,66,68,70,72,21,23,52,52,54,56,58,60,62,64,25,52,52,54,56,27,52,52,54,29,52,52,54,31,52,52,54,56,33,52,52,54,56,35,52,52,54,56,58,60,62,64,66,68,70,72,74,76,37,52,52,54,56,39,52,52,54,56,41,52,52,54,56,43,52,52,54,56,58,60,62,64,66,45,52,52,54,56,58,60,62,64,66,47,52,52,54,56,49,52,52,52,52,52,54,56,51,52,52,52,52,54,56,52,54,56],3328,none,6,26365373972351⟩,c210,0⟩
theorem y210:FCOk DI Tryz.prog x210:=⟨by kernel_rfl,by kernel_rfl⟩
noncomputable def x211:FC:=⟨211,Tryz.f211,⟨lyD [3,360453,15,17,19,21,23,26,28,30,32,25,26,28,26,28,30,32,34,36,38,40,42,44,46,48,26],1664,none,6,127⟩,c211,0⟩
theorem y211:FCOk DI Tryz.prog x211:=⟨by kernel_rfl,by kernel_rfl⟩
noncomputable def x212:FC:=⟨212,Tryz.f212,⟨lyD [3,5,7,9,11,13,18,20,22,24,26,28,15,18,20,18,20,22,24,26,28,30,32,34,17,18],1152,none,6,95⟩,c212,0⟩
theorem y212:FCOk DI Tryz.prog x212:=⟨by kernel_rfl,by kernel_rfl⟩
noncomputable def x214:FC:=⟨214,Tryz.f214,⟨lyD [3,5,7,9,11,13,18,20,22,24,26,28,15,18,20,18,20,22,24,26,28,30,32,34,17,18],1152,none,6,119⟩,c214,0⟩
theorem y214:FCOk DI Tryz.prog x214:=⟨by kernel_rfl,by kernel_rfl⟩
noncomputable def x215:FC:=⟨215,Tryz.f215,⟨lyD [3,5,7,9,11,13,15,17,22,24,26,28,30,32,34,36,38,40,42,44,46,48,19,22,24,22,24,26,28,30,32,34,36,38,40,42,44,21,22],1408,none,6,127⟩,c215,0⟩
theorem y215:FCOk DI Tryz.prog x215:=⟨by kernel_rfl,by kernel_rfl⟩
noncomputable def x216:FC:=⟨216,Tryz.f216,⟨lyD [3,5,7,9,11,13,15,20,22,24,26,28,30,20,17,20,22,20,22,24,26,28,30,32,34,36,19,20,22,24,26,28,30,229408,229396],1280,none,6,127⟩,c216,0⟩
theorem y216:FCOk DI Tryz.prog x216:=⟨by kernel_rfl,by kernel_rfl⟩
noncomputable def x217:FC:=⟨217,Tryz.f217,⟨lyD [3,5,7,9,11,13,15,17,20,22,24,26,28,30,32,34,19,20,22,24,26,28,30,32,34,36,65574,20,22,24,26,28,30,32,34,36,38,40,42,44,46,48,50,52,20,22,24,26,28,30,32,34,36,38,40,42,44,46,48,229426,56,58,60,62,20,22,24,26,28,30,32,34,36,38,40,42,44,46,48,50],1280,none,6,29⟩,c217,0⟩
theorem y217:FCOk DI Tryz.prog x217:=⟨by kernel_rfl,by kernel_rfl⟩
noncomputable def x218:FC:=⟨218,Tryz.f218,⟨lyD [3,5,7,9,11,13,18,20,22,24,26,18,20,22,24,26,28,30,32,34,36,15,18,20,18,20,22,24,26,28,30,17,18,20,22,24,26,28,30,32,34,36,38,40,42,65580,18,20,22,24,26,28,30,32,34],1152,none,6,127⟩,c218,0⟩
theorem y218:FCOk DI Tryz.prog x218:=⟨by kernel_rfl,by kernel_rfl⟩
noncomputable def x219:FC:=⟨219,Tryz.f219,⟨lyD [163843,7,9,11,13,15,17,19,21,23,25,27,29,31,33,35,66,68,70,72,360522,66,68,66,68,70,72,74,66,37,39,66,163906,70,72,74,76,78,80,82,84,86,88,90,92,94,96,98,163940,104,106,108,110,112,114,116,118,120,122,124,126,128,130,884868,158,160,41,66,163906,70,72,74,76,78,80,82,84,86,88,90,92,163934,98,100,102,104,106,108,110,112,114,116,163958,122,124,126,884864,154,156,43,66,163906,70,72,74,76,78,80,82,84,86,88,90,92,163934,98,100,102,104,163946,110,112,114,884852,142,144,45,66,163906,70,72,74,76,78,80,82,84,86,88,90,92,163934,98,100,102,104,884842,132,134,47,66,66,68,70,72,74,76,78,884816,106,108,110,112,114,116,118,120,122,124,126,128,130,132,134,136,138,884876,166,49,66,66,68,51,66,68,70,72,74,76,78,80,884818,108,53,66,66,68,70,72,74,76,78,884816,66,68,70,72,74,76,78,80,55,66,163906,70,72,74,76,78,884802,92,57,66,163906,70,72,74,59,66,163906,70,72,74,76,78,80,66,68,70,72,74,76,78,80,82,84,86,88,90,92,94,96,66,68,70,72,74,76,78,80,82,84,86,88,884826,116,66,68,70,66,68,70,72,74,76,78,80,82,884820,110,112,61,66,66,68,70,72,74,163916,80,82,884820,110,63,66,66,163908,72,74,884812,102,65,66,66,884804,94,66,884804,94],4224,none,6,2147820284927⟩,c219,0⟩
theorem y219:FCOk DI Tryz.prog x219:=⟨by kernel_rfl,by kernel_rfl⟩
noncomputable def x220:FC:=⟨220,Tryz.f220,⟨lyD [229379,9,11,13,15,17,19,21,44,46,48,44,46,48,50,44,23,25,27,29,44,491566,44,46,48,50,52,54,56,58,60,44,46,48,50,52,54,56,58,60,62,64,66,68,70,72,360479,41,43,44,44,46,48,50,52,44,44,44,46],2816,none,6,16383⟩,c220,0⟩
theorem y220:FCOk DI Tryz.prog x220:=⟨by kernel_rfl,by kernel_rfl⟩
noncomputable def x221:FC:=⟨221,Tryz.f221,⟨lyD [3,5,7,9,11,12,14,12,14,16,18,20,22,65560],768,none,6,3⟩,c221,0⟩
theorem y221:FCOk DI Tryz.prog x221:=⟨by kernel_rfl,by kernel_rfl⟩
noncomputable def x222:FC:=⟨222,Tryz.f222,⟨lyD [229379,229385,15,17,19,229396,229402,32,34],1280,none,6,3⟩,c222,0⟩
theorem y222:FCOk DI Tryz.prog x222:=⟨by kernel_rfl,by kernel_rfl⟩
noncomputable def x223:FC:=⟨223,Tryz.f223,⟨lyD [3,5,7,9,11,13,15,17,19,21,23,25,27,29,31,33,35,37,39,41,43,60,62,64,60,45,60,62,64,66,65604,60,47,60,62,64,66,65604,60,49,60,62,64,66,65604,60,62,16908360,60,62,64,66,16908356,76,78,60,51,60,62,64,66,65604,60,62,64,66,68,70,60,62,64,66,68,70,72,53,60,62,64,66,55,60,62,64,66,68,70,72,74,491596,90,92,94,491616,110,112,114,57,60,62,64,66,68,70,60,16908362,60,62,64,66,68,16908358,78,80,60,60,62,64,66,68,70,60,62,60,62,59,60,62,64,60,62,64,66,68,65606,60,62,60,62,64,60,62,64,66,68,70,65608,60],3840,none,6,31⟩,c223,0⟩
theorem y223:FCOk DI Tryz.prog x223:=⟨by kernel_rfl,by kernel_rfl⟩
noncomputable def x224:FC:=⟨224,Tryz.f224,⟨lyD [3,5,7,8,10,12,8,10],512,none,6,5⟩,c224,0⟩
theorem y224:FCOk DI Tryz.prog x224:=⟨by kernel_rfl,by kernel_rfl⟩
noncomputable def x225:FC:=⟨225,Tryz.f225,⟨lyD [491523,17,19,22,21],1408,none,6,15⟩,c225,0⟩
theorem y225:FCOk DI Tryz.prog x225:=⟨by kernel_rfl,by kernel_rfl⟩
noncomputable def x226:FC:=⟨226,Tryz.f226,⟨lyD [3,5,7,9,11,13,15,17,19,21,24,26,24,26,23,24,24,24],1536,none,6,511⟩,c226,0⟩
theorem y226:FCOk DI Tryz.prog x226:=⟨by kernel_rfl,by kernel_rfl⟩
noncomputable def x227:FC:=⟨227,Tryz.f227,⟨lyD [3,5,7,9,11,13,15,26,28,26,28,17,19,21,26,28,23,26,28,25],1664,none,6,16015⟩,c227,0⟩
theorem y227:FCOk DI Tryz.prog x227:=⟨by kernel_rfl,by kernel_rfl⟩
noncomputable def x228:FC:=⟨228,Tryz.f228,⟨lyD [3,5,7,9,11,13,15,26,28,26,28,17,19,21,26,28,23,26,28,25],1664,none,6,16015⟩,c228,0⟩
theorem y228:FCOk DI Tryz.prog x228:=⟨by kernel_rfl,by kernel_rfl⟩
noncomputable def x229:FC:=⟨229,Tryz.f229,⟨lyD [3,5,7,9,11,13,15,26,28,26,28,17,19,21,26,28,23,26,28,25],1664,none,6,16015⟩,c229,0⟩
theorem y229:FCOk DI Tryz.prog x229:=⟨by kernel_rfl,by kernel_rfl⟩
noncomputable def x230:FC:=⟨230,Tryz.f230,⟨lyD [3,5,7,9,11,13,15,26,28,26,28,17,19,21,26,28,23,26,28,25],1664,none,6,16015⟩,c230,0⟩
theorem y230:FCOk DI Tryz.prog x230:=⟨by kernel_rfl,by kernel_rfl⟩
noncomputable def x231:FC:=⟨231,Tryz.f231,⟨lyD [3,5,7,9,11,12,14,16,18],768,none,6,3⟩,c231,0⟩
theorem y231:FCOk DI Tryz.prog x231:=⟨by kernel_rfl,by kernel_rfl⟩
noncomputable def x232:FC:=⟨232,Tryz.f232,⟨lyD [491523,17,19,21,491542,491556,50],1408,none,6,3⟩,c232,0⟩
theorem y232:FCOk DI Tryz.prog x232:=⟨by kernel_rfl,by kernel_rfl⟩
noncomputable def x233:FC:=⟨233,Tryz.f233,⟨lyD [491523,491537,31,33,35,40,42,37,491560,491574,68,70,72,74,76,78,80,39,40,42,44,46,48,50,52,54,56,58,60,62,64,66,68,70,72,74,76,78,80,82],2560,none,6,59⟩,c233,0⟩
theorem y233:FCOk DI Tryz.prog x233:=⟨by kernel_rfl,by kernel_rfl⟩
end
end Go.Proofs.YtfkcmflhiccmkaaGreatDoor.VM
