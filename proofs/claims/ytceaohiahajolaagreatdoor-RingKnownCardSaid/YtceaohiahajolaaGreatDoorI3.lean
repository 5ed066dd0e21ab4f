/-
  The program's functions, each checked, part 3. No conditions.
-/
import Derived.Test.YtceaohiahajolaaGreatDoorI1
set_option linter.all false
set_option linter.unusedVariables false
set_option linter.unusedSimpArgs false
namespace Go.Proofs.YtceaohiahajolaaGreatDoor.VM
open Go Go.RowKit
noncomputable section
set_option maxRecDepth 1000000
noncomputable def x240:FC:=⟨240,Tryz.f240,⟨lyR [3,10,38,13,23,1,38,2,38,7,38,3,360492,1,38,2,25,1,38,4,27,1,38,3,65580,1,38,5,29,1,38,3,65580,1,38,11,38,11,360508,1,70,4,38,4,31,1,38,3,65580,1,38,11,33,1,38,3,65580,1,38,11,38,7,163892,1,56,4,38,4,35,1,38,2,38,9,38,9,37,1,38,7,65588,1,38,11,38,11,38,10],2432,none,3,125787519⟩,c240,0⟩
theorem y240:FcI x240:=⟨by kernel_rfl,by kernel_rfl⟩
noncomputable def x241:FC:=⟨241,Tryz.f241,⟨lyR [3,10,72,1,23,1,30,6,360490,1,30,7,360492,1,54,1,30,8,30,10,25,1,30,2,17170488,1,30,9,17170480,1,229440,1,70,1,27,1,30,6,65578,1,30,13,65592,1,30,7,30,4,29,1,30,5,65576,1],1920,none,3,7935⟩,c241,0⟩
theorem y241:FcI x241:=⟨by kernel_rfl,by kernel_rfl⟩
noncomputable def x242:FC:=⟨242,Tryz.f242,⟨lyR [163843,1,7,8,24,8,23,1,24,2,24,1,163866,1,30,15,24,1],1536,none,3,127⟩,c242,0⟩
theorem y242:FcI x242:=⟨by kernel_rfl,by kernel_rfl⟩
noncomputable def x244:FC:=⟨244,Tryz.f244,⟨lyR [3,1,491525,1,19,9,48,1,48,3,37,1,48,2,48,3,491574,1,48,18,39,1,48,1,48,3,41,1,48,2,48,3,491574,1,48,3,491574,1,491588,1,82,1,43,1,48,1,491570,1,64,2,48,14,229452,1,82,1,229460,1,90,1,45,1,48,7,48,7,48,1,491570,1,64,2,48,1,47,1,48,1,491570,1,64,2,48,1],3072,none,3,33553919⟩,c244,0⟩
theorem y244:FcI x244:=⟨by kernel_rfl,by kernel_rfl⟩
noncomputable def x246:FC:=⟨246,Tryz.f246,⟨lyR [491523,1,491537,1,31,6,50,13,50,13,50,1,43,1,50,2,50,1,45,1,50,2,50,1,47,1,50,2,50,8,49,1,50,9],3200,none,3,8191⟩,c246,0⟩
theorem y246:FcI x246:=⟨by kernel_rfl,by kernel_rfl⟩
noncomputable def x248:FC:=⟨248,Tryz.f248,⟨lyR [3,5,12,3],768,none,3,3⟩,c248,0⟩
theorem y248:FcI x248:=⟨by kernel_rfl,by kernel_rfl⟩
noncomputable def x249:FC:=⟨249,Tryz.f249,⟨lyR [3,5,12,5],768,none,3,3⟩,c249,0⟩
theorem y249:FcI x249:=⟨by kernel_rfl,by kernel_rfl⟩
noncomputable def x254:FC:=⟨254,Tryz.f254,⟨lyR [3,6,16,1,360466,1,16,3,15,1,16,1,65554,1,16,8,360464,1],1024,none,3,55⟩,c254,0⟩
theorem y254:FcI x254:=⟨by kernel_rfl,by kernel_rfl⟩
noncomputable def x255:FC:=⟨255,Tryz.f255,⟨lyR [3,3,8,2,65548,1],512,none,3,3⟩,c255,0⟩
theorem y255:FcI x255:=⟨by kernel_rfl,by kernel_rfl⟩
noncomputable def x256:FC:=⟨256,Tryz.f256,⟨lyR [3,8,24,3,19,1,24,1,65562,1,24,4,21,1,24,1,65562,1,24,7,24,2,65564,1,24,1,65562,1,24,1,23,1,24,2,65564,1,24,7],1536,none,3,1013⟩,c256,0⟩
theorem y256:FcI x256:=⟨by kernel_rfl,by kernel_rfl⟩
noncomputable def x257:FC:=⟨257,Tryz.f257,⟨lyR [3,2,8,2,7,1,8,2,65548,1],512,none,3,3⟩,c257,0⟩
theorem y257:FcI x257:=⟨by kernel_rfl,by kernel_rfl⟩
noncomputable def x258:FC:=⟨258,Tryz.f258,⟨lyR [3,7,17104936,1,20,1,360470,1,32,1,17104930,1,163886,1,50,1,20,4,360476,1,38,2,17,1,20,1,65558,1,20,5,20,8,20,4,65564,1,20,7,19,1,20,1,65558,1],1280,none,3,251⟩,c258,0⟩
theorem y258:FcI x258:=⟨by kernel_rfl,by kernel_rfl⟩
noncomputable def x259:FC:=⟨259,Tryz.f259,⟨lyR [3,6,22,1,15,3,22,1,22,4,294942,1,21,1,22,1,22,1],1408,none,3,63⟩,c259,0⟩
theorem y259:FcI x259:=⟨by kernel_rfl,by kernel_rfl⟩
noncomputable def x260:FC:=⟨260,Tryz.f260,⟨lyR [3,3,8,6],512,none,3,3⟩,c260,0⟩
theorem y260:FcI x260:=⟨by kernel_rfl,by kernel_rfl⟩
noncomputable def x261:FC:=⟨261,Tryz.f261,⟨lyR [3,3,8,1],512,none,3,3⟩,c261,0⟩
theorem y261:FcI x261:=⟨by kernel_rfl,by kernel_rfl⟩
noncomputable def x262:FC:=⟨262,Tryz.f262,⟨lyR [3,3,8,6],512,none,3,3⟩,c262,0⟩
theorem y262:FcI x262:=⟨by kernel_rfl,by kernel_rfl⟩
noncomputable def x263:FC:=⟨263,Tryz.f263,⟨lyR [3,3,8,6],512,none,3,3⟩,c263,0⟩
theorem y263:FcI x263:=⟨by kernel_rfl,by kernel_rfl⟩
noncomputable def x264:FC:=⟨264,Tryz.f264,⟨lyR [3,4,14,3,14,1,11,1,14,2,14,7,13,1],896,none,3,15⟩,c264,0⟩
theorem y264:FcI x264:=⟨by kernel_rfl,by kernel_rfl⟩
noncomputable def x265:FC:=⟨265,Tryz.f265,⟨lyR [3,9,34,2,360486,1,34,1,21,2,34,1,17104942,1,34,3,17104936,1,163892,1,56,1,34,3,65576,1,34,11,25,1,34,1,34,3,34,1,27,4,34,2,34,2,65574,1,34,1],2176,none,3,8191⟩,c265,0⟩
theorem y265:FcI x265:=⟨by kernel_rfl,by kernel_rfl⟩
noncomputable def x266:FC:=⟨266,Tryz.f266,⟨lyR [3,8,16908340,1,18,9,360484,1,46,1,16908336,1,56,2,18,3,65560,1,18,10],1152,none,3,7⟩,c266,0⟩
theorem y266:FcI x266:=⟨by kernel_rfl,by kernel_rfl⟩
noncomputable def x267:FC:=⟨267,Tryz.f267,⟨lyR [3,7,16908332,1,16,6,360476,1,38,1,16908328,1,48,2,16,3,65558,1,16,10,16,1],1024,none,3,31⟩,c267,0⟩
theorem y267:FcI x267:=⟨by kernel_rfl,by kernel_rfl⟩
noncomputable def x269:FC:=⟨269,Tryz.f269,⟨lyR [3,6,17104936,1,16,3,360470,1,32,1,17104930,1,163886,1,50,1,16,1,15,1,16,2,65556,1,16,5,65562,1,16,11],1024,none,3,31⟩,c269,0⟩
theorem y269:FcI x269:=⟨by kernel_rfl,by kernel_rfl⟩
noncomputable def x270:FC:=⟨270,Tryz.f270,⟨lyR [3,3,8,3,294926,1,22,5],512,none,3,3⟩,c270,0⟩
theorem y270:FcI x270:=⟨by kernel_rfl,by kernel_rfl⟩
noncomputable def x271:FC:=⟨271,Tryz.f271,⟨lyR [3,3,8,2],512,none,3,3⟩,c271,0⟩
theorem y271:FcI x271:=⟨by kernel_rfl,by kernel_rfl⟩
noncomputable def x275:FC:=⟨275,Tryz.f275,⟨lyR [3,9,24,1,21,1,24,1,23,1,24,5,24,2,24,3,65566,1,24,4,16908322,1,24,3,16908318,1,38,2,24,1],1536,none,3,15⟩,c275,0⟩
theorem y275:FcI x275:=⟨by kernel_rfl,by kernel_rfl⟩
noncomputable def x276:FC:=⟨276,Tryz.f276,⟨lyR [491523,1,491537,1,31,3,36,5],2304,none,3,3⟩,c276,0⟩
theorem y276:FcI x276:=⟨by kernel_rfl,by kernel_rfl⟩
noncomputable def x277:FC:=⟨277,Tryz.f277,⟨lyR [491523,1,491537,1,31,3,36,7],2304,none,3,3⟩,c277,0⟩
theorem y277:FcI x277:=⟨by kernel_rfl,by kernel_rfl⟩
noncomputable def x278:FC:=⟨278,Tryz.f278,⟨lyR [491523,1,491537,1,31,3,36,7],2304,none,3,3⟩,c278,0⟩
theorem y278:FcI x278:=⟨by kernel_rfl,by kernel_rfl⟩
noncomputable def x279:FC:=⟨279,Tryz.f279,⟨lyR [3,7,26,2,26,2,17,3,26,2,23,1,26,2,25,1],1664,none,3,10895⟩,c279,0⟩
theorem y279:FcI x279:=⟨by kernel_rfl,by kernel_rfl⟩
noncomputable def x280:FC:=⟨280,Tryz.f280,⟨lyR [491523,1,491537,1,31,3,36,7],2304,none,3,3⟩,c280,0⟩
theorem y280:FcI x280:=⟨by kernel_rfl,by kernel_rfl⟩
noncomputable def x281:FC:=⟨281,Tryz.f281,⟨lyR [491523,1,491537,1,31,3,36,7],2304,none,3,3⟩,c281,0⟩
theorem y281:FcI x281:=⟨by kernel_rfl,by kernel_rfl⟩
noncomputable def x282:FC:=⟨282,Tryz.f282,⟨lyR [3,7,26,2,26,2,17,3,26,2,23,1,26,2,25,1],1664,none,3,16015⟩,c282,0⟩
theorem y282:FcI x282:=⟨by kernel_rfl,by kernel_rfl⟩
noncomputable def x291:FC:=⟨291,Tryz.f291,⟨lyR [3,7,22,3,17,1,22,2,22,7,19,1,22,2,22,19,21,1,22,3,22,1],1408,none,3,1787⟩,c291,0⟩
theorem y291:FcI x291:=⟨by kernel_rfl,by kernel_rfl⟩
noncomputable def x292:FC:=⟨292,Tryz.f292,⟨lyR [360451,1,13,4,26,43,26,1,21,2,26,1,26,1,26,1,26,1,25,1,26,1,26,24],1664,none,3,4095⟩,c292,0⟩
theorem y292:FcI x292:=⟨by kernel_rfl,by kernel_rfl⟩
noncomputable def x293:FC:=⟨293,Tryz.f293,⟨lyR [3,8,52,1,52,3,19,1,52,2,52,11,21,2,52,1,52,7,25,1,52,1,52,3,27,1,52,1,52,2,29,1,52,1,52,2,31,1,52,1,52,3,33,1,52,1,52,3,35,1,52,1,52,13,37,1,52,1,52,3,39,1,52,1,52,3,41,1,52,1,52,3,43,1,52,1,52,8,45,1,52,1,52,8,47,1,52,1,52,3,49,1,52,1,52,1,52,1,52,1,52,3,51,1,52,1,52,1,52,1,52,3,52,3],3328,none,3,26365709516671⟩,c293,0⟩
theorem y293:FcI x293:=⟨by kernel_rfl,by kernel_rfl⟩
noncomputable def x294:FC:=⟨294,Tryz.f294,⟨lyR [3,1,360453,1,15,5,26,4,25,1,26,2,26,12,26,1],1664,none,3,127⟩,c294,0⟩
theorem y294:FcI x294:=⟨by kernel_rfl,by kernel_rfl⟩
noncomputable def x295:FC:=⟨295,Tryz.f295,⟨lyR [3,6,18,6,15,1,18,2,18,9,17,1,18,1],1152,none,3,95⟩,c295,0⟩
theorem y295:FcI x295:=⟨by kernel_rfl,by kernel_rfl⟩
end
end Go.Proofs.YtceaohiahajolaaGreatDoor.VM
namespace Go.Proofs.YtceaohiahajolaaGreatDoor.VM
open Go Go.RowKit
noncomputable section
set_option maxRecDepth 1000000
noncomputable def x297:FC:=⟨297,Tryz.f297,⟨lyR [3,6,18,6,15,1,18,2,18,9,17,1,18,1],1152,none,3,127⟩,c297,0⟩
theorem y297:FcI x297:=⟨by kernel_rfl,by kernel_rfl⟩
noncomputable def x298:FC:=⟨298,Tryz.f298,⟨lyR [3,8,22,14,19,1,22,2,22,12,21,1,22,1],1408,none,3,127⟩,c298,0⟩
theorem y298:FcI x298:=⟨by kernel_rfl,by kernel_rfl⟩
noncomputable def x299:FC:=⟨299,Tryz.f299,⟨lyR [3,7,20,6,20,1,17,1,20,2,20,9,19,1,20,6,229408,1,229396,1],1280,none,3,127⟩,c299,0⟩
theorem y299:FcI x299:=⟨by kernel_rfl,by kernel_rfl⟩
noncomputable def x300:FC:=⟨300,Tryz.f300,⟨lyR [3,8,20,8,19,1,20,9,65574,1,20,17,20,15,229426,1,56,4,20,16],1280,none,3,29⟩,c300,0⟩
theorem y300:FcI x300:=⟨by kernel_rfl,by kernel_rfl⟩
noncomputable def x301:FC:=⟨301,Tryz.f301,⟨lyR [3,6,18,5,18,10,15,1,18,2,18,7,17,1,18,13,65580,1,18,9],1152,none,3,127⟩,c301,0⟩
theorem y301:FcI x301:=⟨by kernel_rfl,by kernel_rfl⟩
noncomputable def x302:FC:=⟨302,Tryz.f302,⟨lyR [163843,1,7,15,66,4,360522,1,66,2,66,5,66,1,37,2,66,1,163906,1,70,15,163940,1,104,14,884868,1,158,2,41,1,66,1,163906,1,70,12,163934,1,98,10,163958,1,122,3,884864,1,154,2,43,1,66,1,163906,1,70,12,163934,1,98,4,163946,1,110,3,884852,1,142,2,45,1,66,1,163906,1,70,12,163934,1,98,4,884842,1,132,2,47,1,66,1,66,7,884816,1,106,17,884876,1,166,1,49,1,66,1,66,2,51,1,66,8,884818,1,108,1,53,1,66,1,66,7,884816,1,66,8,55,1,66,1,163906,1,70,5,884802,1,92,1,57,1,66,1,163906,1,70,3,59,1,66,1,163906,1,70,6,66,16,66,12,884826,1,116,1,66,3,66,9,884820,1,110,2,61,1,66,1,66,5,163916,1,80,2,884820,1,110,1,63,1,66,1,66,1,163908,1,72,2,884812,1,102,1,65,1,66,1,66,1,884804,1,94,1,66,1,884804,1,94,1],4224,none,3,1460626516991⟩,c302,0⟩
theorem y302:FcI x302:=⟨by kernel_rfl,by kernel_rfl⟩
noncomputable def x305:FC:=⟨305,Tryz.f305,⟨lyR [3,7,16,1,163858,1,163862,1,163866,1,163870,1,163874,1,163878,1,163882,1,163886,1,163890,1,163894,1,163898,1,163902,1,163906,1,70,1,17104922,1,16,2,17104916,1,163872,1,36,1,163856,1,20,1],1024,none,3,15⟩,c305,0⟩
theorem y305:FcI x305:=⟨by kernel_rfl,by kernel_rfl⟩
noncomputable def x306:FC:=⟨306,Tryz.f306,⟨lyR [3,4,10,3],640,none,3,3⟩,c306,0⟩
theorem y306:FcI x306:=⟨by kernel_rfl,by kernel_rfl⟩
noncomputable def x307:FC:=⟨307,Tryz.f307,⟨lyR [3,5,12,6],768,none,3,3⟩,c307,0⟩
theorem y307:FcI x307:=⟨by kernel_rfl,by kernel_rfl⟩
noncomputable def x308:FC:=⟨308,Tryz.f308,⟨lyR [3,3,10,1,9,1,10,4,10,6],640,none,3,7⟩,c308,0⟩
theorem y308:FcI x308:=⟨by kernel_rfl,by kernel_rfl⟩
noncomputable def x312:FC:=⟨312,Tryz.f312,⟨lyR [3,3,8,3],512,none,3,3⟩,c312,0⟩
theorem y312:FcI x312:=⟨by kernel_rfl,by kernel_rfl⟩
noncomputable def x313:FC:=⟨313,Tryz.f313,⟨lyR [3,3,8,3],512,none,3,3⟩,c313,0⟩
theorem y313:FcI x313:=⟨by kernel_rfl,by kernel_rfl⟩
noncomputable def x316:FC:=⟨316,Tryz.f316,⟨lyR [3,4,14,3,11,1,14,2,14,21,13,1,14,3],896,none,3,95⟩,c316,0⟩
theorem y316:FcI x316:=⟨by kernel_rfl,by kernel_rfl⟩
noncomputable def x317:FC:=⟨317,Tryz.f317,⟨lyR [3,8,22,1,22,3,19,1,22,2,22,33,21,1],1408,none,3,95⟩,c317,0⟩
theorem y317:FcI x317:=⟨by kernel_rfl,by kernel_rfl⟩
noncomputable def x318:FC:=⟨318,Tryz.f318,⟨lyR [3,6,20,4,15,1,20,3,17,1,20,2,20,30,19,1],1280,none,3,379⟩,c318,0⟩
theorem y318:FcI x318:=⟨by kernel_rfl,by kernel_rfl⟩
noncomputable def x319:FC:=⟨319,Tryz.f319,⟨lyR [3,13,98,1,29,2,68,6,360528,1,68,2,68,1,33,2,68,1,68,1,68,5,68,21,68,2,37,1,68,2,65608,1,68,4,65612,1,39,1,68,1,68,20,68,10,68,19,41,1,68,9,65622,1,68,5,68,3,43,1,68,2,68,5,65614,1,45,1,68,1,68,5,47,1,68,1,68,20,68,21,68,2,65608,1,49,1,68,1,68,1,68,10,51,1,68,5,68,20,53,1,68,1,68,4,65612,1,68,4,65612,1,68,3,55,1,68,2,68,5,65614,1,57,1,68,1,17170514,1,68,3,17170506,1,229466,1,96,1,59,1,68,9,65622,1,68,5,68,4,65612,1,68,4,65612,1,68,9,61,1,68,1,68,4,65612,1,68,2,65608,1,63,1,68,1,68,4,65612,1,65,1,68,1,68,5,67,1,68,9,65622,1],4352,none,3,7388996771514367⟩,c319,0⟩
theorem y319:FcI x319:=⟨by kernel_rfl,by kernel_rfl⟩
noncomputable def x320:FC:=⟨320,Tryz.f320,⟨lyR [163843,1,7,12,30,8,30,3,884772,1,62,3,163908,1,72,2,884812,1,102,1],1920,none,3,127⟩,c320,0⟩
theorem y320:FcI x320:=⟨by kernel_rfl,by kernel_rfl⟩
noncomputable def x321:FC:=⟨321,Tryz.f321,⟨lyR [163843,1,7,4,163854,1,18,9],896,none,3,3⟩,c321,0⟩
theorem y321:FcI x321:=⟨by kernel_rfl,by kernel_rfl⟩
noncomputable def x322:FC:=⟨322,Tryz.f322,⟨lyR [163843,1,7,6,20,3,19,1,20,2,20,1,163862,1,26,7,20,1],1280,none,3,127⟩,c322,0⟩
theorem y322:FcI x322:=⟨by kernel_rfl,by kernel_rfl⟩
noncomputable def x324:FC:=⟨324,Tryz.f324,⟨lyR [3,4,12,2,65552,1,12,1,65550,1,12,2,65552,1,12,1,11,1,12,1,65550,1,12,2,65552,1],768,none,3,15⟩,c324,0⟩
theorem y324:FcI x324:=⟨by kernel_rfl,by kernel_rfl⟩
noncomputable def x325:FC:=⟨325,Tryz.f325,⟨lyR [3,4,10,2,65550,1,10,1,65548,1,10,2,65550,1],640,none,3,7⟩,c325,0⟩
theorem y325:FcI x325:=⟨by kernel_rfl,by kernel_rfl⟩
noncomputable def x327:FC:=⟨327,Tryz.f327,⟨lyR [3,4,10,8],640,none,3,1⟩,c327,0⟩
theorem y327:FcI x327:=⟨by kernel_rfl,by kernel_rfl⟩
noncomputable def x328:FC:=⟨328,Tryz.f328,⟨lyR [3,4,10,2,65550,1,10,1,65548,1,10,2,65550,1,10,1,65548,1,10,2,65550,1],640,none,3,31⟩,c328,0⟩
theorem y328:FcI x328:=⟨by kernel_rfl,by kernel_rfl⟩
noncomputable def x329:FC:=⟨329,Tryz.f329,⟨lyR [3,4,12,2,65552,1,12,1,11,1,12,2,65552,1,12,1,65550,1],768,none,3,15⟩,c329,0⟩
theorem y329:FcI x329:=⟨by kernel_rfl,by kernel_rfl⟩
noncomputable def x334:FC:=⟨334,Tryz.f334,⟨lyR [3,4,10,3,426000,1,65564,1],640,none,3,1⟩,c334,0⟩
theorem y334:FcI x334:=⟨by kernel_rfl,by kernel_rfl⟩
noncomputable def x335:FC:=⟨335,Tryz.f335,⟨lyR [3,4],640,none,3,0⟩,c335,0⟩
theorem y335:FcI x335:=⟨by kernel_rfl,by kernel_rfl⟩
noncomputable def x341:FC:=⟨341,Tryz.f341,⟨lyR [3,3,8,6],512,none,3,3⟩,c341,0⟩
theorem y341:FcI x341:=⟨by kernel_rfl,by kernel_rfl⟩
noncomputable def x343:FC:=⟨343,Tryz.f343,⟨lyR [3,3,8,6],512,none,3,3⟩,c343,0⟩
theorem y343:FcI x343:=⟨by kernel_rfl,by kernel_rfl⟩
noncomputable def x344:FC:=⟨344,Tryz.f344,⟨lyR [3,3,8,6],512,none,3,3⟩,c344,0⟩
theorem y344:FcI x344:=⟨by kernel_rfl,by kernel_rfl⟩
noncomputable def x345:FC:=⟨345,Tryz.f345,⟨lyR [3,6,14,16,14,11,65572,1,14,1],896,none,3,15⟩,c345,0⟩
theorem y345:FcI x345:=⟨by kernel_rfl,by kernel_rfl⟩
noncomputable def x346:FC:=⟨346,Tryz.f346,⟨lyR [3,7,18,1,17,1,18,9,65572,1,18,10,18,1],1152,none,3,27⟩,c346,0⟩
theorem y346:FcI x346:=⟨by kernel_rfl,by kernel_rfl⟩
noncomputable def x347:FC:=⟨347,Tryz.f347,⟨lyR [3,6,17170476,1,18,9,17170468,1,229428,1,58,1,18,1,15,1,18,10,65574,1,18,1,17,1,18,9,65572,1,18,11],1152,none,3,47⟩,c347,0⟩
theorem y347:FcI x347:=⟨by kernel_rfl,by kernel_rfl⟩
noncomputable def x348:FC:=⟨348,Tryz.f348,⟨lyR [3,8,24,6,360484,1,24,2,19,1,17170470,1,24,3,17170462,1,229422,1,52,1,24,1,21,1,24,1,24,5,24,4,23,1,24,2,24,6,65572,1],1536,none,3,239⟩,c348,0⟩
theorem y348:FcI x348:=⟨by kernel_rfl,by kernel_rfl⟩
noncomputable def x349:FC:=⟨349,Tryz.f349,⟨lyR [163843,1,7,7,30,4,360486,1,30,4,21,1,30,2,30,1,163872,1,36,7,30,1,23,2,30,1,30,2,229410,1,40,1,27,1,30,1,30,8,229422,1,52,1,29,1,30,1,30,1,30,1,30,1,30,4,229414,1,44,2],1920,none,3,3999⟩,c349,0⟩
theorem y349:FcI x349:=⟨by kernel_rfl,by kernel_rfl⟩
noncomputable def x350:FC:=⟨350,Tryz.f350,⟨lyR [3,4,10,2,65550,1,10,1,65548,1,10,2,65550,1],640,none,3,7⟩,c350,0⟩
theorem y350:FcI x350:=⟨by kernel_rfl,by kernel_rfl⟩
noncomputable def x351:FC:=⟨351,Tryz.f351,⟨lyR [3,4,10,2,65550,1],640,none,3,3⟩,c351,0⟩
theorem y351:FcI x351:=⟨by kernel_rfl,by kernel_rfl⟩
noncomputable def x353:FC:=⟨353,Tryz.f353,⟨lyR [3,2,425991,1,19,6,38,5,38,18,38,6,360498,1,60,4,38,1,31,4,38,1,426024,1,38,2,426026,1,65590,1,38,1],2432,none,3,63⟩,c353,0⟩
theorem y353:FcI x353:=⟨by kernel_rfl,by kernel_rfl⟩
noncomputable def x354:FC:=⟨354,Tryz.f354,⟨lyR [3,3,8,4,426000,1],512,none,3,3⟩,c354,0⟩
theorem y354:FcI x354:=⟨by kernel_rfl,by kernel_rfl⟩
noncomputable def x357:FC:=⟨357,Tryz.f357,⟨lyR [3,2,6,2,65546,1],384,none,3,1⟩,c357,0⟩
theorem y357:FcI x357:=⟨by kernel_rfl,by kernel_rfl⟩
noncomputable def x359:FC:=⟨359,Tryz.f359,⟨lyR [3,13,38,1,426024,1,29,4,38,3,38,6,37,1,38,1,426024,1,38,4,360494,1,426040,1,426052,1,80,1,426066,1,38,1,426022,1],2432,none,3,831⟩,c359,0⟩
theorem y359:FcI x359:=⟨by kernel_rfl,by kernel_rfl⟩
noncomputable def x360:FC:=⟨360,Tryz.f360,⟨lyR [3,3,8,4,426000,1],512,none,3,3⟩,c360,0⟩
theorem y360:FcI x360:=⟨by kernel_rfl,by kernel_rfl⟩
noncomputable def x361:FC:=⟨361,Tryz.f361,⟨lyR [3,4,16,1,360466,1,16,4,16,2,65556,1,11,1,16,3,16,1,360466,1,28,5,13,1,16,3,16,1,360466,1,28,5,15,1,16,2,16,2,16,2,65556,1,426000,1],1024,none,3,2295⟩,c361,0⟩
theorem y361:FcI x361:=⟨by kernel_rfl,by kernel_rfl⟩
end
end Go.Proofs.YtceaohiahajolaaGreatDoor.VM
