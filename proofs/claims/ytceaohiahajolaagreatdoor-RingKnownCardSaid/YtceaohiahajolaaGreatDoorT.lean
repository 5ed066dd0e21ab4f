/-
  The tables are the program's. No conditions.
-/
import Derived.Test.YtceaohiahajolaaGreatDoorI1
import Derived.Test.YtceaohiahajolaaGreatDoorI2
import Derived.Test.YtceaohiahajolaaGreatDoorI3
import Derived.Test.YtceaohiahajolaaGreatDoorProg
import Derived.Test.YtceaohiahajolaaGreatDoorS4
import Derived.Shelf.Spec.SlicesInsert
import Derived.Lib.AppendZerosOnto
import Derived.Laws.NewBlocks
set_option linter.all false
set_option linter.unusedVariables false
set_option linter.unusedSimpArgs false
namespace Go.Proofs.YtceaohiahajolaaGreatDoor.VM
open Go Go.RowKit
noncomputable section
set_option maxRecDepth 1000000
abbrev el0:List Nat:=[3,4,5,6,7,8,9,10,11,12,13,14,15,16,17,18,19,20,21,22,23,24,25,26,27,28,29,30,31,32,33,34,35,36,37,38,39,40,41,42]
theorem ea0:∀ f∈el0,EntP Tryz.prog f:=cc Tryz.call3 ( cc Tryz.call4 ( cc Tryz.call5 ( cc Tryz.call6 ( cc Tryz.call7 ( cc Tryz.call8 ( cc Tryz.call9 ( cc Tryz.call10 ( cc Tryz.call11 ( cc Tryz.call12 ( cc Tryz.call13 ( cc Tryz.call14 ( cc Tryz.call15 ( cc Tryz.call16 ( cc Tryz.call17 ( cc Tryz.call18 ( cc Tryz.call19 ( cc Tryz.call20 ( cc Tryz.call21 ( cc Tryz.call22 ( cc Tryz.call23 ( cc Tryz.call24 ( cc Tryz.call25 ( cc Tryz.call26 ( cc Tryz.call27 ( cc Tryz.call28 ( cc Tryz.call29 ( cc Tryz.call30 ( cc Tryz.call31 ( cc Tryz.call32 ( cc Tryz.call33 ( cc Tryz.call34 ( cc Tryz.call35 ( cc Tryz.call36 ( cc Tryz.call37 ( cc Tryz.call38 ( cc Tryz.call39 ( cc Tryz.call40 ( cc Tryz.call41 ( cc Tryz.call42 ( c0))))))))))))))))))))))))))))))))))))))))
abbrev el1:List Nat:=[43,44,45,46,47,48,49,50,51,52,53,54,55,56,57,58,59,60,61,62,63,64,66,67,68,69,70,72,73,74,75,76,77,78,79,80,81,82,83,84]
theorem ea1:∀ f∈el1,EntP Tryz.prog f:=cc Tryz.call43 ( cc Tryz.call44 ( cc Tryz.call45 ( cc Tryz.call46 ( cc Tryz.call47 ( cc Tryz.call48 ( cc Tryz.call49 ( cc Tryz.call50 ( cc Tryz.call51 ( cc Tryz.call52 ( cc Tryz.call53 ( cc Tryz.call54 ( cc Tryz.call55 ( cc Tryz.call56 ( cc Tryz.call57 ( cc Tryz.call58 ( cc Tryz.call59 ( cc Tryz.call60 ( cc Tryz.call61 ( cc Tryz.call62 ( cc Tryz.call63 ( cc Tryz.call64 ( cc Tryz.call66 ( cc Tryz.call67 ( cc Tryz.call68 ( cc Tryz.call69 ( cc Tryz.call70 ( cc Tryz.call72 ( cc Tryz.call73 ( cc Tryz.call74 ( cc Tryz.call75 ( cc Tryz.call76 ( cc Tryz.call77 ( cc Tryz.call78 ( cc Tryz.call79 ( cc Tryz.call80 ( cc Tryz.call81 ( cc Tryz.call82 ( cc Tryz.call83 ( cc Tryz.call84 ( c0))))))))))))))))))))))))))))))))))))))))
abbrev el2:List Nat:=[85,86,87,88,89,90,91,92,93,94,95,96,97,98,99,100,101,102,103,104,105,106,107,108,109,110,111,112,113,114,115,116,117,118,119,120,121,122,123,124]
theorem ea2:∀ f∈el2,EntP Tryz.prog f:=cc Tryz.call85 ( cc Tryz.call86 ( cc Tryz.call87 ( cc Tryz.call88 ( cc Tryz.call89 ( cc Tryz.call90 ( cc Tryz.call91 ( cc Tryz.call92 ( cc Tryz.call93 ( cc Tryz.call94 ( cc Tryz.call95 ( cc Tryz.call96 ( cc Tryz.call97 ( cc Tryz.call98 ( cc Tryz.call99 ( cc Tryz.call100 ( cc Tryz.call101 ( cc Tryz.call102 ( cc Tryz.call103 ( cc Tryz.call104 ( cc Tryz.call105 ( cc Tryz.call106 ( cc Tryz.call107 ( cc Tryz.call108 ( cc Tryz.call109 ( cc Tryz.call110 ( cc Tryz.call111 ( cc Tryz.call112 ( cc Tryz.call113 ( cc Tryz.call114 ( cc Tryz.call115 ( cc Tryz.call116 ( cc Tryz.call117 ( cc Tryz.call118 ( cc Tryz.call119 ( cc Tryz.call120 ( cc Tryz.call121 ( cc Tryz.call122 ( cc Tryz.call123 ( cc Tryz.call124 ( c0))))))))))))))))))))))))))))))))))))))))
abbrev el3:List Nat:=[125,126,127,128,129,130,131,132,133,134,135,136,137,138,139,140,141,142,143,144,145,146,147,148,149,150,151,152,153,154,155,156,157,158,159,160,161,162,163,164]
theorem ea3:∀ f∈el3,EntP Tryz.prog f:=cc Tryz.call125 ( cc Tryz.call126 ( cc Tryz.call127 ( cc Tryz.call128 ( cc Tryz.call129 ( cc Tryz.call130 ( cc Tryz.call131 ( cc Tryz.call132 ( cc Tryz.call133 ( cc Tryz.call134 ( cc Tryz.call135 ( cc Tryz.call136 ( cc Tryz.call137 ( cc Tryz.call138 ( cc Tryz.call139 ( cc Tryz.call140 ( cc Tryz.call141 ( cc Tryz.call142 ( cc Tryz.call143 ( cc Tryz.call144 ( cc Tryz.call145 ( cc Tryz.call146 ( cc Tryz.call147 ( cc Tryz.call148 ( cc Tryz.call149 ( cc Tryz.call150 ( cc Tryz.call151 ( cc Tryz.call152 ( cc Tryz.call153 ( cc Tryz.call154 ( cc Tryz.call155 ( cc Tryz.call156 ( cc Tryz.call157 ( cc Tryz.call158 ( cc Tryz.call159 ( cc Tryz.call160 ( cc Tryz.call161 ( cc Tryz.call162 ( cc Tryz.call163 ( cc Tryz.call164 ( c0))))))))))))))))))))))))))))))))))))))))
abbrev el4:List Nat:=[165,166,167,168,169,170,171,172,173,174,175,176,177,178,179,180,181,182,183,184,185,187,188,189,190,191,192,193,194,195,196,197,198,199,200,201,202,203,204,205]
theorem ea4:∀ f∈el4,EntP Tryz.prog f:=cc Tryz.call165 ( cc Tryz.call166 ( cc Tryz.call167 ( cc Tryz.call168 ( cc Tryz.call169 ( cc Tryz.call170 ( cc Tryz.call171 ( cc Tryz.call172 ( cc Tryz.call173 ( cc Tryz.call174 ( cc Tryz.call175 ( cc Tryz.call176 ( cc Tryz.call177 ( cc Tryz.call178 ( cc Tryz.call179 ( cc Tryz.call180 ( cc Tryz.call181 ( cc Tryz.call182 ( cc Tryz.call183 ( cc Tryz.call184 ( cc Tryz.call185 ( cc Tryz.call187 ( cc Tryz.call188 ( cc Tryz.call189 ( cc Tryz.call190 ( cc Tryz.call191 ( cc Tryz.call192 ( cc Tryz.call193 ( cc Tryz.call194 ( cc Tryz.call195 ( cc Tryz.call196 ( cc Tryz.call197 ( cc Tryz.call198 ( cc Tryz.call199 ( cc Tryz.call200 ( cc Tryz.call201 ( cc Tryz.call202 ( cc Tryz.call203 ( cc Tryz.call204 ( cc Tryz.call205 ( c0))))))))))))))))))))))))))))))))))))))))
abbrev el5:List Nat:=[206,207,208,209,210,211,212,213,214,215,216,217,218,219,220,221,222,223,224,225,226,227,228,229,230,231,232,233,234,235,236,237,238,239,240,241,242,243,244,245]
theorem ea5:∀ f∈el5,EntP Tryz.prog f:=cc Tryz.call206 ( cc Tryz.call207 ( cc Tryz.call208 ( cc Tryz.call209 ( cc Tryz.call210 ( cc Tryz.call211 ( cc Tryz.call212 ( cc Tryz.call213 ( cc Tryz.call214 ( cc Tryz.call215 ( cc Tryz.call216 ( cc Tryz.call217 ( cc Tryz.call218 ( cc Tryz.call219 ( cc Tryz.call220 ( cc Tryz.call221 ( cc Tryz.call222 ( cc Tryz.call223 ( cc Tryz.call224 ( cc Tryz.call225 ( cc Tryz.call226 ( cc Tryz.call227 ( cc Tryz.call228 ( cc Tryz.call229 ( cc Tryz.call230 ( cc Tryz.call231 ( cc Tryz.call232 ( cc Tryz.call233 ( cc Tryz.call234 ( cc Tryz.call235 ( cc Tryz.call236 ( cc Tryz.call237 ( cc Tryz.call238 ( cc Tryz.call239 ( cc Tryz.call240 ( cc Tryz.call241 ( cc Tryz.call242 ( cc Tryz.call243 ( cc Tryz.call244 ( cc Tryz.call245 ( c0))))))))))))))))))))))))))))))))))))))))
abbrev el6:List Nat:=[246,248,249,250,252,253,254,255,256,257,258,259,260,261,262,263,264,265,266,267,268,269,270,271,272,273,274,275,276,277,278,279,280,281,282,284,285,286,287,288]
theorem ea6:∀ f∈el6,EntP Tryz.prog f:=cc Tryz.call246 ( cc Tryz.call248 ( cc Tryz.call249 ( cc Tryz.call250 ( cc Tryz.call252 ( cc Tryz.call253 ( cc Tryz.call254 ( cc Tryz.call255 ( cc Tryz.call256 ( cc Tryz.call257 ( cc Tryz.call258 ( cc Tryz.call259 ( cc Tryz.call260 ( cc Tryz.call261 ( cc Tryz.call262 ( cc Tryz.call263 ( cc Tryz.call264 ( cc Tryz.call265 ( cc Tryz.call266 ( cc Tryz.call267 ( cc Tryz.call268 ( cc Tryz.call269 ( cc Tryz.call270 ( cc Tryz.call271 ( cc Tryz.call272 ( cc Tryz.call273 ( cc Tryz.call274 ( cc Tryz.call275 ( cc Tryz.call276 ( cc Tryz.call277 ( cc Tryz.call278 ( cc Tryz.call279 ( cc Tryz.call280 ( cc Tryz.call281 ( cc Tryz.call282 ( cc Tryz.call284 ( cc Tryz.call285 ( cc Tryz.call286 ( cc Tryz.call287 ( cc Tryz.call288 ( c0))))))))))))))))))))))))))))))))))))))))
abbrev el7:List Nat:=[289,290,291,292,293,294,295,296,297,298,299,300,301,302,304,305,306,307,308,309,310,311,312,313,314,315,316,317,318,319,320,321,322,323,324,325,326,327,328,329]
theorem ea7:∀ f∈el7,EntP Tryz.prog f:=cc Tryz.call289 ( cc Tryz.call290 ( cc Tryz.call291 ( cc Tryz.call292 ( cc Tryz.call293 ( cc Tryz.call294 ( cc Tryz.call295 ( cc Tryz.call296 ( cc Tryz.call297 ( cc Tryz.call298 ( cc Tryz.call299 ( cc Tryz.call300 ( cc Tryz.call301 ( cc Tryz.call302 ( cc Tryz.call304 ( cc Tryz.call305 ( cc Tryz.call306 ( cc Tryz.call307 ( cc Tryz.call308 ( cc Tryz.call309 ( cc Tryz.call310 ( cc Tryz.call311 ( cc Tryz.call312 ( cc Tryz.call313 ( cc Tryz.call314 ( cc Tryz.call315 ( cc Tryz.call316 ( cc Tryz.call317 ( cc Tryz.call318 ( cc Tryz.call319 ( cc Tryz.call320 ( cc Tryz.call321 ( cc Tryz.call322 ( cc Tryz.call323 ( cc Tryz.call324 ( cc Tryz.call325 ( cc Tryz.call326 ( cc Tryz.call327 ( cc Tryz.call328 ( cc Tryz.call329 ( c0))))))))))))))))))))))))))))))))))))))))
abbrev el8:List Nat:=[330,331,332,333,334,335,336,337,338,339,340,341,342,343,344,345,346,347,348,349,350,351,352,353,354,355,356,357,358,359,360,361,362,363]
theorem ea8:∀ f∈el8,EntP Tryz.prog f:=cc Tryz.call330 ( cc Tryz.call331 ( cc Tryz.call332 ( cc Tryz.call333 ( cc Tryz.call334 ( cc Tryz.call335 ( cc Tryz.call336 ( cc Tryz.call337 ( cc Tryz.call338 ( cc Tryz.call339 ( cc Tryz.call340 ( cc Tryz.call341 ( cc Tryz.call342 ( cc Tryz.call343 ( cc Tryz.call344 ( cc Tryz.call345 ( cc Tryz.call346 ( cc Tryz.call347 ( cc Tryz.call348 ( cc Tryz.call349 ( cc Tryz.call350 ( cc Tryz.call351 ( cc Tryz.call352 ( cc Tryz.call353 ( cc Tryz.call354 ( cc Tryz.call355 ( cc Tryz.call356 ( cc Tryz.call357 ( cc Tryz.call358 ( cc Tryz.call359 ( cc Tryz.call360 ( cc Tryz.call361 ( cc Tryz.call362 ( cc Tryz.call363 ( c0))))))))))))))))))))))))))))))))))
noncomputable def eaL:List Nat:=el0++(el1++(el2++(el3++(el4++(el5++(el6++(el7++(el8))))))))
theorem eaA:∀ f∈eaL,EntP Tryz.prog f:=List.forall_mem_append.2 ⟨ea0,List.forall_mem_append.2 ⟨ea1,List.forall_mem_append.2 ⟨ea2,List.forall_mem_append.2 ⟨ea3,List.forall_mem_append.2 ⟨ea4,List.forall_mem_append.2 ⟨ea5,List.forall_mem_append.2 ⟨ea6,List.forall_mem_append.2 ⟨ea7,ea8⟩⟩⟩⟩⟩⟩⟩⟩
theorem eaC:entChk sgL eaL 0=true:=by kernel_rfl
theorem entI:∀ f s,DI.sig f=some s→EntP Tryz.prog f:=ent_of (L:=sgL) (N:=388) (Nat.le_of_eq (by kernel_rfl)) eaC eaA
theorem tyC:(List.range tyL.length).map (fun t=>(Tryz.prog.underlying t,Tryz.prog.info? t))=tyL.map fun e=>(some e.u,some e.i):=by kernel_rfl
theorem tyI:∀ t e,DI.ty t=some e→Tryz.prog.underlying t=some e.u∧Tryz.prog.info? t=some e.i:=ty_of (L:=tyL) (N:=440) tyC (Nat.le_of_eq (by kernel_rfl))
theorem mixI:Tryz.prog.follows .mixedOrders=true:=by kernel_rfl
noncomputable def enI:List En:=[.no,.no,.no,.fc x3,.fc x4,.fc x5,.fc x6,.fc x7,.fc x8,.fc x9,.fc x10,.fc x11,.fc x12,.fc x13,.fc x14,.fc x15,.fc x16,.fc x17,.fc x18,.fc x19,.fc x20,.fc x21,.fc x22,.fc x23,.fc x24,.fc x25,.fc x26,.fc x27,.fc x28,.fc x29,.fc x30,.fc x31,.fc x32,.fc x33,.fc x34,.fc x35,.fc x36,.fc x37,.fc x38,.fc x39,.fc x40,.fc x41,.fc x42,.fc x43,.fc x44,.fc x45,.fc x46,.fc x47,.fc x48,.fc x49,.fc x50,.fc x51,.fc x52,.fc x53,.fc x54,.fc x55,.fc x56,.fc x57,.fc x58,.fc x59,.fc x60,.fc x61,.fc x62,.fc x63,.fc x64,.id [.one,.one,.one,.one],.no,.fc x67,.fc x68,.fc x69,.fc x70,.id [.one,.one,.one],.fc x72,.fc x73,.fc x74,.fc x75,.fc x76,.fc x77,.fc x78,.fc x79,.fc x80,.fc x81,.fc x82,.fc x83,.fc x84,.fc x85,.fc x86,.fc x87,.fc x88,.fc x89,.fc x90,.fc x91,.fc x92,.fc x93,.fc x94,.fc x95,.fc x96,.fc x97,.fc x98,.fc x99,.fc x100,.fc x101,.fc x102,.fc x103,.fc x104,.fc x105,.fc x106,.fc x107,.fc x108,.fc x109,.fc x110,.fc x111,.no,.no,.fc x114,.fc x115,.fc x116,.fc x117,.fc x118,.no,.fc x120,.fc x121,.fc x122,.fc x123,.fc x124,.fc x125,.fc x126,.fc x127,.fc x128,.fc x129,.fc x130,.fc x131,.fc x132,.fc x133,.fc x134,.no,.no,.fc x137,.fc x138,.no,.no,.no,.no,.no,.no,.fc x145,.no,.fc x147,.fc x148,.fc x149,.fc x150,.fc x151,.no,.fc x153,.fc x154,.fc x155,.fc x156,.fc x157,.fc x158,.fc x159,.no,.fc x161,.no,.no,.no,.fc x165,.fc x166,.fc x167,.fc x168,.fc x169,.fc x170,.fc x171,.fc x172,.fc x173,.fc x174,.fc x175,.fc x176,.fc x177,.fc x178,.fc x179,.no,.hd ⟨[.one],.s .one⟩ 1 kindH,.fc x182,.fc x183,.fc x184,.no,.no,.no,.no,.fc x189,.fc x190,.fc x191,.fc x192,.fc x193,.fc x194,.fc x195,.fc x196,.fc x197,.fc x198,.fc x199,.fc x200,.fc x201,.fc x202,.fc x203,.fc x204,.fc x205,.fc x206,.fc x207,.fc x208,.fc x209,.fc x210,.fc x211,.fc x212,.fc x213,.fc x214,.no,.no,.fc x217,.fc x218,.fc x219,.fc x220,.fc x221,.fc x222,.fc x223,.fc x224,.no,.no,.no,.no,.no,.no,.no,.no,.fc x233,.fc x234,.fc x235,.no,.no,.no,.fc x239,.fc x240,.fc x241,.fc x242,.no,.fc x244,.no,.fc x246,.no,.fc x248,.fc x249,.no,.no,.no,.no,.fc x254,.fc x255,.fc x256,.fc x257,.fc x258,.fc x259,.fc x260,.fc x261,.fc x262,.fc x263,.fc x264,.fc x265,.fc x266,.fc x267,.no,.fc x269,.fc x270,.fc x271,.no,.no,.no,.fc x275,.fc x276,.fc x277,.fc x278,.fc x279,.fc x280,.fc x281,.fc x282,.no,.no,.no,.no,.no,.no,.no,.no,.fc x291,.fc x292,.fc x293,.fc x294,.fc x295,.no,.fc x297,.fc x298,.fc x299,.fc x300,.fc x301,.fc x302,.no,.no,.fc x305,.fc x306,.fc x307,.fc x308,.no,.no,.no,.fc x312,.fc x313,.no,.no,.fc x316,.fc x317,.fc x318,.fc x319,.fc x320,.fc x321,.fc x322,.no,.fc x324,.fc x325,.no,.fc x327,.fc x328,.fc x329,.no,.no,.no,.no,.fc x334,.fc x335,.no,.no,.no,.no,.no,.fc x341,.no,.fc x343,.fc x344,.fc x345,.fc x346,.fc x347,.fc x348,.fc x349,.fc x350,.fc x351,.no,.fc x353,.fc x354,.no,.no,.fc x357,.no,.fc x359,.fc x360,.fc x361,.no,.no,.no,.no,.no,.no,.no,.no,.no,.no,.no,.no,.no,.no,.no,.no,.no,.no,.no,.no,.no,.no,.no,.no,.no,.no]
noncomputable def LI:List FC:=[x36,x85,x130]
theorem zz {l:List FC} (h:allB (fun x=>Nat.beq x.l 0) l=true):∀ x∈l,x∈LI∨x.l=0:=fun x hx=>.inr (beq_iff.1 (allB_iff h x hx))
noncomputable abbrev xm0:List FC:=[x3,x4,x5,x6,x7,x8,x9,x10,x11,x12,x13,x14,x15,x16,x17,x18,x19,x20,x21,x22,x23,x24,x25,x26,x27,x28,x29,x30,x31,x32,x33,x34,x35,x36,x37,x38,x39,x40,x41,x42]
theorem ya0:∀ x∈xm0,FcI x:=cc y3 ( cc y4 ( cc y5 ( cc y6 ( cc y7 ( cc y8 ( cc y9 ( cc y10 ( cc y11 ( cc y12 ( cc y13 ( cc y14 ( cc y15 ( cc y16 ( cc y17 ( cc y18 ( cc y19 ( cc y20 ( cc y21 ( cc y22 ( cc y23 ( cc y24 ( cc y25 ( cc y26 ( cc y27 ( cc y28 ( cc y29 ( cc y30 ( cc y31 ( cc y32 ( cc y33 ( cc y34 ( cc y35 ( cc y36 ( cc y37 ( cc y38 ( cc y39 ( cc y40 ( cc y41 ( cc y42 ( c0))))))))))))))))))))))))))))))))))))))))
theorem za0:∀ x∈xm0,x∈LI∨x.l=0:=cc (.inr rfl) ( cc (.inr rfl) ( cc (.inr rfl) ( cc (.inr rfl) ( cc (.inr rfl) ( cc (.inr rfl) ( cc (.inr rfl) ( cc (.inr rfl) ( cc (.inr rfl) ( cc (.inr rfl) ( cc (.inr rfl) ( cc (.inr rfl) ( cc (.inr rfl) ( cc (.inr rfl) ( cc (.inr rfl) ( cc (.inr rfl) ( cc (.inr rfl) ( cc (.inr rfl) ( cc (.inr rfl) ( cc (.inr rfl) ( cc (.inr rfl) ( cc (.inr rfl) ( cc (.inr rfl) ( cc (.inr rfl) ( cc (.inr rfl) ( cc (.inr rfl) ( cc (.inr rfl) ( cc (.inr rfl) ( cc (.inr rfl) ( cc (.inr rfl) ( cc (.inr rfl) ( cc (.inr rfl) ( cc (.inr rfl) ( cc (.inl (List.mem_cons_self ..)) ( cc (.inr rfl) ( cc (.inr rfl) ( cc (.inr rfl) ( cc (.inr rfl) ( cc (.inr rfl) ( cc (.inr rfl) ( c0))))))))))))))))))))))))))))))))))))))))
noncomputable abbrev xm1:List FC:=[x43,x44,x45,x46,x47,x48,x49,x50,x51,x52,x53,x54,x55,x56,x57,x58,x59,x60,x61,x62,x63,x64,x67,x68,x69,x70,x72,x73,x74,x75,x76,x77,x78,x79,x80,x81,x82,x83,x84,x85]
theorem ya1:∀ x∈xm1,FcI x:=cc y43 ( cc y44 ( cc y45 ( cc y46 ( cc y47 ( cc y48 ( cc y49 ( cc y50 ( cc y51 ( cc y52 ( cc y53 ( cc y54 ( cc y55 ( cc y56 ( cc y57 ( cc y58 ( cc y59 ( cc y60 ( cc y61 ( cc y62 ( cc y63 ( cc y64 ( cc y67 ( cc y68 ( cc y69 ( cc y70 ( cc y72 ( cc y73 ( cc y74 ( cc y75 ( cc y76 ( cc y77 ( cc y78 ( cc y79 ( cc y80 ( cc y81 ( cc y82 ( cc y83 ( cc y84 ( cc y85 ( c0))))))))))))))))))))))))))))))))))))))))
theorem za1:∀ x∈xm1,x∈LI∨x.l=0:=cc (.inr rfl) ( cc (.inr rfl) ( cc (.inr rfl) ( cc (.inr rfl) ( cc (.inr rfl) ( cc (.inr rfl) ( cc (.inr rfl) ( cc (.inr rfl) ( cc (.inr rfl) ( cc (.inr rfl) ( cc (.inr rfl) ( cc (.inr rfl) ( cc (.inr rfl) ( cc (.inr rfl) ( cc (.inr rfl) ( cc (.inr rfl) ( cc (.inr rfl) ( cc (.inr rfl) ( cc (.inr rfl) ( cc (.inr rfl) ( cc (.inr rfl) ( cc (.inr rfl) ( cc (.inr rfl) ( cc (.inr rfl) ( cc (.inr rfl) ( cc (.inr rfl) ( cc (.inr rfl) ( cc (.inr rfl) ( cc (.inr rfl) ( cc (.inr rfl) ( cc (.inr rfl) ( cc (.inr rfl) ( cc (.inr rfl) ( cc (.inr rfl) ( cc (.inr rfl) ( cc (.inr rfl) ( cc (.inr rfl) ( cc (.inr rfl) ( cc (.inr rfl) ( cc (.inl (List.mem_cons_of_mem _ (List.mem_cons_self ..))) ( c0))))))))))))))))))))))))))))))))))))))))
noncomputable abbrev xm2:List FC:=[x86,x87,x88,x89,x90,x91,x92,x93,x94,x95,x96,x97,x98,x99,x100,x101,x102,x103,x104,x105,x106,x107,x108,x109,x110,x111,x114,x115,x116,x117,x118,x120,x121,x122,x123,x124,x125,x126,x127,x128]
theorem ya2:∀ x∈xm2,FcI x:=cc y86 ( cc y87 ( cc y88 ( cc y89 ( cc y90 ( cc y91 ( cc y92 ( cc y93 ( cc y94 ( cc y95 ( cc y96 ( cc y97 ( cc y98 ( cc y99 ( cc y100 ( cc y101 ( cc y102 ( cc y103 ( cc y104 ( cc y105 ( cc y106 ( cc y107 ( cc y108 ( cc y109 ( cc y110 ( cc y111 ( cc y114 ( cc y115 ( cc y116 ( cc y117 ( cc y118 ( cc y120 ( cc y121 ( cc y122 ( cc y123 ( cc y124 ( cc y125 ( cc y126 ( cc y127 ( cc y128 ( c0))))))))))))))))))))))))))))))))))))))))
theorem za2:∀ x∈xm2,x∈LI∨x.l=0:=zz (by kernel_rfl)
noncomputable abbrev xm3:List FC:=[x129,x130,x131,x132,x133,x134,x137,x138,x145,x147,x148,x149,x150,x151,x153,x154,x155,x156,x157,x158,x159,x161,x165,x166,x167,x168,x169,x170,x171,x172,x173,x174,x175,x176,x177,x178,x179,x182,x183,x184]
theorem ya3:∀ x∈xm3,FcI x:=cc y129 ( cc y130 ( cc y131 ( cc y132 ( cc y133 ( cc y134 ( cc y137 ( cc y138 ( cc y145 ( cc y147 ( cc y148 ( cc y149 ( cc y150 ( cc y151 ( cc y153 ( cc y154 ( cc y155 ( cc y156 ( cc y157 ( cc y158 ( cc y159 ( cc y161 ( cc y165 ( cc y166 ( cc y167 ( cc y168 ( cc y169 ( cc y170 ( cc y171 ( cc y172 ( cc y173 ( cc y174 ( cc y175 ( cc y176 ( cc y177 ( cc y178 ( cc y179 ( cc y182 ( cc y183 ( cc y184 ( c0))))))))))))))))))))))))))))))))))))))))
theorem za3:∀ x∈xm3,x∈LI∨x.l=0:=cc (.inr rfl) ( cc (.inl (List.mem_cons_of_mem _ (List.mem_cons_of_mem _ (List.mem_cons_self ..)))) ( cc (.inr rfl) ( cc (.inr rfl) ( cc (.inr rfl) ( cc (.inr rfl) ( cc (.inr rfl) ( cc (.inr rfl) ( cc (.inr rfl) ( cc (.inr rfl) ( cc (.inr rfl) ( cc (.inr rfl) ( cc (.inr rfl) ( cc (.inr rfl) ( cc (.inr rfl) ( cc (.inr rfl) ( cc (.inr rfl) ( cc (.inr rfl) ( cc (.inr rfl) ( cc (.inr rfl) ( cc (.inr rfl) ( cc (.inr rfl) ( cc (.inr rfl) ( cc (.inr rfl) ( cc (.inr rfl) ( cc (.inr rfl) ( cc (.inr rfl) ( cc (.inr rfl) ( cc (.inr rfl) ( cc (.inr rfl) ( cc (.inr rfl) ( cc (.inr rfl) ( cc (.inr rfl) ( cc (.inr rfl) ( cc (.inr rfl) ( cc (.inr rfl) ( cc (.inr rfl) ( cc (.inr rfl) ( cc (.inr rfl) ( cc (.inr rfl) ( c0))))))))))))))))))))))))))))))))))))))))
noncomputable abbrev xm4:List FC:=[x189,x190,x191,x192,x193,x194,x195,x196,x197,x198,x199,x200,x201,x202,x203,x204,x205,x206,x207,x208,x209,x210,x211,x212,x213,x214,x217,x218,x219,x220,x221,x222,x223,x224,x233,x234,x235,x239,x240,x241]
theorem ya4:∀ x∈xm4,FcI x:=cc y189 ( cc y190 ( cc y191 ( cc y192 ( cc y193 ( cc y194 ( cc y195 ( cc y196 ( cc y197 ( cc y198 ( cc y199 ( cc y200 ( cc y201 ( cc y202 ( cc y203 ( cc y204 ( cc y205 ( cc y206 ( cc y207 ( cc y208 ( cc y209 ( cc y210 ( cc y211 ( cc y212 ( cc y213 ( cc y214 ( cc y217 ( cc y218 ( cc y219 ( cc y220 ( cc y221 ( cc y222 ( cc y223 ( cc y224 ( cc y233 ( cc y234 ( cc y235 ( cc y239 ( cc y240 ( cc y241 ( c0))))))))))))))))))))))))))))))))))))))))
theorem za4:∀ x∈xm4,x∈LI∨x.l=0:=zz (by kernel_rfl)
noncomputable abbrev xm5:List FC:=[x242,x244,x246,x248,x249,x254,x255,x256,x257,x258,x259,x260,x261,x262,x263,x264,x265,x266,x267,x269,x270,x271,x275,x276,x277,x278,x279,x280,x281,x282,x291,x292,x293,x294,x295,x297,x298,x299,x300,x301]
theorem ya5:∀ x∈xm5,FcI x:=cc y242 ( cc y244 ( cc y246 ( cc y248 ( cc y249 ( cc y254 ( cc y255 ( cc y256 ( cc y257 ( cc y258 ( cc y259 ( cc y260 ( cc y261 ( cc y262 ( cc y263 ( cc y264 ( cc y265 ( cc y266 ( cc y267 ( cc y269 ( cc y270 ( cc y271 ( cc y275 ( cc y276 ( cc y277 ( cc y278 ( cc y279 ( cc y280 ( cc y281 ( cc y282 ( cc y291 ( cc y292 ( cc y293 ( cc y294 ( cc y295 ( cc y297 ( cc y298 ( cc y299 ( cc y300 ( cc y301 ( c0))))))))))))))))))))))))))))))))))))))))
theorem za5:∀ x∈xm5,x∈LI∨x.l=0:=zz (by kernel_rfl)
noncomputable abbrev xm6:List FC:=[x302,x305,x306,x307,x308,x312,x313,x316,x317,x318,x319,x320,x321,x322,x324,x325,x327,x328,x329,x334,x335,x341,x343,x344,x345,x346,x347,x348,x349,x350,x351,x353,x354,x357,x359,x360,x361]
theorem ya6:∀ x∈xm6,FcI x:=cc y302 ( cc y305 ( cc y306 ( cc y307 ( cc y308 ( cc y312 ( cc y313 ( cc y316 ( cc y317 ( cc y318 ( cc y319 ( cc y320 ( cc y321 ( cc y322 ( cc y324 ( cc y325 ( cc y327 ( cc y328 ( cc y329 ( cc y334 ( cc y335 ( cc y341 ( cc y343 ( cc y344 ( cc y345 ( cc y346 ( cc y347 ( cc y348 ( cc y349 ( cc y350 ( cc y351 ( cc y353 ( cc y354 ( cc y357 ( cc y359 ( cc y360 ( cc y361 ( c0)))))))))))))))))))))))))))))))))))))
theorem za6:∀ x∈xm6,x∈LI∨x.l=0:=zz (by kernel_rfl)
noncomputable def xlI:List FC:=xm0++(xm1++(xm2++(xm3++(xm4++(xm5++(xm6))))))
theorem xlE:enL enI=xlI:=by kernel_rfl
theorem yaA:∀ x∈enL enI,FCOk DI Tryz.prog x:=by rw [xlE];exact List.forall_mem_append.2 ⟨ya0,List.forall_mem_append.2 ⟨ya1,List.forall_mem_append.2 ⟨ya2,List.forall_mem_append.2 ⟨ya3,List.forall_mem_append.2 ⟨ya4,List.forall_mem_append.2 ⟨ya5,ya6⟩⟩⟩⟩⟩⟩
theorem zaA:∀ x∈enL enI,x∈LI∨x.l=0:=by rw [xlE];exact List.forall_mem_append.2 ⟨za0,List.forall_mem_append.2 ⟨za1,List.forall_mem_append.2 ⟨za2,List.forall_mem_append.2 ⟨za3,List.forall_mem_append.2 ⟨za4,List.forall_mem_append.2 ⟨za5,za6⟩⟩⟩⟩⟩⟩
theorem yaL:∀ x∈LI,FCOk DI Tryz.prog x:=List.forall_mem_cons.2 ⟨y36,List.forall_mem_cons.2 ⟨y85,List.forall_mem_cons.2 ⟨y130,fun _ h=>by cases h⟩⟩⟩
theorem ksI:ksOk DI Tryz.prog LI 0=true:=by kernel_rfl
theorem enC:enChk enI 0=true:=by kernel_rfl
theorem TIe:TI=trL 388 (enI.map En.fn):=by kernel_rfl
noncomputable def ulI:List Ll:=[lx0,lx1,lx2]
theorem UIe:UI=trL 3 ulI:=by kernel_rfl
theorem ulE:(allL DI Tryz.prog LI).map (fun p=>llOf p.1.fe.lay p.2)=ulI:=by kernel_rfl
end
end Go.Proofs.YtceaohiahajolaaGreatDoor.VM
namespace Go.Proofs.YtceaohiahajolaaGreatDoor.VM
open Go Go.RowKit Go.Proofs Go.Lib Go.Shelf
set_option linter.unusedVariables false
set_option linter.unusedSimpArgs false
theorem run_copy_k {P : Program} (w : World) (dT sT ty elem : TypeId) (i : TypeInfo) (b o dLen dCap : Nat) (a : Addr) (sLen sCap : Nat) (cs : List Value)
    (hu:P.underlying dT=some (.slice elem)) (hi:P.info? elem=some i) (hn:cs.length=Nat.min sLen dLen*i.size)
    (hsrc:∀ j v,cs[j]?=some v→w.cell? (a.add j)=some v) (hc:∀ j,j<cs.length→(w.cell? ⟨b,o+j,none⟩).isSome=true) (hf:∀ j,j<cs.length→w.frozen? ⟨b,o+j,none⟩=false) (h1:∀ v∈cs,v.oneCell'=true) :
    (Builtin.copy_ #[dT,sT] ty #[.slice (some ⟨b,o,none⟩) dLen dCap,.slice (some a) sLen sCap]).run P w=.ok (goInt (Nat.min sLen dLen)) (w.setCells b o cs):=by
  have hl:=run_loadCells_list (P:=P) w a cs hsrc
  have hst:=run_storeCells_cells (P:=P) b o cs 0 w (by simpa using hc) (by simpa using hf) h1
  simp [Builtin.copy_,run_underlying hu,Builtin.lenOf,Builtin.firstCells,sizeOf,typeInfo,hi,← hn,hl,hst]
theorem run_overlaps_1 {P : Program} (w : World) (tS tR e : TypeId) (ht : P.underlying tS = some (.slice e)) (size : Nat) (hz : ∀ w, (Go.sizeOf e).run P w = .ok size w)
    (a b:Addr) (la ca lb cb:Nat) (hne:a.block≠b.block) (tA tB:TypeId) (kA kB:Nat)
    (hsa:w.shape? a.block=some (tA,kA)) (hsb:w.shape? b.block=some (tB,kB)) (hkB:kB≠0)
    (hfa:w.frozen? a=false) (hfe:w.frozen? { block:=a.block,off:=kA }=false) :
    (Extern.SlicesOverlaps.overlaps #[tS,tS] #[tR] #[.slice (some a) la ca,.slice (some b) lb cb]).run P w=.ok (.bool false) w:=run_overlaps_apart w tS tR e ht size hz a b la ca lb cb hne tA tB kA kB hsa hsb hkB hfa hfe
set_option maxHeartbeats 4000000 in
set_option maxRecDepth 100000 in
theorem ins_room (b off n c i vb : Nat) (cs vs : List Value) (w : World) (hi : i < n) (hroom : n + 1 ≤ c) (hn63 : n + 1 ≤ 9223372036854775807) (hvb : vb ≠ b) (hcl : cs.length = n * 7) (hvl : vs.length = 7)
    (hcs:∀ j v,cs[j]?=some v→w.cell? ⟨b,off+j,none⟩=some v) (hsp:∀ j,j<(n+1)*7→(w.cell? ⟨b,off+j,none⟩).isSome=true) (hfz:∀ j,j<(n+1)*7→w.frozen? ⟨b,off+j,none⟩=false)
    (hvs:∀ j v,vs[j]?=some v→w.cell? ⟨vb,j,none⟩=some v) (h1c:∀ v∈cs,v.oneCell'=true) (h1v:∀ v∈vs,v.oneCell'=true)
    (tA tB:TypeId) (kA kB:Nat) (hsa:w.shape? vb=some (tA,kA)) (hsb:w.shape? b=some (tB,kB)) (hkB:kB≠0) (hfa:w.frozen? ⟨vb,0,none⟩=false) (hfe:w.frozen? ⟨vb,kA,none⟩=false) :
    Calls Tryz.prog 222 #[.slice (some ⟨b,off,none⟩) n c,.int .i64 i,.slice (some ⟨vb,0,none⟩) 1 1] w fun e w' =>
      e=.returned (.slice (some ⟨b,off,none⟩) (n+1) c)∧w'=(w.drew.setCells b (off+(i+1)*7) (cs.drop (i*7))).setCells b (off+i*7) vs:=by
  obtain ⟨i0,hi0,hz0⟩:∃ i0,Tryz.prog.info? 43=some i0∧i0.size=7:=by
    have:Tryz.prog.info? 43=some Tryz.t43:=by kernel_rfl
    exact ⟨_,this,by kernel_rfl⟩
  have hz1:¬ ((i:Int)=(n:Int)):=by omega
  have hov:∀ lb cb,(callFunc 283 #[.slice (some ⟨vb,0,none⟩) 1 1,.slice (some ⟨b,off+(i+1)*7,none⟩) lb cb]).run Tryz.prog w=.ok (.value (.bool false)) w:=fun lb cb=>by
    rw [run_callFunc_extern Tryz.func283 (by kernel_rfl) (by kernel_rfl) (by kernel_rfl) (e:=Extern.SlicesOverlaps.overlaps #[36,36] #[4]) (by kernel_rfl),
      run_overlaps_apart w 36 4 43 Tryz.underlying36 7 (fun w=>by simp [sizeOf,typeInfo,hi0,hz0]) ⟨vb,0,none⟩ ⟨b,off+(i+1)*7,none⟩ 1 1 lb cb hvb tA tB kA kB hsa hsb hkB hfa hfe]
    rfl
  have hdl:(cs.drop (i*7)).length=(n - i)*7:=by rw [List.length_drop,hcl];omega
  have hw1:IntKind.i64.wrap ((i:Int)+1)=(i:Int)+1:=by rw [IntKind.wrap_i64];omega
  have hw2:IntKind.i64.wrap ((n:Int)+1)=(n:Int)+1:=by rw [IntKind.wrap_i64];omega
  have hb1:(0:Int)≤(i:Int)+1:=by omega
  have hin:i≤n:=by omega
  have htn:((i:Int)+1).toNat=i+1:=by omega
  have htm:((n:Int)+1).toNat=n+1:=by omega
  have hb2:¬ (c=i+1):=by omega
  have hb3:(i:Int)≤(n:Int)+1:=by omega
  have hb4:¬ (c=i):=by omega
  have hcp1:∀ ty dc sc,(Builtin.copy_ #[36,36] ty #[.slice (some ⟨b,off+(i+1)*7,none⟩) (n - i) dc,.slice (some ⟨b,off+i*7,none⟩) (n+1 - i) sc]).run Tryz.prog w.drew=.ok (goInt (Nat.min (n+1 - i) (n - i))) (w.drew.setCells b (off+(i+1)*7) (cs.drop (i*7))):=fun ty dc sc =>
    run_copy_k w.drew _ _ ty 43 i0 b (off+(i+1)*7) (n - i) dc ⟨b,off+i*7,none⟩ (n+1 - i) sc (cs.drop (i*7)) Tryz.underlying36 hi0 (by rw [hdl,hz0];congr 1;simp only [Nat.min_def];split <;> omega)
      (fun j v hj=>by rw [Addr.add_lit,Nat.add_assoc];exact hcs (i*7+j) v (by rwa [List.getElem?_drop] at hj))
      (fun j hj=>by rw [Nat.add_assoc];exact hsp _ (by omega)) (fun j hj=>by rw [Nat.add_assoc];exact hfz _ (by omega)) (fun v hv=>h1c v (List.mem_of_mem_drop hv))
  obtain ⟨W1,hW1⟩:∃ W1,W1=w.drew.setCells b (off+(i+1)*7) (cs.drop (i*7)):=⟨_,rfl⟩
  have hsp1:∀ k,k<(n+1)*7→(W1.cell? ⟨b,off+k,none⟩).isSome=true:=fun k hk=>by
    rw [hW1]
    exact isSome_setCells b _ _ _ (fun j hj=>by rw [Nat.add_assoc];exact hsp _ (by omega)) _ (hsp k hk)
  have hcp2:∀ (W:World),(∀ x,W.cell? x=W1.cell? x)→(∀ x,W.frozen? x=W1.frozen? x)→∀ ty dc,(Builtin.copy_ #[36,36] ty #[.slice (some ⟨b,off+i*7,none⟩) (n+1 - i) dc,.slice (some ⟨vb,0,none⟩) 1 1]).run Tryz.prog W=.ok (goInt (Nat.min 1 (n+1 - i))) (W.setCells b (off+i*7) vs):=fun W hWc hWf ty dc =>
    run_copy_k W _ _ ty 43 i0 b (off+i*7) (n+1 - i) dc ⟨vb,0,none⟩ 1 1 vs Tryz.underlying36 hi0 (by rw [hvl,hz0,show Nat.min 1 (n+1 - i)=1 from by simp only [Nat.min_def];split <;> omega])
      (fun j v hj=>by
        rw [Addr.add_lit,hWc,hW1,World.cell?_setCells_out b _ _ _ _ (fun h _=>absurd h hvb),Nat.zero_add]
        exact hvs j v hj)
      (fun j hj=>by rw [hWc,Nat.add_assoc];exact hsp1 _ (by omega)) (fun j hj=>by rw [hWf,hW1,World.frozen?_setCells,Nat.add_assoc];exact hfz _ (by omega)) h1v
  rw [← hW1] at hcp1
  have mixed:Tryz.prog.follows .mixedOrders=true:=by kernel_rfl
  go_enter Tryz.func222,Tryz.ntmps222
  go_wp2_with (simp only [hov])
  go_region_law_o (refine step_copy_runI rfl _ _ 36 36 rfl _ _ (by simp [Act.eval,Act.put]) (by simp [Act.eval,Act.put]) (hcp1 _ _ _) ?_)
  go_wp2_with (at_builtin;refine wpList_copy_runI _ rfl _ _ 36 36 rfl _ _ rfl rfl (hcp2 _ (fun _=>rfl) (fun _=>rfl) _ _) ?_)
  go_ret
  first | exact ⟨rfl,rfl⟩ | exact ⟨rfl,by rw [hW1]⟩
set_option maxHeartbeats 4000000 in
set_option maxRecDepth 100000 in
theorem ins_grow (b off n c i vb : Nat) (cs vs : List Value) (w : World) (i0 : TypeInfo) (z : Value) (hi0 : Tryz.prog.info? 43 = some i0) (hz0 : i0.size = 7) (hzb : i0.bytes = 48) (hzz : i0.zero = some z) (hzc : z.cells.size = 7)
    (hi:i<n) (hnc:n≤c) (hroom:c<n+1) (hbig:(n+1)*48≤140737488355328) (hcl:cs.length=n*7) (hvl:vs.length=7)
    (hcs:∀ j v,cs[j]?=some v→w.cell? ⟨b,off+j,none⟩=some v) (hvs:∀ j v,vs[j]?=some v→w.cell? ⟨vb,j,none⟩=some v) (h1c:∀ v∈cs,v.oneCell'=true) (h1v:∀ v∈vs,v.oneCell'=true)
    (ROW:Array Value) (hROW:ROW=(cs.take (i*7)).toArray++Builtin.zeroCells z.cells (n+1 - i)++Builtin.zeroCells z.cells (grownCap w (n+1) c 43 - (n+1))) :
    Calls Tryz.prog 222 #[.slice (some ⟨b,off,none⟩) n c,.int .i64 i,.slice (some ⟨vb,0,none⟩) 1 1] w fun e w' =>
      e=.returned (.slice (some ⟨w.heap.size,0,none⟩) (n+1) (grownCap w (n+1) c 43)) ∧
      w'=(((w.alloc (.cells ROW 43)).drew.setCells w.heap.size (i*7) vs).drew).setCells w.heap.size ((i+1)*7) (cs.drop (i*7)):=by
  have hz2:¬ ((i:Int)=(n:Int)):=by omega
  have hz3:(c:Int)<(n:Int)+1:=by omega
  have hbw:b<w.heap.size:=block_lt_of_cell (hcs 0 _ (List.getElem?_eq_getElem (by omega)))
  have hvw:vb<w.heap.size:=block_lt_of_cell (hvs 0 _ (List.getElem?_eq_getElem (by omega)))
  have hkk:(n:Int)+1 - (i:Int)=((n+1 - i:Nat):Int):=by omega
  have hik:i+(n+1 - i)=n+1:=by omega
  have hold:(Builtin.firstCells i0.size i (.slice (some ⟨b,off,none⟩) i c)).run Tryz.prog w.drew=.ok (cs.take (i*7)).toArray w.drew:=by
    rw [hz0]
    exact run_firstCells_some w.drew 7 i ⟨b,off,none⟩ i c (cs.take (i*7)) (by rw [List.length_take];omega) (fun j v hj=>by
      rw [Addr.add_lit]
      rw [List.getElem?_take] at hj
      split at hj
      · exact hcs j v hj
      · cases hj)
  have hrz : ∀ ty, (Builtin.append_ #[36, 3] ty #[.slice (some ⟨b, off, none⟩) i c, .int .i64 ((n : Int) + 1 - (i : Int))]).run Tryz.prog w =
      .ok (.slice (some ⟨w.heap.size,0,none⟩) (n+1) (grownCap w (n+1) c 43)) (w.drew.alloc (.cells ((cs.take (i*7)).toArray++Builtin.zeroCells z.cells (n+1 - i)++Builtin.zeroCells z.cells (grownCap w (n+1) c 43 - (n+1))) 43)):=fun ty=>by
    have h:=Lib.run_append_grow_zeros w 36 3 ty 43 i0 _ .i64 .i64 Tryz.underlying36 Tryz.underlying3 hi0 hzz (some ⟨b,off,none⟩) i c (cs.take (i*7)) hold (n+1 - i) (by omega) (by omega) (by omega) (by omega) (by rw [hzb];omega) (by rw [hzb,hik];exact growslice_fits hroom hbig)
    rw [hik] at h
    rw [hkk]
    exact h
  obtain ⟨G,hG⟩:∃ G,G=grownCap w (n+1) c 43:=⟨_,rfl⟩
  rw [← hG] at hrz hROW ⊢
  rw [← hROW] at hrz
  have hRl:(n+1)*7≤ROW.size:=by
    rw [hROW]
    simp [Builtin.zeroCells,hzc]
    omega
  obtain ⟨W1,hW1⟩:∃ W1,W1=w.drew.alloc (.cells ROW 43):=⟨_,rfl⟩
  rw [← hW1] at hrz
  have hN:∀ j,j<(n+1)*7→(W1.cell? ⟨w.heap.size,j,none⟩).isSome=true:=fun j hj=>by
    rw [hW1,World.cell?_alloc_at (w:=w.drew) ROW _ w.heap.size j rfl,Array.getElem?_eq_getElem (by omega)];rfl
  have hNf:∀ j,W1.frozen? ⟨w.heap.size,j,none⟩=false:=fun j=>by rw [hW1];exact World.frozen?_alloc_at (w:=w.drew) ROW _ w.heap.size j rfl
  have hOb:∀ j v,w.cell? ⟨b,j,none⟩=some v→W1.cell? ⟨b,j,none⟩=some v:=fun j v h=>by rw [hW1,World.cell?_alloc_past (w:=w.drew) _ b j hbw];exact h
  have hOv:∀ j v,w.cell? ⟨vb,j,none⟩=some v→W1.cell? ⟨vb,j,none⟩=some v:=fun j v h=>by rw [hW1,World.cell?_alloc_past (w:=w.drew) _ vb j hvw];exact h
  have hcpA:∀ (W:World),(∀ x,W.cell? x=W1.cell? x)→(∀ x,W.frozen? x=W1.frozen? x)→∀ ty dc,(Builtin.copy_ #[36,36] ty #[.slice (some ⟨w.heap.size,i*7,none⟩) (n+1 - i) dc,.slice (some ⟨vb,0,none⟩) 1 1]).run Tryz.prog W=.ok (goInt (Nat.min 1 (n+1 - i))) (W.setCells w.heap.size (i*7) vs):=fun W hWc hWf ty dc =>
    run_copy_k W _ _ ty 43 i0 w.heap.size (i*7) (n+1 - i) dc ⟨vb,0,none⟩ 1 1 vs Tryz.underlying36 hi0 (by rw [hvl,hz0,show Nat.min 1 (n+1 - i)=1 from by simp only [Nat.min_def];split <;> omega])
      (fun j v hj=>by rw [Addr.add_lit,hWc,Nat.zero_add];exact hOv _ v (hvs j v hj))
      (fun j hj=>by rw [hWc];exact hN _ (by omega)) (fun j hj=>by rw [hWf];exact hNf _) h1v
  have hGn:n+1≤G:=by rw [hG];exact grownCap_ge w _ _ _
  have hG63:G≤9223372036854775807:=by
    have:=grownCap_le_maxLen w (n+1) c 43 (by unfold maxLen;omega)
    rw [← hG] at this
    unfold maxLen at this
    omega
  have hGi:¬ (G=i):=by omega
  have hGim:¬ (G=i+1):=by omega
  have hci:¬ (c=i):=by omega
  have hne:b≠w.heap.size:=by omega
  have hdl:(cs.drop (i*7)).length=(n - i)*7:=by rw [List.length_drop,hcl];omega
  have hcpB:∀ (W:World),(∀ x,W.cell? x=(W1.setCells w.heap.size (i*7) vs).cell? x)→(∀ x,W.frozen? x=(W1.setCells w.heap.size (i*7) vs).frozen? x)→∀ ty dc sc,(Builtin.copy_ #[36,36] ty #[.slice (some ⟨w.heap.size,(i+1)*7,none⟩) (n - i) dc,.slice (some ⟨b,off+i*7,none⟩) (n - i) sc]).run Tryz.prog W=.ok (goInt (Nat.min (n - i) (n - i))) (W.setCells w.heap.size ((i+1)*7) (cs.drop (i*7))):=fun W hWc hWf ty dc sc =>
    run_copy_k W _ _ ty 43 i0 w.heap.size ((i+1)*7) (n - i) dc ⟨b,off+i*7,none⟩ (n - i) sc (cs.drop (i*7)) Tryz.underlying36 hi0 (by rw [hdl,hz0];congr 1;simp only [Nat.min_def];split <;> omega)
      (fun j v hj=>by
        rw [Addr.add_lit,hWc,World.cell?_setCells_out _ _ _ _ _ (fun h _=>absurd h hne),Nat.add_assoc]
        exact hOb _ v (hcs (i*7+j) v (by rwa [List.getElem?_drop] at hj)))
      (fun j hj=>by rw [hWc];exact isSome_setCells _ _ _ _ (fun j hj=>hN _ (by omega)) _ (hN _ (by omega)))
      (fun j hj=>by rw [hWf,World.frozen?_setCells];exact hNf _) (fun v hv=>h1c v (List.mem_of_mem_drop hv))
  subst hW1
  have hE1:∀ x,((w.alloc (.cells ROW 43)).drew).cell? x=(w.drew.alloc (.cells ROW 43)).cell? x:=fun x=>rfl
  have hE2:∀ x,((w.alloc (.cells ROW 43)).drew).frozen? x=(w.drew.alloc (.cells ROW 43)).frozen? x:=fun x=>rfl
  have hF1:∀ x,(((w.alloc (.cells ROW 43)).drew.setCells w.heap.size (i*7) vs).drew).cell? x=((w.drew.alloc (.cells ROW 43)).setCells w.heap.size (i*7) vs).cell? x:=fun x=>rfl
  have hF2:∀ x,(((w.alloc (.cells ROW 43)).drew.setCells w.heap.size (i*7) vs).drew).frozen? x=((w.drew.alloc (.cells ROW 43)).setCells w.heap.size (i*7) vs).frozen? x:=fun x=>rfl
  have hw1:IntKind.i64.wrap ((i:Int)+1)=(i:Int)+1:=by rw [IntKind.wrap_i64];omega
  have hw2:IntKind.i64.wrap ((n:Int)+1)=(n:Int)+1:=by rw [IntKind.wrap_i64];omega
  have hw3:IntKind.i64.wrap ((n:Int)+1 - (i:Int))=(n:Int)+1 - (i:Int):=by rw [IntKind.wrap_i64];omega
  have hb1:(0:Int)≤(i:Int)+1:=by omega
  have hin:i≤n:=by omega
  have htn:((i:Int)+1).toNat=i+1:=by omega
  have hb3:(i:Int)≤(n:Int):=by omega
  have mixed:Tryz.prog.follows .mixedOrders=true:=by kernel_rfl
  clear hkk hik hold hROW hG hRl
  go_enter Tryz.func222,Tryz.ntmps222
  go_wp2_with (first
    | (at_builtin;refine Lib.wpList_append_run _ rfl _ _ _ _ rfl _ _ rfl rfl _ _ (hrz _) ?_)
    | (at_builtin;refine wpList_copy_runI _ rfl _ _ 36 36 rfl _ _ rfl rfl (hcpA _ hE1 hE2 _ _) ?_)
    | (at_builtin;refine wpList_copy_runI _ rfl _ _ 36 36 rfl _ _ rfl rfl (hcpB _ (fun _=>rfl) (fun _=>rfl) _ _ _) ?_))
  go_region_law_o (refine step_copy_runI rfl _ _ 36 36 rfl (.slice (some ⟨w.heap.size,(i+1)*7,none⟩) (n - i) (G - (i+1))) (.slice (some ⟨b,off+i*7,none⟩) (n - i) (c - i)) (by simp [Act.eval,Act.put]) (by simp [Act.eval,Act.put]) (hcpB _ hF1 hF2 3 (G - (i+1)) (c - i)) ?_)
  go_wp2
  go_ret
  exact ⟨rfl,rfl⟩
theorem insC_ok:InsC Tryz.prog 222 43 7 Tryz.t43 (.agg #[.int .i64 0,.bool false,.int .u8 0,.int .i64 0,.int .i64 0,.int .u8 0,.bool false]):=by
 have h1:Tryz.prog.info? 43=some Tryz.t43:=by kernel_rfl
 have h2:(Tryz.t43).size=7:=by kernel_rfl
 have h3:(Tryz.t43).zero=some (.agg #[.int .i64 0,.bool false,.int .u8 0,.int .i64 0,.int .i64 0,.int .u8 0,.bool false]):=by kernel_rfl
 have h4:(Tryz.t43).bytes=48:=by kernel_rfl
 have h5:Value.cells (.agg #[.int .i64 0,.bool false,.int .u8 0,.int .i64 0,.int .i64 0,.int .u8 0,.bool false])=#[.int .i64 0,.bool false,.int .u8 0,.int .i64 0,.int .i64 0,.int .u8 0,.bool false]:=by kernel_rfl
 refine ⟨h1,h2,h3,by rw [h5];rfl,by decide,by decide,by rw [h4];decide,ins_room,fun b off n c i vb cs vs w a1 a2 a3 a4 a5 a6 a7 a8 a9 b1 ROW hR=>ins_grow b off n c i vb cs vs w _ _ h1 h2 h4 h3 (by rw [h5];rfl) a1 a2 a3 (by rw [h4] at a4;exact a4) a5 a6 a7 a8 a9 b1 ROW hR⟩
end Go.Proofs.YtceaohiahajolaaGreatDoor.VM
namespace Go.Proofs.YtceaohiahajolaaGreatDoor.VM
open Go Go.RowKit
noncomputable section
set_option maxRecDepth 1000000
noncomputable def cI (B:Nat):Cx:=⟨Tryz.prog,lkOf (ldOf DI Tryz.prog LI),B,cxS 59 stT,false⟩
theorem nsE:DI.ns=59:=by kernel_rfl
theorem natE:∀ f i s,DI.nat f=some (i,s)→nsgI i=some (f,s):=fun f i s h=>by
 have h:natI f=some (i,s):=h
 unfold natI at h
 split at h
 · rename_i hb
   cases h
   rw [Nat.eq_of_beq_eq_true hb];rfl
 · cases h
theorem insE:∀ f t te k,DI.ins f=some (t,te,k)→Tryz.prog.underlying t=some (.slice te)∧EntP Tryz.prog f∧∃ ti z,InsC Tryz.prog f te k ti z:=fun f t te k h=>by
 have h:insI f=some (t,te,k):=h
 unfold insI at h
 split at h
 · rename_i hb
   cases h
   rw [Nat.eq_of_beq_eq_true hb]
   exact ⟨Tryz.underlying36,Tryz.call222,_,_,insC_ok⟩
 · cases h
theorem cdI (B:Nat):CdOk (cI B) nsgI DI:=⟨tyI,entI,natE,fun X h i hi=>h i (by rw [← nsE];exact hi),by rw [nsE];decide,mixI,insE⟩
theorem exI (B:Nat):∃ X,(cI B).cx X:=⟨⟨fun i=>tget 0 stT i,fun _=>dClo⟩,fun _ _=>rfl⟩
theorem ltabI (B:Nat):LTabOk (cI B) DI.sig nsgI (ldOf DI Tryz.prog LI) UI:=ltab_of (cdI B) (exI B) yaL (UL:=ulI) (fun no=>by rw [UIe];exact trL_get dLl _ ulI (Nat.le_refl _) no) ulE
theorem natOkI (B:Nat):NatOk (cI B) nsgI natM:=fun i f s h C m k hC hok=>by
 unfold nsgI at h
 split at h
 · rename_i hb
   cases h
   have:=Nat.eq_of_beq_eq_true hb
   subst this
   exact natB_ok (c:=cI B) Tryz.func303 (by kernel_rfl) (by kernel_rfl) (by kernel_rfl) (by kernel_rfl) hok
 · cases h
theorem hdI:hdIx enI 0=[181]:=by kernel_rfl
theorem idI:idIx enI 0=[65,71]:=by kernel_rfl
theorem en181:enI[181]?=some (.hd ⟨[.one],.s .one⟩ 1 kindH):=by kernel_rfl
theorem en65:enI[65]?=some (.id [.one,.one,.one,.one]):=by kernel_rfl
theorem en71:enI[71]?=some (.id [.one,.one,.one]):=by kernel_rfl
theorem tabI (B:Nat) (h1:HandS (cI B) DI.sig nsgI 181 ⟨[.one],.s .one⟩ 1 kindH) (h2:IdleS (cI B) DI.sig 65 [.one,.one,.one,.one]) (h3:IdleS (cI B) DI.sig 71 [.one,.one,.one]):TabOk (cI B) DI.sig nsgI TI :=
 tab_en (cdI B) (exI B) rfl rfl (Nat.le_of_eq (by kernel_rfl)) yaA yaL ksI zaA enC (fun f s w h e=>by
   have hm:=hdIx_mem (i:=0) e
   rw [hdI,Nat.zero_add] at hm
   have:=List.mem_singleton.1 hm
   subst this
   rw [en181] at e
   cases e
   exact h1) (fun f ks e=>by
   have hm:=idIx_mem (i:=0) e
   rw [idI,Nat.zero_add] at hm
   rcases List.mem_cons.1 hm with rfl | hm
   · rw [en65] at e
     cases e
     exact h2
   · have:=List.mem_singleton.1 hm
     subst this
     rw [en71] at e
     cases e
     exact h3) TIe
theorem envI (B:Nat) (h1:HandS (cI B) DI.sig nsgI 181 ⟨[.one],.s .one⟩ 1 kindH) (h2:IdleS (cI B) DI.sig 65 [.one,.one,.one,.one]) (h3:IdleS (cI B) DI.sig 71 [.one,.one,.one]) (n:Nat):EnvOk (cI B) DI.sig nsgI (env prI n) :=
 env_ok (c:=cI B) (p:=prI) rfl (ltabI B) (tabI B h1 h2 h3) (natOkI B) rfl n
end
end Go.Proofs.YtceaohiahajolaaGreatDoor.VM
