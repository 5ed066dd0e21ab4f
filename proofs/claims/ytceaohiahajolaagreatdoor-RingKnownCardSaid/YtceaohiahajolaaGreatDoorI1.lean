/-
  The program's functions, each checked, part 1. No conditions.
-/
import Derived.Test.YtceaohiahajolaaGreatDoorS4
import Derived.Test.YtceaohiahajolaaGreatDoorProg
import Derived.Test.YtceaohiahajolaaGreatDoorC
set_option linter.all false
set_option linter.unusedVariables false
set_option linter.unusedSimpArgs false
namespace Go.Proofs.YtceaohiahajolaaGreatDoor.VM
open Go Go.RowKit
noncomputable section
set_option maxRecDepth 1000000
theorem cc {α:Type} {p:α→Prop} {a:α} {l:List α} (h:p a) (h2:∀ x∈l,p x):∀ x∈a :: l,p x:=List.forall_mem_cons.2 ⟨h,h2⟩
theorem c0 {α:Type} {p:α→Prop}:∀ x∈([]:List α),p x:=fun _ h=>by cases h
def tE (i:TypeInfo):TyE:=⟨i.desc,i⟩
def ups (n a:Nat):List Nat:=Nat.rec (fun _=>[]) (fun _ ih a=>a :: ih (a+2)) n a
def rn:List Nat→List Nat
 | a :: n :: l=>ups n a++rn l
 | _=>[]
def lyR (l:List Nat):List LE:=lyD (rn l)
noncomputable def tyL:List TyE:=[tE Tryz.t0,tE Tryz.t1,tE Tryz.t2,tE Tryz.t3,tE Tryz.t4,tE Tryz.t5,⟨Tryz.t5.desc,Tryz.t6⟩,tE Tryz.t7,⟨Tryz.t7.desc,Tryz.t8⟩,tE Tryz.t9,⟨Tryz.t9.desc,Tryz.t10⟩,⟨Tryz.t9.desc,Tryz.t11⟩,tE Tryz.t12,tE Tryz.t13,⟨Tryz.t13.desc,Tryz.t14⟩,tE Tryz.t15,tE Tryz.t16,tE Tryz.t17,tE Tryz.t18,⟨Tryz.t18.desc,Tryz.t19⟩,tE Tryz.t20,tE Tryz.t21,tE Tryz.t22,tE Tryz.t23,tE Tryz.t24,tE Tryz.t25,tE Tryz.t26,tE Tryz.t27,tE Tryz.t28,tE Tryz.t29,tE Tryz.t30,tE Tryz.t31,⟨Tryz.t31.desc,Tryz.t32⟩,tE Tryz.t33,tE Tryz.t34,tE Tryz.t35,tE Tryz.t36,tE Tryz.t37,⟨Tryz.t37.desc,Tryz.t38⟩,tE Tryz.t39,⟨Tryz.t39.desc,Tryz.t40⟩,⟨Tryz.t5.desc,Tryz.t41⟩,tE Tryz.t42,⟨Tryz.t42.desc,Tryz.t43⟩,tE Tryz.t44,⟨Tryz.t44.desc,Tryz.t45⟩,tE Tryz.t46,tE Tryz.t47,tE Tryz.t48,tE Tryz.t49,⟨Tryz.t49.desc,Tryz.t50⟩,tE Tryz.t51,tE Tryz.t52,tE Tryz.t53,⟨Tryz.t53.desc,Tryz.t54⟩,tE Tryz.t55,tE Tryz.t56,tE Tryz.t57,tE Tryz.t58,tE Tryz.t59,tE Tryz.t60,tE Tryz.t61,tE Tryz.t62,tE Tryz.t63,tE Tryz.t64,tE Tryz.t65,⟨Tryz.t65.desc,Tryz.t66⟩,⟨Tryz.t39.desc,Tryz.t67⟩,tE Tryz.t68,⟨Tryz.t68.desc,Tryz.t69⟩,tE Tryz.t70,⟨Tryz.t70.desc,Tryz.t71⟩,tE Tryz.t72,tE Tryz.t73,tE Tryz.t74,tE Tryz.t75,tE Tryz.t76,tE Tryz.t77,tE Tryz.t78,tE Tryz.t79,tE Tryz.t80,⟨Tryz.t80.desc,Tryz.t81⟩,tE Tryz.t82,tE Tryz.t83,tE Tryz.t84,tE Tryz.t85,tE Tryz.t86,tE Tryz.t87,tE Tryz.t88,⟨Tryz.t88.desc,Tryz.t89⟩,tE Tryz.t90,tE Tryz.t91,tE Tryz.t92,tE Tryz.t93,tE Tryz.t94,⟨Tryz.t94.desc,Tryz.t95⟩,tE Tryz.t96,tE Tryz.t97,tE Tryz.t98,tE Tryz.t99,tE Tryz.t100,⟨Tryz.t100.desc,Tryz.t101⟩,tE Tryz.t102,tE Tryz.t103,tE Tryz.t104,⟨Tryz.t104.desc,Tryz.t105⟩,tE Tryz.t106,tE Tryz.t107,tE Tryz.t108,tE Tryz.t109,tE Tryz.t110,tE Tryz.t111,tE Tryz.t112,tE Tryz.t113,tE Tryz.t114,tE Tryz.t115,⟨Tryz.t115.desc,Tryz.t116⟩,tE Tryz.t117,tE Tryz.t118,tE Tryz.t119,tE Tryz.t120,tE Tryz.t121,tE Tryz.t122,tE Tryz.t123,tE Tryz.t124,tE Tryz.t125,tE Tryz.t126,tE Tryz.t127,tE Tryz.t128,tE Tryz.t129,tE Tryz.t130,tE Tryz.t131,⟨Tryz.t131.desc,Tryz.t132⟩,tE Tryz.t133,⟨Tryz.t133.desc,Tryz.t134⟩,tE Tryz.t135,tE Tryz.t136,tE Tryz.t137,tE Tryz.t138,tE Tryz.t139,tE Tryz.t140,tE Tryz.t141,tE Tryz.t142,⟨Tryz.t142.desc,Tryz.t143⟩,tE Tryz.t144,tE Tryz.t145,⟨Tryz.t145.desc,Tryz.t146⟩,tE Tryz.t147,⟨Tryz.t3.desc,Tryz.t148⟩,tE Tryz.t149,tE Tryz.t150,tE Tryz.t151,tE Tryz.t152,tE Tryz.t153,tE Tryz.t154,tE Tryz.t155,tE Tryz.t156,tE Tryz.t157,⟨Tryz.t157.desc,Tryz.t158⟩,tE Tryz.t159,⟨Tryz.t159.desc,Tryz.t160⟩,tE Tryz.t161,⟨Tryz.t161.desc,Tryz.t162⟩,tE Tryz.t163,tE Tryz.t164,tE Tryz.t165,tE Tryz.t166,tE Tryz.t167,⟨Tryz.t167.desc,Tryz.t168⟩,tE Tryz.t169,tE Tryz.t170,tE Tryz.t171,tE Tryz.t172,⟨Tryz.t172.desc,Tryz.t173⟩,tE Tryz.t174,tE Tryz.t175,tE Tryz.t176,tE Tryz.t177,tE Tryz.t178,tE Tryz.t179,⟨Tryz.t179.desc,Tryz.t180⟩,tE Tryz.t181,tE Tryz.t182,tE Tryz.t183,tE Tryz.t184,tE Tryz.t185,tE Tryz.t186,tE Tryz.t187,tE Tryz.t188,tE Tryz.t189,tE Tryz.t190,tE Tryz.t191,tE Tryz.t192,tE Tryz.t193,tE Tryz.t194,tE Tryz.t195,tE Tryz.t196,⟨Tryz.t104.desc,Tryz.t197⟩,tE Tryz.t198,⟨Tryz.t198.desc,Tryz.t199⟩,tE Tryz.t200,tE Tryz.t201,tE Tryz.t202,tE Tryz.t203,tE Tryz.t204,tE Tryz.t205,tE Tryz.t206,tE Tryz.t207,tE Tryz.t208,tE Tryz.t209,tE Tryz.t210,tE Tryz.t211,tE Tryz.t212,tE Tryz.t213,tE Tryz.t214,tE Tryz.t215,⟨Tryz.t215.desc,Tryz.t216⟩,tE Tryz.t217,tE Tryz.t218,tE Tryz.t219,tE Tryz.t220,tE Tryz.t221,tE Tryz.t222,⟨Tryz.t222.desc,Tryz.t223⟩,tE Tryz.t224,tE Tryz.t225,tE Tryz.t226,tE Tryz.t227,tE Tryz.t228,tE Tryz.t229,tE Tryz.t230,tE Tryz.t231,tE Tryz.t232,tE Tryz.t233,tE Tryz.t234,tE Tryz.t235,⟨Tryz.t235.desc,Tryz.t236⟩,tE Tryz.t237,tE Tryz.t238,tE Tryz.t239,⟨Tryz.t239.desc,Tryz.t240⟩,tE Tryz.t241,tE Tryz.t242,tE Tryz.t243,tE Tryz.t244,tE Tryz.t245,tE Tryz.t246,tE Tryz.t247,tE Tryz.t248,tE Tryz.t249,tE Tryz.t250,tE Tryz.t251,tE Tryz.t252,tE Tryz.t253,⟨Tryz.t253.desc,Tryz.t254⟩,tE Tryz.t255,tE Tryz.t256,tE Tryz.t257,tE Tryz.t258,tE Tryz.t259,tE Tryz.t260,tE Tryz.t261,tE Tryz.t262,tE Tryz.t263,tE Tryz.t264,tE Tryz.t265,tE Tryz.t266,tE Tryz.t267,tE Tryz.t268,⟨Tryz.t268.desc,Tryz.t269⟩,tE Tryz.t270,tE Tryz.t271,tE Tryz.t272,tE Tryz.t273,⟨Tryz.t273.desc,Tryz.t274⟩,tE Tryz.t275,tE Tryz.t276,tE Tryz.t277,tE Tryz.t278,tE Tryz.t279,tE Tryz.t280,tE Tryz.t281,tE Tryz.t282,tE Tryz.t283,tE Tryz.t284,tE Tryz.t285,tE Tryz.t286,tE Tryz.t287,tE Tryz.t288,tE Tryz.t289,tE Tryz.t290,tE Tryz.t291,tE Tryz.t292,tE Tryz.t293,tE Tryz.t294,tE Tryz.t295,tE Tryz.t296,tE Tryz.t297,⟨Tryz.t297.desc,Tryz.t298⟩,tE Tryz.t299,⟨Tryz.t299.desc,Tryz.t300⟩,tE Tryz.t301,tE Tryz.t302,tE Tryz.t303,tE Tryz.t304,tE Tryz.t305,tE Tryz.t306,tE Tryz.t307,⟨Tryz.t307.desc,Tryz.t308⟩,tE Tryz.t309,tE Tryz.t310,tE Tryz.t311,tE Tryz.t312,tE Tryz.t313,tE Tryz.t314,tE Tryz.t315,tE Tryz.t316,tE Tryz.t317,⟨Tryz.t317.desc,Tryz.t318⟩,tE Tryz.t319,tE Tryz.t320,tE Tryz.t321,tE Tryz.t322,⟨Tryz.t3.desc,Tryz.t323⟩,tE Tryz.t324,tE Tryz.t325,tE Tryz.t326,tE Tryz.t327,tE Tryz.t328,tE Tryz.t329,tE Tryz.t330,tE Tryz.t331,tE Tryz.t332,tE Tryz.t333,tE Tryz.t334,⟨Tryz.t161.desc,Tryz.t335⟩,tE Tryz.t336,tE Tryz.t337,tE Tryz.t338,⟨Tryz.t338.desc,Tryz.t339⟩,tE Tryz.t340,tE Tryz.t341,tE Tryz.t342,tE Tryz.t343,⟨Tryz.t94.desc,Tryz.t344⟩,tE Tryz.t345,⟨Tryz.t317.desc,Tryz.t346⟩,tE Tryz.t347,tE Tryz.t348,tE Tryz.t349,tE Tryz.t350,tE Tryz.t351,tE Tryz.t352,tE Tryz.t353,tE Tryz.t354,tE Tryz.t355,tE Tryz.t356,tE Tryz.t357,tE Tryz.t358,tE Tryz.t359,tE Tryz.t360,tE Tryz.t361,tE Tryz.t362,tE Tryz.t363,tE Tryz.t364,tE Tryz.t365,tE Tryz.t366,⟨Tryz.t27.desc,Tryz.t367⟩,tE Tryz.t368,tE Tryz.t369,tE Tryz.t370,tE Tryz.t371,tE Tryz.t372,tE Tryz.t373,tE Tryz.t374,tE Tryz.t375,tE Tryz.t376,tE Tryz.t377,tE Tryz.t378,⟨Tryz.t235.desc,Tryz.t379⟩,tE Tryz.t380,tE Tryz.t381,tE Tryz.t382,tE Tryz.t383,tE Tryz.t384,⟨Tryz.t384.desc,Tryz.t385⟩,tE Tryz.t386,⟨Tryz.t386.desc,Tryz.t387⟩,tE Tryz.t388,tE Tryz.t389,tE Tryz.t390,tE Tryz.t391,tE Tryz.t392,tE Tryz.t393,tE Tryz.t394,tE Tryz.t395,⟨Tryz.t395.desc,Tryz.t396⟩,tE Tryz.t397,tE Tryz.t398,tE Tryz.t399,tE Tryz.t400,tE Tryz.t401,tE Tryz.t402,tE Tryz.t403,tE Tryz.t404,tE Tryz.t405,tE Tryz.t406,tE Tryz.t407,tE Tryz.t408,tE Tryz.t409,tE Tryz.t410,tE Tryz.t411,tE Tryz.t412,tE Tryz.t413,tE Tryz.t414,tE Tryz.t415,tE Tryz.t416,tE Tryz.t417,tE Tryz.t418,tE Tryz.t419,⟨Tryz.t419.desc,Tryz.t420⟩,tE Tryz.t421,tE Tryz.t422,tE Tryz.t423,tE Tryz.t424,tE Tryz.t425,tE Tryz.t426,⟨Tryz.t426.desc,Tryz.t427⟩,tE Tryz.t428,tE Tryz.t429,⟨Tryz.t429.desc,Tryz.t430⟩,⟨Tryz.t5.desc,Tryz.t431⟩,⟨Tryz.t5.desc,Tryz.t432⟩,tE Tryz.t433,tE Tryz.t434,⟨Tryz.t21.desc,Tryz.t435⟩,⟨Tryz.t21.desc,Tryz.t436⟩,tE Tryz.t437,⟨Tryz.t437.desc,Tryz.t438⟩,tE Tryz.t439]
noncomputable def tyT:Tr (Option TyE):=trL 440 (tyL.map some)
def qq0:Option Sg:=some ⟨[.one,.one],.s .one⟩
def qq1:Option Sg:=some ⟨[.one],.s .one⟩
def qq2:Option Sg:=some ⟨[.one,.one],.tup []⟩
def qq4:Option Sg:=some ⟨[.one,.one,.one],.s .one⟩
def qq5:Option Sg:=some ⟨[.one,.agg 5],.tup []⟩
def qq6:Option Sg:=some ⟨[.agg 7,.agg 7],.s .one⟩
def qq7:Option Sg:=some ⟨[.one,.one,.one],.tup []⟩
def qq8:Option Sg:=some ⟨[.one,.one,.one,.one],.tup []⟩
def qq9:Option Sg:=some ⟨[.one,.one,.one,.one],.s .one⟩
def qq10:Option Sg:=some ⟨[.agg 3,.agg 3],.s .one⟩
def qq11:Option Sg:=some ⟨[.agg 14,.agg 14],.s .one⟩
def qq12:Option Sg:=some ⟨[.agg 3],.s (.agg 3)⟩
def qq13:Option Sg:=some ⟨[.agg 3,.agg 3,.one],.s .one⟩
def qq14:Option Sg:=some ⟨[.agg 7,.one],.s .one⟩
def qq15:Option Sg:=some ⟨[.agg 2,.one],.s .one⟩
def qq16:Option Sg:=some ⟨[.agg 4,.one],.s .one⟩
def qq17:Option Sg:=some ⟨[.agg 7,.agg 7,.one],.s .one⟩
def qq18:Option Sg:=some ⟨[.one,.agg 7],.s .one⟩
def qq19:Option Sg:=some ⟨[.one],.tup [.one,.one]⟩
def qq20:Option Sg:=some ⟨[.one],.tup []⟩
def qq21:Option Sg:=some ⟨[.agg 1],.s .one⟩
def qq22:Option Sg:=some ⟨[.agg 5,.one],.s .one⟩
def qq23:Option Sg:=some ⟨[.one,.one,.one,.one,.one],.tup [.one,.one]⟩
def qq24:Option Sg:=some ⟨[.agg 2,.one,.one],.s .one⟩
def qq25:Option Sg:=some ⟨[.one],.s (.agg 6)⟩
noncomputable def sgL:List (Option Sg):=[none,none,none,some ⟨[],.s .one⟩,qq4,qq0,qq9,qq9,some ⟨[.one],.tup [.agg 2,.one]⟩,some ⟨[.one,.agg 2],.s .one⟩,some ⟨[],.s .one⟩,some ⟨[.one],.tup [.agg 4,.one]⟩,some ⟨[.agg 4],.s .one⟩,some ⟨[.one,.one,.one],.tup [.one,.one]⟩,some ⟨[.agg 4,.one,.one],.tup [.one,.one]⟩,some ⟨[.agg 14],.s (.agg 14)⟩,qq10,qq11,qq11,qq11,qq11,qq11,qq11,qq1,qq4,qq0,some ⟨[.one],.s (.agg 2)⟩,some ⟨[.agg 2,.one,.one],.tup [.agg 2,.one]⟩,qq0,qq0,qq9,some ⟨[.one],.tup [.one,.agg 7]⟩,some ⟨[.one],.tup [.agg 1,.one]⟩,some ⟨[.one,.agg 1],.tup [.agg 4,.one]⟩,qq16,qq4,qq0,some ⟨[.one,.one,.agg 2,.one],.tup [.one,.one]⟩,some ⟨[.one,.one,.agg 3],.tup [.agg 7,.one]⟩,some ⟨[.agg 3,.agg 7],.s .one⟩,some ⟨[.agg 4,.one,.one],.s .one⟩,some ⟨[.one,.one],.tup [.one,.one]⟩,qq12,some ⟨[.agg 7],.s (.agg 7)⟩,some ⟨[.agg 7,.agg 7,.one,.one],.s .one⟩,qq13,qq1,qq0,qq17,qq1,qq0,some ⟨[.agg 14],.s .one⟩,some ⟨[.agg 14],.s .one⟩,some ⟨[.agg 14,.one],.s .one⟩,qq14,qq13,qq0,qq17,qq9,qq15,some ⟨[.one,.one,.one,.one,.one,.one],.s .one⟩,some ⟨[.agg 2,.one,.one,.one,.one],.s .one⟩,qq4,qq0,qq19,none,qq4,some ⟨[.one],.s (.agg 5)⟩,qq20,qq21,some ⟨[.agg 1],.s (.agg 1)⟩,none,some ⟨[.one,.one],.s (.agg 5)⟩,qq2,qq2,qq2,qq2,some ⟨[.one,.agg 13],.s .one⟩,qq0,qq1,some ⟨[.agg 13,.one],.tup [.one,.agg 3,.one]⟩,some ⟨[.agg 3,.agg 3],.s (.agg 3)⟩,qq1,some ⟨[.one,.agg 2,.one],.s .one⟩,some ⟨[.agg 3],.s .one⟩,some ⟨[.one,.one,.agg 2,.agg 3],.s .one⟩,qq2,qq10,some ⟨[.agg 13,.one],.s (.agg 7)⟩,qq14,qq6,qq17,some ⟨[.agg 4],.s .one⟩,qq4,qq0,some ⟨[.agg 4,.one],.tup [.one,.one]⟩,some ⟨[.agg 4,.agg 3],.tup [.agg 7,.one]⟩,some ⟨[.agg 3,.agg 7],.s .one⟩,qq12,qq12,qq1,qq1,qq0,qq13,qq0,qq1,qq14,qq14,qq0,qq13,qq20,some ⟨[.one],.tup [.agg 5,.one]⟩,qq0,qq0,qq4,qq2,qq0,qq2,qq2,qq2,qq21,qq0,qq22,some ⟨[.agg 1,.agg 5],.s .one⟩,qq1,qq1,qq8,qq16,qq2,qq7,some ⟨[.one,.one],.tup [.agg 2,.one]⟩,qq7,qq7,qq5,qq5,qq5,qq5,qq5,qq5,qq5,qq5,qq5,qq5,qq5,qq5,qq5,qq2,some ⟨[.one,.one],.s (.agg 3)⟩,qq2,qq4,qq0,qq18,qq18,some ⟨[.agg 13,.one],.s .one⟩,qq1,some ⟨[.one,.one,.one,.one,.one],.tup []⟩,qq1,qq13,qq10,qq0,qq10,qq1,qq10,qq4,qq6,qq0,qq1,qq21,qq1,qq15,some ⟨[.one,.one],.s (.agg 3)⟩,some ⟨[.agg 3,.agg 3],.s (.agg 3)⟩,some ⟨[.agg 4,.agg 3],.s .one⟩,qq10,some ⟨[.agg 4,.agg 13],.s (.agg 7)⟩,qq1,qq12,qq0,qq1,qq0,qq0,qq1,qq0,qq19,qq0,qq1,none,qq0,qq0,qq9,qq2,qq2,qq7,qq2,qq2,qq0,qq2,qq2,qq0,qq0,qq1,some ⟨[.agg 4,.one,.one],.s .one⟩,qq16,qq1,qq0,qq22,qq1,qq7,qq2,some ⟨[.one,.agg 5,.one],.tup [.agg 5,.one]⟩,some ⟨[.one,.agg 5,.one,.agg 13],.tup []⟩,qq22,qq1,some ⟨[.one,.agg 5,.one,.one],.s .one⟩,qq16,qq12,some ⟨[.one,.agg 3,.agg 3],.s (.agg 3)⟩,qq4,qq0,qq14,some ⟨[.one,.agg 7,.one],.tup [.one,.one]⟩,qq6,qq4,qq7,qq8,qq8,qq8,some ⟨[.one,.one,.one,.one],.tup [.one,.one]⟩,qq8,qq9,some ⟨[.one,.one,.one,.one,.one],.s .one⟩,qq23,qq1,qq1,qq1,qq17,qq6,qq0,qq6,qq1,qq2,qq7,qq24,some ⟨[.one,.agg 3,.agg 3],.s (.agg 3)⟩,qq18,qq18,qq6,none,qq0,qq0,qq1,none,qq1,qq0,some ⟨[.one,.one],.s (.agg 5)⟩,qq2,qq8,qq2,qq2,qq0,qq1,qq1,qq1,qq1,qq2,qq2,qq7,qq0,qq7,qq2,qq0,qq1,qq0,qq0,qq0,qq4,qq6,qq6,qq6,qq0,qq6,qq6,qq0,none,qq2,some ⟨[.one,.one,.one,.one,.one],.tup []⟩,qq1,qq1,qq9,some ⟨[.one,.one,.one,.one,.one,.one],.s .one⟩,qq1,qq0,some ⟨[.agg 5],.s .one⟩,qq0,some ⟨[.one,.agg 5],.s .one⟩,qq0,qq8,qq0,qq4,some ⟨[.one,.one],.tup [.agg 3,.one]⟩,qq8,qq2,qq24,none,qq19,some ⟨[.one],.tup [.agg 2,.one]⟩,qq0,qq0,qq1,qq1,qq2,qq23,qq1,qq1,qq2,qq23,qq1,qq4,qq0,qq7,some ⟨[.agg 2,.one,.one,.one],.s .one⟩,qq15,qq15,qq24,qq2,qq2,qq2,qq2,qq2,qq2,qq2,qq2,qq2,qq2,qq2,qq2,qq1,qq1,qq1,qq1,qq20,qq1,qq1,qq1,qq1,qq0,qq4,qq2,qq2,qq15,qq2,qq2,qq2,some ⟨[.one,.one,.agg 6],.tup []⟩,qq25,qq1,qq1,qq2,qq2,some ⟨[.one,.one,.one,.one],.s (.agg 6)⟩,qq25,qq25,qq2,qq2,none,none,none,none,none,none,none,none,none,none,none,none,none,none,none,none,none,none,none,none,none,none,none,none]
noncomputable def sgT:Tr (Option Sg):=trL 388 sgL
noncomputable def stL:List Nat:=[0,3373387676861774534066755852973466140361675031501434344355528988127856,19258639122788737943528200732467380325125787330919333919599477226230747621387186184078692808091452547588951011979888,1387731199632867458603377410173546321287677905480759064165647090645179480288320895870878478166077273640702718575131638089663032291952,10530868094913534011589670607174815892827503702032708398586237007868834702709785611286158684251495702216181096676111958708429470683040126963615900055987815207914472690606445071786424297479977814226849583353146864240,66103330393709973137926141397927284424628867859630125829372730394429183777072941789247645673169683451597134627199270885426082348515536318599396541622356567237944452125570782989501875122667147090482814762030528251893987657403479622972725165338918599354329815699270868628080,1147904343771263238401901393773836064384111650893324498094657054152197092574594792169593571216837504769421936,68420430646614029312247120962967638038641908818085495258175908545750747255515776196498020693701522032,519211898051010518709293755598491374107400179793124616314121231632824288351534991888994867057225291512705680439539531831873678231622217856522206181264210786958294578230452386482057840,4763246948333984016566410534862501235556080161594971335605401893744548033990595298068573224470190342616577708415841014463768496738558532149504543312735058079666711590041628913518202826346741987325585723195011796235247394865474659030194876101427108537410491469342973401958600271647896203888,6331441367373268903204172477082855667723943262838210982759717290598881353462559930582576388438636176497033056953184167622059223009473628531327011486883944510727392036589925185464501886442112832273305763345188936925573364052841280354965983382769670726470988127560160999098647498134320786810063653536349834981541118029853586032,2964175850346770325492149934068151265148152208127113262654959421788115352022186978173777616660191934452871557140038256504986787919940241847055083602377527861947008188412922079647039975948568937164817232472563245786148783394878064,13259105644739934752968012037775170910601080631773430813380731252,82715225197843757784567890205849265291313030115193380105894925968301306996553631835226259516010935456548760114709841654542960,9975042383808756751997755764,133562636007801,121468008102265,121420578912633,121420762741113,121420578191737,121420578188921,218761504,47356866181236226030629615511081921505537742918583635707057254358312221231033175584760417,270211885617516653982000,435610083700,1668248176,40,41,59,111516266162547,1702195828,435728179558,1013866857139168856493015739252390649739422828853819106890363778118420553376247557433637691341895324351018602695588957474325319502760499485336098898398377509666851054660423406800006203933793007272033180812049178612605246075062580585469430410618860250057463399279570354286669047577758927328864388992123306212451509403152394148136105363817402562688186708175358218852349079190158732807302672745370040257219644697201681238697346923541678507645485296520536209706771857694240900605172937619415410180424934769249448772944216470541052485265558808433676546390051204254346932932316488017972311616136051587427851453983453479168,44,123,125,196808924543273351654744084199064270893917454994213902225728097,237927390410950444456928663707796224754864904193074819559483181009558347043374296609072,1684104562,7628147,7632240,111550592214372,1851876211,1801678700,28555834798400882,26217,7499622,7628140,1953066341,7738135660106379122,1886349411,61,46,7105633,110386873460851,91,93,11563,42]
noncomputable def natI (f:FuncId):Option (Nat × Sg):=match Nat.beq f 303 with | true=>some (0,⟨[.one,.one],.s .one⟩) | false=>none
noncomputable def nsgI (i:Nat):Option (FuncId × Sg):=match Nat.beq i 0 with | true=>some (303,⟨[.one,.one],.s .one⟩) | false=>none
noncomputable def insI (f:FuncId):Option (TypeId × TypeId × Nat):=match Nat.beq f 222 with | true=>some (36,43,7) | false=>none
noncomputable def DI:Cd:=⟨tget none tyT,tget none sgT,natI,fun i=>tget 0 stT i,59,insI⟩
abbrev FcI (x:FC):Prop:=FCOk DI Tryz.prog x
end
end Go.Proofs.YtceaohiahajolaaGreatDoor.VM
namespace Go.Proofs.YtceaohiahajolaaGreatDoor.VM
open Go Go.RowKit
noncomputable section
set_option maxRecDepth 1000000
noncomputable def x3:FC:=⟨3,Tryz.f3,⟨lyR [3,6,50,1,15,5,32,2,32,3,32,1,25,1,32,2,32,27,27,1,32,1,29,1,32,2,32,27,31,1,32,1,17104934,1,17104928,1,163884,1,48,1,32,3,163878,1,42,4,229426,1,950328,1,84,3,163930,1,94,6],2048,none,0,245247⟩,c3,0⟩
theorem y3:FcI x3:=⟨by kernel_rfl,by kernel_rfl⟩
noncomputable def x4:FC:=⟨4,Tryz.f4,⟨lyR [3,18,54,2,39,1,54,1,17236034,1,54,1,17236024,1,294988,1,84,1,54,1,41,1,54,1,294966,1,62,1,16908354,1,54,4,16908350,1,70,2,16908360,1,294966,1,62,3,16908356,1,76,2,54,17,43,1,54,3,45,1,54,2,54,3,950332,1,950360,1,54,20,229470,1,100,4,229484,1,114,5,491644,1,138,4,491666,1,160,21,47,1,54,8,49,1,54,2,54,3,51,1,54,2,54,3,950332,1,88,3,950366,1,122,4,950402,1,158,3,950436,1,192,6,950476,1,232,3,950510,1,266,4,950546,1,302,3,950580,1,336,7,950622,1,378,3,950656,1,412,4,950692,1,448,3,950726,1,482,2,53,1,54,1],3456,none,0,50265051⟩,c4,0⟩
theorem y4:FcI x4:=⟨by kernel_rfl,by kernel_rfl⟩
noncomputable def x5:FC:=⟨5,Tryz.f5,⟨lyR [3,14,40,2,31,1,40,1,17236020,1,40,1,17236010,1,294974,1,70,1,40,1,33,1,40,1,16908344,1,294952,1,48,2,16908340,1,60,2,16908342,1,294952,1,48,1,16908338,1,58,2,40,18,35,1,40,6,37,1,40,1,17104944,1,40,1,17104938,1,163894,1,58,1,40,2,40,1,39,1,40,15,40,7,163894,1,58,13],2560,none,0,130523⟩,c5,0⟩
theorem y5:FcI x5:=⟨by kernel_rfl,by kernel_rfl⟩
noncomputable def x6:FC:=⟨6,Tryz.f6,⟨lyR [3,23,64,2,49,1,64,1,17236044,1,64,1,17236034,1,294998,1,94,1,64,1,51,1,64,1,16908368,1,294976,1,72,2,16908364,1,84,2,64,6,53,1,64,1,64,3,55,1,64,2,64,4,57,1,64,4,950344,1,100,2,17104968,1,64,1,17104962,1,163918,1,82,1,17104968,1,64,1,17104962,1,163918,1,82,1,64,15,163934,1,98,3,59,1,64,1,61,1,64,1,64,3,64,3,163904,1,64,2,63,1,64,2,64,14,64,14,64,1,163906,1,70,4],4096,none,0,1073479387⟩,c6,0⟩
theorem y6:FcI x6:=⟨by kernel_rfl,by kernel_rfl⟩
noncomputable def x7:FC:=⟨7,Tryz.f7,⟨lyR [3,15,36,12,33,1,36,1,17236016,1,36,1,17236006,1,294970,1,66,1,36,1,35,1,36,1,16908340,1,294948,1,44,2,16908336,1,56,2,16908338,1,294948,1,44,1,16908334,1,54,2,36,7,163890,1,54,10],2304,none,0,475⟩,c7,0⟩
theorem y7:FcI x7:=⟨by kernel_rfl,by kernel_rfl⟩
noncomputable def x8:FC:=⟨8,Tryz.f8,⟨lyR [3,9,30,1,163872,1,30,3,21,1,30,2,30,1,23,3,30,1,17104940,1,163870,1,34,2,17104934,1,163890,1,54,1,29,1,163870,1,30,1,163870,1],1920,none,0,8191⟩,c8,0⟩
theorem y8:FcI x8:=⟨by kernel_rfl,by kernel_rfl⟩
noncomputable def x9:FC:=⟨9,Tryz.f9,⟨lyR [3,1,163845,1,9,10,42,3,42,1,42,14,29,1,42,1,31,4,42,3,42,4,42,3,950320,1,76,7,950362,1,39,1,42,12,950338,1,950366,1,122,4,42,7,950328,1,950356,1,112,3,41,1,42,6,42,1,42,9,950332,1,88,6,950372,1,128,2],2688,none,0,114687⟩,c9,0⟩
theorem y9:FcI x9:=⟨by kernel_rfl,by kernel_rfl⟩
noncomputable def x10:FC:=⟨10,Tryz.f10,⟨lyR [3,2,64,1,7,5,64,1,151126048,1,151126032,1,48,1,491570,1,151126048,1,151126032,1,48,1,491570,1,151126048,1,151126032,1,48,1,491570,1,151126048,1,151126032,1,48,1,491570,1,16,34],1024,none,0,63⟩,c10,0⟩
theorem y10:FcI x10:=⟨by kernel_rfl,by kernel_rfl⟩
noncomputable def x11:FC:=⟨11,Tryz.f11,⟨lyR [3,8,17039386,1,20,1,17039382,1,98334,1,32,1,20,1,19,1,294932,1,17236002,1,20,1,98326,1,17235992,1,294956,1,52,1,294932,1,28,2],1280,none,0,55⟩,c11,0⟩
theorem y11:FcI x11:=⟨by kernel_rfl,by kernel_rfl⟩
noncomputable def x12:FC:=⟨12,Tryz.f12,⟨lyR [294915,1,11,6,30,1,23,4,30,2,360482,1,294942,1,38,2,30,11,229428,1,58,2,30,1,30,1],1920,none,0,511⟩,c12,0⟩
theorem y12:FcI x12:=⟨by kernel_rfl,by kernel_rfl⟩
noncomputable def x13:FC:=⟨13,Tryz.f13,⟨lyR [3,23,68,2,229448,1,68,3,49,4,68,2,163912,1,16908374,1,68,4,163916,1,80,1,16908370,1,90,2,68,1,57,5,68,1,229446,1,17432674,1,68,4,229452,1,17432658,1,491634,1,128,1,67,1,68,3,229450,1,491600,1,229470,1,491620,1,114,3,950392,1,148,2,68,1,68,1,68,1,68,1],4352,none,0,2097151⟩,c13,0⟩
theorem y13:FcI x13:=⟨by kernel_rfl,by kernel_rfl⟩
noncomputable def x14:FC:=⟨14,Tryz.f14,⟨lyR [294915,1,11,9,30,4,29,1,30,2,30,1,294944,1,40,9,163898,1,62,2,30,2,16908322,1,38,2],1920,none,0,127⟩,c14,0⟩
theorem y14:FcI x14:=⟨by kernel_rfl,by kernel_rfl⟩
noncomputable def x15:FC:=⟨15,Tryz.f15,⟨lyR [950275,1,31,2,34,5,229420,1,229426,1,56,1,491578,1,491592,1,86,4,950366,1],2176,none,0,3⟩,c15,0⟩
theorem y15:FcI x15:=⟨by kernel_rfl,by kernel_rfl⟩
noncomputable def x16:FC:=⟨16,Tryz.f16,⟨lyR [229379,1,229385,1,15,4,28,20,23,1,28,4,25,1,28,2,28,4,491556,1,50,4,491578,1,27,1],1792,none,0,383⟩,c16,0⟩
theorem y16:FcI x16:=⟨by kernel_rfl,by kernel_rfl⟩
noncomputable def x17:FC:=⟨17,Tryz.f17,⟨lyR [950275,1,950303,1,59,6,80,2,71,4,80,1,491602,1,491600,1,94,1,491616,1,79,1,80,5,80,1,80,5],5120,none,0,511⟩,c17,0⟩
theorem y17:FcI x17:=⟨by kernel_rfl,by kernel_rfl⟩
noncomputable def x18:FC:=⟨18,Tryz.f18,⟨lyR [950275,1,950303,1,59,6,74,5,71,1,74,2,74,5,491604,1,491594,1,88,1,491610,1,73,1,74,5,74,5],4736,none,0,511⟩,c18,0⟩
theorem y18:FcI x18:=⟨by kernel_rfl,by kernel_rfl⟩
end
end Go.Proofs.YtceaohiahajolaaGreatDoor.VM
namespace Go.Proofs.YtceaohiahajolaaGreatDoor.VM
open Go Go.RowKit
noncomputable section
set_option maxRecDepth 1000000
noncomputable def x19:FC:=⟨19,Tryz.f19,⟨lyR [950275,1,950303,1,59,3,64,1,491586,1,80,1,491602,1,96,2,950372,1,128,3,950406,1,162,3],4096,none,0,3⟩,c19,0⟩
theorem y19:FcI x19:=⟨by kernel_rfl,by kernel_rfl⟩
noncomputable def x20:FC:=⟨20,Tryz.f20,⟨lyR [950275,1,950303,1,59,3,64,1,491586,1,80,1,491602,1,96,2,950372,1,128,2,950404,1,160,5],4096,none,0,3⟩,c20,0⟩
theorem y20:FcI x20:=⟨by kernel_rfl,by kernel_rfl⟩
noncomputable def x21:FC:=⟨21,Tryz.f21,⟨lyR [950275,1,950303,1,59,6,82,8,71,1,82,2,73,4,82,1,491604,1,82,1,82,4,81,1,82,1],5248,none,0,2047⟩,c21,0⟩
theorem y21:FcI x21:=⟨by kernel_rfl,by kernel_rfl⟩
noncomputable def x22:FC:=⟨22,Tryz.f22,⟨lyR [950275,1,950303,1,59,7,80,8,73,1,80,5,75,1,80,2,80,5,77,1,80,2,80,5,491610,1,104,5,491634,1,80,7,491614,1,491628,1,122,9,79,1],5120,none,0,8191⟩,c22,0⟩
theorem y22:FcI x22:=⟨by kernel_rfl,by kernel_rfl⟩
noncomputable def x23:FC:=⟨23,Tryz.f23,⟨lyR [3,5,18,3,13,1,18,2,18,3,15,1,18,2,18,4,17,1,18,1],1152,none,0,1023⟩,c23,0⟩
theorem y23:FcI x23:=⟨by kernel_rfl,by kernel_rfl⟩
noncomputable def x24:FC:=⟨24,Tryz.f24,⟨lyR [3,13,42,2,42,7,29,1,42,2,31,1,42,2,42,13,33,1,42,2,35,1,42,2,42,6,950326,1,82,9,950372,1,42,13,950340,1,950368,1,124,11,950418,1,950446,1,202,3,37,1,42,2,39,1,42,2,42,16,950346,1,102,6,950386,1,142,2,41,1,42,8,950330,1,86,5,950368,1,124,2],2688,none,0,1572863⟩,c24,0⟩
theorem y24:FcI x24:=⟨by kernel_rfl,by kernel_rfl⟩
noncomputable def x25:FC:=⟨25,Tryz.f25,⟨lyR [3,5,14,1,13,1,14,7],896,none,0,11⟩,c25,0⟩
theorem y25:FcI x25:=⟨by kernel_rfl,by kernel_rfl⟩
noncomputable def x26:FC:=⟨26,Tryz.f26,⟨lyR [3,6,26,3,163872,1,26,1,15,3,26,1,26,1,21,3,26,1,26,4,163874,1,38,3,950316,1,72,3,950350,1,106,4,950386,1,142,3,950420,1,176,4,950456,1,212,3,950490,1,246,1,229624,1,26,1,26,1,163866,1],1664,none,0,4095⟩,c26,0⟩
theorem y26:FcI x26:=⟨by kernel_rfl,by kernel_rfl⟩
noncomputable def x27:FC:=⟨27,Tryz.f27,⟨lyR [163843,1,7,10,163868,1,32,2,28,2,163872,1,28,1,28,7,163882,1,229422,1,52,7,27,1,163868,1,163868,1],1792,none,0,255⟩,c27,0⟩
theorem y27:FcI x27:=⟨by kernel_rfl,by kernel_rfl⟩
noncomputable def x28:FC:=⟨28,Tryz.f28,⟨lyR [3,4,10,8],640,none,0,3⟩,c28,0⟩
theorem y28:FcI x28:=⟨by kernel_rfl,by kernel_rfl⟩
noncomputable def x29:FC:=⟨29,Tryz.f29,⟨lyR [3,5,12,4],768,none,0,3⟩,c29,0⟩
theorem y29:FcI x29:=⟨by kernel_rfl,by kernel_rfl⟩
noncomputable def x30:FC:=⟨30,Tryz.f30,⟨lyR [3,6,14,7,950300,1,950328,1,84,3],896,none,0,3⟩,c30,0⟩
theorem y30:FcI x30:=⟨by kernel_rfl,by kernel_rfl⟩
noncomputable def x31:FC:=⟨31,Tryz.f31,⟨lyR [3,7,46,1,17,2,17236008,1,24,3,17235998,1,294962,1,58,1,24,1,21,1,491544,1,16908326,1,294936,1,32,1,16908322,1,42,2,17104928,1,24,1,17104922,1,163878,1,42,1,24,1,23,1,491544,1,24,10,491564,1],1536,none,0,503⟩,c31,0⟩
theorem y31:FcI x31:=⟨by kernel_rfl,by kernel_rfl⟩
noncomputable def x32:FC:=⟨32,Tryz.f32,⟨lyR [3,6,16908312,1,18,1,16908308,1,28,2,18,1,15,1,98322,1,20,1,18,1,229396,1,26,1,18,1,18,1,65556,1,18,4,98330,1],1152,some 1024,0,247⟩,c32,0⟩
theorem y32:FcI x32:=⟨by kernel_rfl,by kernel_rfl⟩
noncomputable def x33:FC:=⟨33,Tryz.f33,⟨lyR [3,1,98309,1,7,9,98354,1,52,1,25,1,294962,1,58,1,98354,2,54,4,294974,1,70,2,360522,1,84,1,50,7,27,3,50,1,50,9,50,1,50,1,50,4,33,4,50,2,50,2,360502,1,64,1,41,1,50,2,65590,1,50,2,65590,1,50,1,50,7,43,3,50,1,50,10,65606,1,50,1,50,5,294972,1],3200,some 3072,0,8388603⟩,c33,0⟩
theorem y33:FcI x33:=⟨by kernel_rfl,by kernel_rfl⟩
noncomputable def x34:FC:=⟨34,Tryz.f34,⟨lyR [294915,1,11,6,24,8,23,1,294936,1,426016,1,44,1,24,6,24,10,65580,1,24,4,24,1,884762,1,52,1,24,4],1536,none,0,507⟩,c34,0⟩
theorem y34:FcI x34:=⟨by kernel_rfl,by kernel_rfl⟩
noncomputable def x35:FC:=⟨35,Tryz.f35,⟨lyR [3,15,52,4,52,7,33,3,52,1,52,3,229434,1,64,1,52,1,52,7,39,1,52,2,41,4,52,1,884790,1,4378984538,1,884788,1,78,1,4378984528,1,100,1,229478,1,108,1,52,10,49,1,52,5,229438,1,229444,1,229450,1,80,1,52,1,52,2,51,1,52,1],3328,none,0,524287⟩,c35,0⟩
theorem y35:FcI x35:=⟨by kernel_rfl,by kernel_rfl⟩
noncomputable def x36:FC:=⟨36,Tryz.f36,⟨lyR [3,9,30,1,21,1,30,1,23,3,30,4,163878,1,42,2,30,2,30,3,29,1,30,4,163878,1,42,2,30,1],1920,none,0,2047⟩,c36,1⟩
theorem y36:FcI x36:=⟨by kernel_rfl,by kernel_rfl⟩
noncomputable def x37:FC:=⟨37,Tryz.f37,⟨lyR [3,2,163847,1,11,14,54,1,163896,1,60,3,39,1,54,2,54,2,229434,1,229430,1,60,1,54,1,229432,1,62,2,54,9,41,1,54,2,54,2,163898,1,62,3,229444,1,43,4,54,1,229432,1,229430,1,60,1,54,3,51,1,54,2,54,1,229432,1,62,2,54,1,54,3,53,1,54,1,65592,1,54,1],3456,none,1,2097147⟩,c37,0⟩
theorem y37:FcI x37:=⟨by kernel_rfl,by kernel_rfl⟩
noncomputable def x38:FC:=⟨38,Tryz.f38,⟨lyR [3,2,229383,1,13,6,28,18,25,1,491548,1,28,4,884772,1,62,1,491584,1,28,3,27,1,491548,1,491548,1],1792,none,1,127⟩,c38,0⟩
theorem y38:FcI x38:=⟨by kernel_rfl,by kernel_rfl⟩
noncomputable def x39:FC:=⟨39,Tryz.f39,⟨lyR [229379,1,491529,1,23,6,44,2,44,1,35,4,44,1,491566,1,491564,1,491578,1,43,1,44,5,44,1,44,3],2816,none,1,511⟩,c39,0⟩
theorem y39:FcI x39:=⟨by kernel_rfl,by kernel_rfl⟩
noncomputable def x40:FC:=⟨40,Tryz.f40,⟨lyR [294915,1,11,11,294946,1,42,4,34,15,34,3,34,3,33,1,34,2,34,6,163886,1,294962,1,58,2,34,1],2176,none,1,1023⟩,c40,0⟩
theorem y40:FcI x40:=⟨by kernel_rfl,by kernel_rfl⟩
noncomputable def x41:FC:=⟨41,Tryz.f41,⟨lyR [3,15,42,3,33,1,42,2,42,7,35,1,42,2,42,7,294968,1,16908344,1,294954,1,50,1,16908340,1,60,2,42,1,37,1,42,3,39,1,42,2,17432654,1,294954,1,50,3,229432,1,17432638,1,491614,1,108,1,41,1,42,6,229430,1,491580,1,74,3,229456,1,491606,1,100,6,950384,1,140,2,42,1],2688,none,1,524287⟩,c41,0⟩
theorem y41:FcI x41:=⟨by kernel_rfl,by kernel_rfl⟩
noncomputable def x42:FC:=⟨42,Tryz.f42,⟨lyR [229379,1,9,4,18,4,229402,1,18,4,17,1,18,2,18,6,491550,1,491564,1,58,3,229394,1],1152,none,1,127⟩,c42,0⟩
theorem y42:FcI x42:=⟨by kernel_rfl,by kernel_rfl⟩
noncomputable def x43:FC:=⟨43,Tryz.f43,⟨lyR [491523,1,17,2,20,5,229406,1,229412,1,42,4,491570,1],1280,none,1,3⟩,c43,0⟩
theorem y43:FcI x43:=⟨by kernel_rfl,by kernel_rfl⟩
noncomputable def x44:FC:=⟨44,Tryz.f44,⟨lyR [491523,1,491537,1,31,7,44,19,229458,1,88,1,229466,1,96,4],2816,none,1,3⟩,c44,0⟩
theorem y44:FcI x44:=⟨by kernel_rfl,by kernel_rfl⟩
noncomputable def x45:FC:=⟨45,Tryz.f45,⟨lyR [229379,1,229385,1,15,6,229402,1,229408,1,229414,1,229420,1,26,28,26,9],1664,none,1,15⟩,c45,0⟩
theorem y45:FcI x45:=⟨by kernel_rfl,by kernel_rfl⟩
end
end Go.Proofs.YtceaohiahajolaaGreatDoor.VM
namespace Go.Proofs.YtceaohiahajolaaGreatDoor.VM
open Go Go.RowKit
noncomputable section
set_option maxRecDepth 1000000
noncomputable def x46:FC:=⟨46,Tryz.f46,⟨lyR [3,10,22,2,22,4,22,1,22,2],1408,none,1,255⟩,c46,0⟩
theorem y46:FcI x46:=⟨by kernel_rfl,by kernel_rfl⟩
noncomputable def x47:FC:=⟨47,Tryz.f47,⟨lyR [3,8,20,4,20,5,19,1,20,12],1280,none,1,63⟩,c47,0⟩
theorem y47:FcI x47:=⟨by kernel_rfl,by kernel_rfl⟩
noncomputable def x48:FC:=⟨48,Tryz.f48,⟨lyR [491523,1,491537,1,31,5,40,18,229452,1,82,1,229460,1,90,4],2560,none,1,3⟩,c48,0⟩
theorem y48:FcI x48:=⟨by kernel_rfl,by kernel_rfl⟩
noncomputable def x49:FC:=⟨49,Tryz.f49,⟨lyR [3,11,28,2,28,3,25,1,28,2,28,9,27,1,28,1,28,1],1792,none,1,8191⟩,c49,0⟩
theorem y49:FcI x49:=⟨by kernel_rfl,by kernel_rfl⟩
noncomputable def x50:FC:=⟨50,Tryz.f50,⟨lyR [3,5,12,9],768,none,1,3⟩,c50,0⟩
theorem y50:FcI x50:=⟨by kernel_rfl,by kernel_rfl⟩
noncomputable def x51:FC:=⟨51,Tryz.f51,⟨lyR [950275,1,31,2,34,5],2176,none,1,3⟩,c51,0⟩
theorem y51:FcI x51:=⟨by kernel_rfl,by kernel_rfl⟩
noncomputable def x52:FC:=⟨52,Tryz.f52,⟨lyR [950275,1,31,2,34,5],2176,none,1,3⟩,c52,0⟩
theorem y52:FcI x52:=⟨by kernel_rfl,by kernel_rfl⟩
noncomputable def x53:FC:=⟨53,Tryz.f53,⟨lyR [950275,1,31,6,46,5,43,1,46,2,46,5,491576,1,46,6,491578,1,72,1,491594,1,88,6,491620,1,114,1,491636,1,130,2,45,1],2944,none,1,255⟩,c53,0⟩
theorem y53:FcI x53:=⟨by kernel_rfl,by kernel_rfl⟩
noncomputable def x54:FC:=⟨54,Tryz.f54,⟨lyR [491523,1,17,3,22,7,491556,1,491570,1,64,10],1408,none,1,3⟩,c54,0⟩
theorem y54:FcI x54:=⟨by kernel_rfl,by kernel_rfl⟩
noncomputable def x55:FC:=⟨55,Tryz.f55,⟨lyR [229379,1,229385,1,15,5,229400,1,229406,1,229412,1,229418,1,229400,1,229406,1,36,14],1536,none,2,7⟩,c55,0⟩
theorem y55:FcI x55:=⟨by kernel_rfl,by kernel_rfl⟩
noncomputable def x56:FC:=⟨56,Tryz.f56,⟨lyR [3,5,12,4],768,none,1,3⟩,c56,0⟩
theorem y56:FcI x56:=⟨by kernel_rfl,by kernel_rfl⟩
noncomputable def x57:FC:=⟨57,Tryz.f57,⟨lyR [491523,1,491537,1,31,5,40,18,229452,1,82,1,229460,1,90,4],2560,none,1,3⟩,c57,0⟩
theorem y57:FcI x57:=⟨by kernel_rfl,by kernel_rfl⟩
noncomputable def x58:FC:=⟨58,Tryz.f58,⟨lyR [3,18,54,3,39,1,54,1,41,1,54,2,54,3,54,7,43,1,54,8,950342,1,54,3,45,1,54,2,54,3,47,1,54,2,54,16,950358,1,114,3,950392,1,148,2,54,4,49,1,54,2,54,3,950332,1,88,3,950366,1,122,7,950408,1,164,3,950442,1,198,16,51,1,54,3,54,3,54,11,53,1],3456,none,1,1073741823⟩,c58,0⟩
theorem y58:FcI x58:=⟨by kernel_rfl,by kernel_rfl⟩
noncomputable def x59:FC:=⟨59,Tryz.f59,⟨lyR [163843,1,7,9,40,3,40,1,25,3,40,1,40,6,40,1,40,3,40,2,40,2,31,1,40,2,40,1,33,3,40,1,40,4,163888,1,40,10,163900,1,229440,1,70,4,163918,1,229458,1,88,2,39,1,40,10,40,4,40,1,40,1],2560,none,1,1048575⟩,c59,0⟩
theorem y59:FcI x59:=⟨by kernel_rfl,by kernel_rfl⟩
noncomputable def x60:FC:=⟨60,Tryz.f60,⟨lyR [3,14,50,3,50,6,31,4,50,2,50,10,50,2,39,1,163890,1,54,25,41,1,50,6,50,2,50,3,43,1,50,2,50,1,50,9,163908,1,72,12,45,1,50,12,50,1,47,1,50,11,49,1,50,1],3200,none,1,16777215⟩,c60,0⟩
theorem y60:FcI x60:=⟨by kernel_rfl,by kernel_rfl⟩
noncomputable def x61:FC:=⟨61,Tryz.f61,⟨lyR [163843,1,7,11,28,7,163882,1,229422,1,52,2,28,4,163876,1,229416,1,46,1],1792,none,2,15⟩,c61,0⟩
theorem y61:FcI x61:=⟨by kernel_rfl,by kernel_rfl⟩
noncomputable def x62:FC:=⟨62,Tryz.f62,⟨lyR [3,5,12,8,163868,1,229408,1,38,3],768,none,2,3⟩,c62,0⟩
theorem y62:FcI x62:=⟨by kernel_rfl,by kernel_rfl⟩
noncomputable def x63:FC:=⟨63,Tryz.f63,⟨lyR [3,6,22,1,15,3,22,1,22,5,21,1,22,1,22,1],1408,none,1,255⟩,c63,0⟩
theorem y63:FcI x63:=⟨by kernel_rfl,by kernel_rfl⟩
noncomputable def x64:FC:=⟨64,Tryz.f64,⟨lyR [3,8,24,2,19,1,24,2,24,1,163866,1,30,1,24,1,65562,1,24,6,21,1,24,1,65562,1,17301542,1,24,1,17301530,1,360498,1,60,1,24,1,23,1,24,5,24,1,360474,1,36,2,24,5,360482,1,44,2],1536,none,1,7163⟩,c64,0⟩
theorem y64:FcI x64:=⟨by kernel_rfl,by kernel_rfl⟩
noncomputable def x67:FC:=⟨67,Tryz.f67,⟨lyR [3,3,8,5,360466,1],512,none,2,3⟩,c67,0⟩
theorem y67:FcI x67:=⟨by kernel_rfl,by kernel_rfl⟩
noncomputable def x68:FC:=⟨68,Tryz.f68,⟨lyR [3,2,6,4],384,none,1,3⟩,c68,0⟩
theorem y68:FcI x68:=⟨by kernel_rfl,by kernel_rfl⟩
noncomputable def x69:FC:=⟨69,Tryz.f69,⟨lyR [98307,1,5,2,98314,1,12,9,9,1,10,5],640,none,1,11⟩,c69,0⟩
theorem y69:FcI x69:=⟨by kernel_rfl,by kernel_rfl⟩
noncomputable def x70:FC:=⟨70,Tryz.f70,⟨lyR [98307,1,5,4,18,3,18,1,13,3,18,1,18,10,18,1,18,1,98324,1],1152,none,1,255⟩,c70,0⟩
theorem y70:FcI x70:=⟨by kernel_rfl,by kernel_rfl⟩
noncomputable def x72:FC:=⟨72,Tryz.f72,⟨lyR [3,5,12,10,360480,1],768,none,1,3⟩,c72,0⟩
theorem y72:FcI x72:=⟨by kernel_rfl,by kernel_rfl⟩
noncomputable def x73:FC:=⟨73,Tryz.f73,⟨lyR [3,5,58,1,13,6,50,1,25,1,34,2,360486,1,16908338,1,34,6,16908334,1,54,2,34,4,65578,1,34,17,65604,1,34,2,163878,1,34,1,34,1,27,4,34,3,34,2,360486,1,48,1,16908330,1,34,2,16908326,1,46,2,34,4,65578,1,34,13,34,6,34,1,34,31,16908384,1,100,1,34,12,163898,1,62,13],2176,none,1,131071⟩,c73,0⟩
theorem y73:FcI x73:=⟨by kernel_rfl,by kernel_rfl⟩
noncomputable def x74:FC:=⟨74,Tryz.f74,⟨lyR [3,5,12,2,360464,1,12,6,294936,1,32,5,65578,1,12,11,65570,1,12,17,12,17,360494,1,56,4],768,none,1,31⟩,c74,0⟩
theorem y74:FcI x74:=⟨by kernel_rfl,by kernel_rfl⟩
noncomputable def x75:FC:=⟨75,Tryz.f75,⟨lyR [3,5,12,4,12,5,360470,1,12,2,65552,1],768,none,1,15⟩,c75,0⟩
theorem y75:FcI x75:=⟨by kernel_rfl,by kernel_rfl⟩
noncomputable def x76:FC:=⟨76,Tryz.f76,⟨lyR [3,8,26,2,26,9,19,4,26,2,26,4,26,8,360490,1,26,5,360484,1,65582,1,26,1],1664,none,1,255⟩,c76,0⟩
theorem y76:FcI x76:=⟨by kernel_rfl,by kernel_rfl⟩
noncomputable def x77:FC:=⟨77,Tryz.f77,⟨lyR [3,1,884741,1,31,4,38,5,38,5,38,5,884784,1,74,4,38,1],2432,none,1,31⟩,c77,0⟩
theorem y77:FcI x77:=⟨by kernel_rfl,by kernel_rfl⟩
noncomputable def x78:FC:=⟨78,Tryz.f78,⟨lyR [3,6,24,4,15,1,24,1,17,3,24,1,24,3,229406,1,36,3,229418,1,23,1,24,1],1536,none,1,1019⟩,c78,0⟩
theorem y78:FcI x78:=⟨by kernel_rfl,by kernel_rfl⟩
noncomputable def x79:FC:=⟨79,Tryz.f79,⟨lyR [3,3,10,1,9,1,10,3],640,none,1,11⟩,c79,0⟩
theorem y79:FcI x79:=⟨by kernel_rfl,by kernel_rfl⟩
noncomputable def x80:FC:=⟨80,Tryz.f80,⟨lyR [884739,1,29,6,48,1,41,2,48,1,48,3,45,1,48,7,229438,1,48,2,229428,1,47,1,48,1,48,1,48,1,48,2,229428,1,229424,1],3072,none,1,1991⟩,c80,0⟩
theorem y80:FcI x80:=⟨by kernel_rfl,by kernel_rfl⟩
end
end Go.Proofs.YtceaohiahajolaaGreatDoor.VM
