/-
  The program's functions, each checked, part 1. No conditions.
-/
import Derived.Test.YtppejimdibhgcaaGreatDoorS4
import Derived.Test.YtppejimdibhgcaaGreatDoorProg
import Derived.Test.YtppejimdibhgcaaGreatDoorC
set_option linter.all false
set_option linter.unusedVariables false
set_option linter.unusedSimpArgs false
namespace Go.Proofs.YtppejimdibhgcaaGreatDoor.VM
open Go Go.RowKit
noncomputable section
set_option maxRecDepth 1000000
theorem cc {α:Type} {p:α→Prop} {a:α} {l:List α} (h:p a) (h2:∀ x∈l,p x):∀ x∈a :: l,p x:=List.forall_mem_cons.2 ⟨h,h2⟩
theorem c0 {α:Type} {p:α→Prop}:∀ x∈([]:List α),p x:=fun _ h=>by cases h
def tE (i:TypeInfo):TyE:=⟨i.desc,i⟩
def ups (n a:Nat):List Nat:=Nat.rec (fun _=>[]) (fun _ ih a=>a :: ih (a+2)) n a
def rn:List Nat→List Nat
 | a :: n :: l=>ups n a++rn l
 | _=>[]
def lyR (l:List Nat):List LE:=lyD (rn l)
noncomputable def tyL:List TyE:=[tE Tryz.t0,tE Tryz.t1,tE Tryz.t2,tE Tryz.t3,tE Tryz.t4,tE Tryz.t5,⟨Tryz.t5.desc,Tryz.t6⟩,tE Tryz.t7,⟨Tryz.t7.desc,Tryz.t8⟩,tE Tryz.t9,⟨Tryz.t9.desc,Tryz.t10⟩,⟨Tryz.t9.desc,Tryz.t11⟩,tE Tryz.t12,tE Tryz.t13,⟨Tryz.t13.desc,Tryz.t14⟩,tE Tryz.t15,tE Tryz.t16,tE Tryz.t17,tE Tryz.t18,⟨Tryz.t18.desc,Tryz.t19⟩,tE Tryz.t20,tE Tryz.t21,tE Tryz.t22,tE Tryz.t23,tE Tryz.t24,tE Tryz.t25,tE Tryz.t26,tE Tryz.t27,⟨Tryz.t27.desc,Tryz.t28⟩,tE Tryz.t29,tE Tryz.t30,⟨Tryz.t30.desc,Tryz.t31⟩,tE Tryz.t32,tE Tryz.t33,tE Tryz.t34,tE Tryz.t35,⟨Tryz.t35.desc,Tryz.t36⟩,tE Tryz.t37,tE Tryz.t38,tE Tryz.t39,⟨Tryz.t39.desc,Tryz.t40⟩,tE Tryz.t41,tE Tryz.t42,tE Tryz.t43,tE Tryz.t44,tE Tryz.t45,tE Tryz.t46,tE Tryz.t47,tE Tryz.t48,tE Tryz.t49,⟨Tryz.t49.desc,Tryz.t50⟩,tE Tryz.t51,tE Tryz.t52,tE Tryz.t53,tE Tryz.t54,tE Tryz.t55,tE Tryz.t56,⟨Tryz.t56.desc,Tryz.t57⟩,tE Tryz.t58,tE Tryz.t59,tE Tryz.t60,tE Tryz.t61,⟨Tryz.t61.desc,Tryz.t62⟩,⟨Tryz.t5.desc,Tryz.t63⟩,tE Tryz.t64,⟨Tryz.t64.desc,Tryz.t65⟩,tE Tryz.t66,⟨Tryz.t61.desc,Tryz.t67⟩,tE Tryz.t68,⟨Tryz.t68.desc,Tryz.t69⟩,tE Tryz.t70,tE Tryz.t71,tE Tryz.t72,tE Tryz.t73,tE Tryz.t74,tE Tryz.t75,tE Tryz.t76,tE Tryz.t77,⟨Tryz.t77.desc,Tryz.t78⟩,tE Tryz.t79,tE Tryz.t80,tE Tryz.t81,tE Tryz.t82,tE Tryz.t83,tE Tryz.t84,tE Tryz.t85,tE Tryz.t86,tE Tryz.t87,tE Tryz.t88,⟨Tryz.t88.desc,Tryz.t89⟩,tE Tryz.t90,tE Tryz.t91,tE Tryz.t92,tE Tryz.t93,tE Tryz.t94,⟨Tryz.t94.desc,Tryz.t95⟩,tE Tryz.t96,tE Tryz.t97,tE Tryz.t98,tE Tryz.t99,⟨Tryz.t99.desc,Tryz.t100⟩,tE Tryz.t101,tE Tryz.t102,tE Tryz.t103,tE Tryz.t104,tE Tryz.t105,tE Tryz.t106,⟨Tryz.t106.desc,Tryz.t107⟩,tE Tryz.t108,tE Tryz.t109,tE Tryz.t110,⟨Tryz.t110.desc,Tryz.t111⟩,tE Tryz.t112,tE Tryz.t113,tE Tryz.t114,tE Tryz.t115,tE Tryz.t116,tE Tryz.t117,⟨Tryz.t99.desc,Tryz.t118⟩,tE Tryz.t119,⟨Tryz.t119.desc,Tryz.t120⟩,tE Tryz.t121,tE Tryz.t122,tE Tryz.t123,tE Tryz.t124,tE Tryz.t125,tE Tryz.t126,⟨Tryz.t126.desc,Tryz.t127⟩,tE Tryz.t128,⟨Tryz.t128.desc,Tryz.t129⟩,tE Tryz.t130,tE Tryz.t131,tE Tryz.t132,tE Tryz.t133,tE Tryz.t134,tE Tryz.t135,tE Tryz.t136,tE Tryz.t137,tE Tryz.t138,tE Tryz.t139,⟨Tryz.t139.desc,Tryz.t140⟩,tE Tryz.t141,tE Tryz.t142,tE Tryz.t143,tE Tryz.t144,tE Tryz.t145,tE Tryz.t146,⟨Tryz.t27.desc,Tryz.t147⟩,tE Tryz.t148,tE Tryz.t149,tE Tryz.t150,tE Tryz.t151,tE Tryz.t152,tE Tryz.t153,tE Tryz.t154,tE Tryz.t155,tE Tryz.t156,tE Tryz.t157,tE Tryz.t158,tE Tryz.t159,tE Tryz.t160,⟨Tryz.t160.desc,Tryz.t161⟩,tE Tryz.t162,tE Tryz.t163,⟨Tryz.t163.desc,Tryz.t164⟩,tE Tryz.t165,⟨Tryz.t3.desc,Tryz.t166⟩,tE Tryz.t167,tE Tryz.t168,tE Tryz.t169,tE Tryz.t170,tE Tryz.t171,tE Tryz.t172,tE Tryz.t173,tE Tryz.t174,tE Tryz.t175,⟨Tryz.t175.desc,Tryz.t176⟩,tE Tryz.t177,⟨Tryz.t177.desc,Tryz.t178⟩,tE Tryz.t179,⟨Tryz.t179.desc,Tryz.t180⟩,tE Tryz.t181,tE Tryz.t182,tE Tryz.t183,tE Tryz.t184,tE Tryz.t185,⟨Tryz.t185.desc,Tryz.t186⟩,tE Tryz.t187,tE Tryz.t188,tE Tryz.t189,tE Tryz.t190,tE Tryz.t191,tE Tryz.t192,tE Tryz.t193,tE Tryz.t194,tE Tryz.t195,tE Tryz.t196,tE Tryz.t197,tE Tryz.t198,tE Tryz.t199,tE Tryz.t200,tE Tryz.t201,tE Tryz.t202,tE Tryz.t203,tE Tryz.t204,tE Tryz.t205,tE Tryz.t206,tE Tryz.t207,tE Tryz.t208,tE Tryz.t209,tE Tryz.t210,tE Tryz.t211,tE Tryz.t212,tE Tryz.t213,tE Tryz.t214,tE Tryz.t215,tE Tryz.t216,tE Tryz.t217,tE Tryz.t218,tE Tryz.t219,tE Tryz.t220,tE Tryz.t221,tE Tryz.t222,⟨Tryz.t222.desc,Tryz.t223⟩,tE Tryz.t224,tE Tryz.t225,⟨Tryz.t225.desc,Tryz.t226⟩,tE Tryz.t227,tE Tryz.t228,tE Tryz.t229,tE Tryz.t230,tE Tryz.t231,tE Tryz.t232,tE Tryz.t233,tE Tryz.t234,tE Tryz.t235,tE Tryz.t236,tE Tryz.t237,tE Tryz.t238,tE Tryz.t239,⟨Tryz.t239.desc,Tryz.t240⟩,tE Tryz.t241,tE Tryz.t242,tE Tryz.t243,tE Tryz.t244,tE Tryz.t245,tE Tryz.t246,⟨Tryz.t246.desc,Tryz.t247⟩,tE Tryz.t248,tE Tryz.t249,tE Tryz.t250,tE Tryz.t251,tE Tryz.t252,tE Tryz.t253,tE Tryz.t254,tE Tryz.t255,tE Tryz.t256,tE Tryz.t257,tE Tryz.t258,tE Tryz.t259,⟨Tryz.t259.desc,Tryz.t260⟩,tE Tryz.t261,tE Tryz.t262,tE Tryz.t263,⟨Tryz.t263.desc,Tryz.t264⟩,tE Tryz.t265,tE Tryz.t266,tE Tryz.t267,tE Tryz.t268,tE Tryz.t269,tE Tryz.t270,tE Tryz.t271,tE Tryz.t272,tE Tryz.t273,tE Tryz.t274,tE Tryz.t275,⟨Tryz.t275.desc,Tryz.t276⟩,tE Tryz.t277,tE Tryz.t278,tE Tryz.t279,tE Tryz.t280,tE Tryz.t281,tE Tryz.t282,tE Tryz.t283,tE Tryz.t284,tE Tryz.t285,⟨Tryz.t285.desc,Tryz.t286⟩,tE Tryz.t287,tE Tryz.t288,tE Tryz.t289,tE Tryz.t290,tE Tryz.t291,tE Tryz.t292,⟨Tryz.t292.desc,Tryz.t293⟩,tE Tryz.t294,tE Tryz.t295,⟨Tryz.t3.desc,Tryz.t296⟩,tE Tryz.t297,tE Tryz.t298,tE Tryz.t299,tE Tryz.t300,tE Tryz.t301,tE Tryz.t302,tE Tryz.t303,tE Tryz.t304,tE Tryz.t305,tE Tryz.t306,tE Tryz.t307,tE Tryz.t308,tE Tryz.t309,tE Tryz.t310,tE Tryz.t311,tE Tryz.t312,⟨Tryz.t292.desc,Tryz.t313⟩,tE Tryz.t314,tE Tryz.t315,tE Tryz.t316,tE Tryz.t317,tE Tryz.t318,tE Tryz.t319,tE Tryz.t320,tE Tryz.t321,tE Tryz.t322,tE Tryz.t323,tE Tryz.t324,tE Tryz.t325,tE Tryz.t326,tE Tryz.t327,tE Tryz.t328,tE Tryz.t329,tE Tryz.t330,tE Tryz.t331,tE Tryz.t332,tE Tryz.t333,⟨Tryz.t307.desc,Tryz.t334⟩,tE Tryz.t335,⟨Tryz.t335.desc,Tryz.t336⟩,tE Tryz.t337,tE Tryz.t338,tE Tryz.t339,tE Tryz.t340,tE Tryz.t341,tE Tryz.t342,⟨Tryz.t342.desc,Tryz.t343⟩,tE Tryz.t344,tE Tryz.t345,tE Tryz.t346,tE Tryz.t347,tE Tryz.t348,tE Tryz.t349,tE Tryz.t350,tE Tryz.t351,⟨Tryz.t179.desc,Tryz.t352⟩,tE Tryz.t353,tE Tryz.t354,tE Tryz.t355,⟨Tryz.t355.desc,Tryz.t356⟩,tE Tryz.t357,tE Tryz.t358,tE Tryz.t359,tE Tryz.t360,⟨Tryz.t94.desc,Tryz.t361⟩,tE Tryz.t362,tE Tryz.t363,tE Tryz.t364,tE Tryz.t365,tE Tryz.t366,tE Tryz.t367,tE Tryz.t368,tE Tryz.t369,tE Tryz.t370,tE Tryz.t371,tE Tryz.t372,tE Tryz.t373,tE Tryz.t374,tE Tryz.t375,tE Tryz.t376,⟨Tryz.t305.desc,Tryz.t377⟩,tE Tryz.t378,tE Tryz.t379,tE Tryz.t380,tE Tryz.t381,tE Tryz.t382,tE Tryz.t383,tE Tryz.t384,tE Tryz.t385,tE Tryz.t386,tE Tryz.t387,tE Tryz.t388,tE Tryz.t389,tE Tryz.t390,tE Tryz.t391,tE Tryz.t392,tE Tryz.t393,tE Tryz.t394,tE Tryz.t395,tE Tryz.t396,tE Tryz.t397,tE Tryz.t398,tE Tryz.t399,⟨Tryz.t259.desc,Tryz.t400⟩,tE Tryz.t401,tE Tryz.t402,tE Tryz.t403,tE Tryz.t404,tE Tryz.t405,⟨Tryz.t405.desc,Tryz.t406⟩,tE Tryz.t407,⟨Tryz.t407.desc,Tryz.t408⟩,tE Tryz.t409,tE Tryz.t410,tE Tryz.t411,tE Tryz.t412,tE Tryz.t413,tE Tryz.t414,tE Tryz.t415,tE Tryz.t416,tE Tryz.t417,tE Tryz.t418,tE Tryz.t419,tE Tryz.t420,tE Tryz.t421,tE Tryz.t422,tE Tryz.t423,tE Tryz.t424,⟨Tryz.t424.desc,Tryz.t425⟩,tE Tryz.t426,tE Tryz.t427,tE Tryz.t428,tE Tryz.t429,tE Tryz.t430,tE Tryz.t431,tE Tryz.t432,tE Tryz.t433,tE Tryz.t434,tE Tryz.t435,tE Tryz.t436,tE Tryz.t437,tE Tryz.t438,tE Tryz.t439,tE Tryz.t440,tE Tryz.t441,tE Tryz.t442,tE Tryz.t443,tE Tryz.t444,tE Tryz.t445,⟨Tryz.t445.desc,Tryz.t446⟩,tE Tryz.t447,tE Tryz.t448,tE Tryz.t449,tE Tryz.t450,tE Tryz.t451,tE Tryz.t452,⟨Tryz.t452.desc,Tryz.t453⟩,tE Tryz.t454,tE Tryz.t455,⟨Tryz.t455.desc,Tryz.t456⟩,⟨Tryz.t5.desc,Tryz.t457⟩,⟨Tryz.t5.desc,Tryz.t458⟩,tE Tryz.t459,tE Tryz.t460,⟨Tryz.t21.desc,Tryz.t461⟩,⟨Tryz.t21.desc,Tryz.t462⟩,tE Tryz.t463,⟨Tryz.t463.desc,Tryz.t464⟩,tE Tryz.t465]
noncomputable def tyT:Tr (Option TyE):=trL 466 (tyL.map some)
def qq0:Option Sg:=some ⟨[.one,.one],.s .one⟩
def qq1:Option Sg:=some ⟨[.one],.s .one⟩
def qq2:Option Sg:=some ⟨[.one,.one],.tup []⟩
def qq4:Option Sg:=some ⟨[.agg 7,.agg 7],.s .one⟩
def qq5:Option Sg:=some ⟨[.one,.agg 5],.tup []⟩
def qq6:Option Sg:=some ⟨[.one,.one,.one],.s .one⟩
def qq7:Option Sg:=some ⟨[.one,.one,.one,.one],.tup []⟩
def qq8:Option Sg:=some ⟨[.one,.one,.one],.tup []⟩
def qq9:Option Sg:=some ⟨[.agg 3,.agg 3],.s .one⟩
def qq10:Option Sg:=some ⟨[.one,.one,.one,.one],.s .one⟩
def qq11:Option Sg:=some ⟨[.agg 2,.one],.s .one⟩
def qq12:Option Sg:=some ⟨[.agg 4,.one],.s .one⟩
def qq13:Option Sg:=some ⟨[.agg 3,.agg 3,.one],.s .one⟩
def qq14:Option Sg:=some ⟨[.one],.tup []⟩
def qq15:Option Sg:=some ⟨[.one,.one,.one,.one,.one],.tup [.one,.one]⟩
def qq16:Option Sg:=some ⟨[.one],.tup [.one,.one]⟩
def qq17:Option Sg:=some ⟨[.agg 3],.s (.agg 3)⟩
def qq18:Option Sg:=some ⟨[.agg 7,.one],.s .one⟩
def qq19:Option Sg:=some ⟨[.agg 7,.agg 7,.one],.s .one⟩
def qq20:Option Sg:=some ⟨[.agg 2,.one,.one],.s .one⟩
def qq21:Option Sg:=some ⟨[.one,.one,.one,.one,.one],.tup []⟩
def qq22:Option Sg:=some ⟨[.one,.agg 7],.s .one⟩
def qq23:Option Sg:=some ⟨[.agg 4],.s .one⟩
def qq24:Option Sg:=some ⟨[.agg 1],.s .one⟩
def qq25:Option Sg:=some ⟨[.agg 5,.one],.s .one⟩
def qq26:Option Sg:=some ⟨[.one],.s (.agg 6)⟩
noncomputable def sgL:List (Option Sg):=[none,none,none,some ⟨[],.s .one⟩,qq0,qq0,qq1,some ⟨[.one,.agg 5],.s .one⟩,some ⟨[],.s .one⟩,some ⟨[.one],.tup [.agg 4,.one]⟩,qq23,qq23,some ⟨[.agg 3,.one,.one],.tup [.one,.one]⟩,some ⟨[.agg 2,.one,.one],.tup [.one,.one]⟩,some ⟨[.agg 7],.s (.agg 7)⟩,qq0,qq0,qq1,some ⟨[.one,.one],.tup [.agg 5,.one,.one]⟩,some ⟨[.one,.one,.one],.tup [.agg 2,.one]⟩,some ⟨[.one,.one,.agg 5],.s .one⟩,qq0,some ⟨[.agg 2],.s .one⟩,qq11,qq1,qq10,qq16,some ⟨[.one],.tup [.agg 1,.one]⟩,some ⟨[.one,.agg 1],.tup [.agg 4,.one]⟩,qq12,qq6,some ⟨[.agg 4,.one,.one],.s .one⟩,some ⟨[.agg 3,.one],.tup [.agg 2,.one]⟩,some ⟨[.one,.one,.agg 2,.one],.tup [.one,.one]⟩,some ⟨[.agg 13,.one],.s (.agg 7)⟩,qq2,qq4,qq1,some ⟨[.agg 4,.one],.tup [.one,.one]⟩,some ⟨[.agg 4,.agg 13],.s (.agg 7)⟩,qq4,qq17,qq0,qq18,qq18,qq13,qq0,qq19,qq0,some ⟨[.one,.one],.tup [.agg 2,.one]⟩,qq0,some ⟨[.agg 3,.agg 2],.s .one⟩,some ⟨[.agg 2,.agg 3],.s .one⟩,some ⟨[.one,.one,.agg 2,.one],.tup [.agg 3,.one]⟩,some ⟨[.one,.agg 3],.s .one⟩,qq9,some ⟨[.agg 2,.agg 3,.agg 3],.s .one⟩,some ⟨[.agg 2,.one,.one,.one],.s .one⟩,qq20,some ⟨[.agg 4,.one],.tup [.agg 3,.one]⟩,qq16,none,qq6,some ⟨[.one],.s (.agg 5)⟩,qq14,qq24,some ⟨[.agg 1],.s (.agg 1)⟩,none,some ⟨[.one,.one],.s (.agg 5)⟩,qq2,qq2,qq2,qq2,some ⟨[.one,.agg 13],.s .one⟩,qq0,qq1,some ⟨[.agg 13,.one],.tup [.one,.agg 3,.one]⟩,some ⟨[.agg 3,.agg 3],.s (.agg 3)⟩,qq23,qq6,qq0,some ⟨[.one,.agg 2,.one],.s .one⟩,some ⟨[.agg 3],.s .one⟩,some ⟨[.one,.one,.agg 2,.agg 3],.s .one⟩,qq2,qq9,some ⟨[.one,.one],.s (.agg 3)⟩,qq21,qq1,some ⟨[.agg 7],.s .one⟩,qq1,qq0,qq0,qq0,qq0,some ⟨[.agg 4,.agg 3],.s .one⟩,qq9,qq9,some ⟨[.one,.one],.s (.agg 3)⟩,qq0,qq17,qq1,qq0,qq13,qq1,qq1,qq14,qq0,qq12,qq9,some ⟨[.agg 3,.one,.one,.one],.s .one⟩,qq14,qq0,some ⟨[.agg 3,.one],.s .one⟩,some ⟨[.one,.agg 3],.s .one⟩,qq14,some ⟨[.one],.tup [.agg 5,.one]⟩,qq0,qq0,qq6,qq2,qq0,qq2,qq2,qq2,qq24,qq0,qq25,some ⟨[.agg 1,.agg 5],.s .one⟩,qq1,qq1,qq7,qq12,qq2,qq8,some ⟨[.one,.one],.tup [.agg 2,.one]⟩,qq8,qq8,qq5,qq5,qq5,qq5,qq5,qq5,qq5,qq5,qq5,qq5,qq5,qq5,qq5,qq2,qq24,qq1,qq11,some ⟨[.agg 3,.agg 3],.s (.agg 3)⟩,qq6,qq0,some ⟨[.one,.one,.agg 3],.tup [.agg 7,.one]⟩,qq22,qq22,some ⟨[.agg 13,.one],.s .one⟩,qq1,qq21,qq13,qq9,qq9,qq1,qq9,qq6,qq4,qq17,some ⟨[.one,.agg 3,.agg 3],.s (.agg 3)⟩,qq7,qq7,qq7,some ⟨[.one,.one,.one,.one],.tup [.one,.one]⟩,qq7,qq10,some ⟨[.one,.one,.one,.one,.one],.s .one⟩,qq15,qq1,qq1,qq1,qq1,qq1,qq1,some ⟨[.agg 4,.agg 3],.tup [.agg 7,.one]⟩,qq22,qq22,qq4,qq17,some ⟨[.one,.agg 3,.agg 3],.s (.agg 3)⟩,qq1,qq2,qq0,qq0,qq0,qq0,qq1,qq0,qq16,qq0,qq1,none,qq0,qq0,qq10,qq2,qq2,qq8,qq2,qq2,qq0,qq2,qq2,qq0,qq0,qq1,some ⟨[.agg 4,.one,.one],.s .one⟩,qq12,qq1,qq0,qq25,qq1,qq8,qq2,some ⟨[.one,.agg 5,.one],.tup [.agg 5,.one]⟩,some ⟨[.one,.agg 5,.one,.agg 13],.tup []⟩,qq25,qq1,some ⟨[.one,.agg 5,.one,.one],.s .one⟩,qq12,qq1,qq2,qq8,qq20,qq6,qq0,qq18,qq4,qq18,some ⟨[.one,.agg 7,.one],.tup [.one,.one]⟩,qq4,qq1,qq6,qq19,qq13,qq8,qq7,qq7,qq7,some ⟨[.one,.one,.one,.one],.tup [.one,.one]⟩,qq7,qq10,some ⟨[.one,.one,.one,.one,.one],.s .one⟩,qq15,qq19,qq4,qq4,qq0,qq0,qq0,qq21,qq1,qq1,qq10,some ⟨[.one,.one,.one,.one,.one,.one],.s .one⟩,qq19,qq0,qq1,qq1,none,qq0,qq0,qq1,none,qq1,qq0,some ⟨[.one,.one],.s (.agg 5)⟩,qq2,qq7,qq2,qq2,qq0,qq1,qq1,qq1,qq1,qq2,qq2,qq8,qq0,qq8,qq2,qq0,qq1,qq0,some ⟨[.agg 5],.s .one⟩,qq0,some ⟨[.one,.agg 5],.s .one⟩,qq0,qq7,qq0,qq6,some ⟨[.one,.one],.tup [.agg 3,.one]⟩,qq7,qq2,qq20,qq6,qq0,qq1,qq4,qq4,qq4,qq4,qq4,qq1,none,qq2,qq21,qq10,some ⟨[.one,.one,.one,.one,.one,.one],.s .one⟩,qq15,qq13,qq0,none,qq16,some ⟨[.one],.tup [.agg 2,.one]⟩,qq0,qq0,qq1,qq6,qq0,qq8,some ⟨[.agg 2,.one,.one,.one],.s .one⟩,qq11,qq11,qq20,qq1,qq1,qq2,qq15,qq2,qq15,qq2,qq2,qq2,qq2,qq2,qq2,qq2,qq2,qq2,qq2,qq2,qq2,qq1,qq1,qq1,qq1,qq0,qq6,qq2,qq2,qq11,qq1,qq1,qq1,qq1,qq14,qq2,qq2,qq2,some ⟨[.one,.one,.agg 6],.tup []⟩,qq26,qq1,qq1,qq2,qq2,some ⟨[.one,.one,.one,.one],.s (.agg 6)⟩,qq26,qq26,qq2,qq2,none,none,none,none,none,none,none,none,none,none,none,none,none,none,none,none,none,none,none,none,none,none,none,none]
noncomputable def sgT:Tr (Option Sg):=trL 409 sgL
noncomputable def stL:List Nat:=[0,1262134173551082729867063762705413001816803149564417330312373159135226788348388413641290717745313732625283555226500952688,90946351899139601767030913094242274587046554915709654415490526658842112200530799838431409630988813648488476434779427389520739837198430832,68420430614048948361235811787998412503545896095402112353663022837332249165456462671392993477468844656,243078206498164774284708933930926294122176443793143113017644481321569915494723811766896,243078199751952256097936142211318655283300891105152198420114451075896192030321473974896,1262144321122556070632010140239630479005842999213859691417514296255273220956749050670638947264943312425400951475484455536,4332147860682176799567127602654562512052477484432660402999357382156717853813026739845395208773556290704500610718581412372809990380460061832928012664785269516024298941006023926814255782093268136719144120703338809929376686952485448127064634458565837861386084656493702831844323952,283911648832056042411604509626268591038096787215814865506592234721137352316661719369171131732353317283657944692663722933535470847647768421002090635032739179421775033733013507809621391356377437532608535654997408429945389236019471552350305167195015869789964405413874842560073231725168,283911648832056042411604509626268591038096787241126694452146833390612693540712971602521026279925790460997825597239784842938438129420412872201905883749171129172086146950916298791536237733016499519373191519409059432882202167552555681400772799148830162594397774758073429214564948341360,13997925018777859294583131225069998456558042446443957602258311578926450934722891132292858690420729194322065371906238773681613751801944829254024468358859053658434742082049815765922205295488595450255001342817498913492183693105560951563612981755361849968,120888439998911351462637408589472033034138830737995396295160133981746676708218700126356659151786564670202547043006176035387815526632767378846765853350196708768757392901894768,37413160026362844377520952370669096333259720876059008242270620206338899799385973379426049983541871693601072663372265132096722704594326907570957300849810072731863405923442209325209825238022173641110128,13259105644739934752968012037775170910601080631773430813380731252,23282266086179738052359913752126022294283918058421671530365574824663580723335884758638440865533136294013049967303533411721396502657602908784,9975042383808756751997755764,133562636007801,121468008102265,121420578912633,121420762741113,121420578191737,121420578188921,218761504,47356866181236226030629615511081921505537742918583635707057254358312221231033175584760417,270211885617516653982000,435610083700,1668248176,1013866857139168856493015739252390649739422828853819106890363778118420553376247557433637691341895324351018602695588957474325319502760499485336098898398377509666851054660423406800006203933793007272033180812049178612605246075062580585469430410618860250057463399279570354286669047577758927328864388992123306212451509403152394148136105363817402562688186708175358218852349079190158732807302672745370040257219644697201681238697346923541678507645485296520536209706771857694240900605172937619415410180424934769249448772944216470541052485265558808433676546390051204254346932932316488017972311616136051587427851453983453479168,40,41,59,111516266162547,1702195828,435728179558,44,123,125,196808924543273351654744084199064270893917454994213902225728097,237927390410950444456928663707796224754864904193074819559483181009558347043374296609072,9938655150514779720929161263213647789093395803754561035662628441001274968862597953692946393464194303251501229616933063375291039650253924995779037586872666250072396106842829501851083234932712366962979930255066872747696324303968523733872590022915936937156789320557469720923390131174387415513794469201054844961267015441141542819553679203788501627738430154234325528792480477051962324423099068299719245009424585859096469223093538032153047611602695245052081125123941502624659711709950000,1684104562,7628147,7632240,111550592214372,1851876211,1801678700,28555834798400882,26217,7499622,7628140,1953066341,7738135660106379122,1886349411,61,46,7105633,110386873460851,15677,60,1702063205,91,93,11563,42]
noncomputable def natI (f:FuncId):Option (Nat × Sg):=match Nat.beq f 326 with | true=>some (0,⟨[.one,.one],.s .one⟩) | false=>none
noncomputable def nsgI (i:Nat):Option (FuncId × Sg):=match Nat.beq i 0 with | true=>some (326,⟨[.one,.one],.s .one⟩) | false=>none
noncomputable def insI (f:FuncId):Option (TypeId × TypeId × Nat):=match Nat.beq f 245 with | true=>some (51,69,7) | false=>none
noncomputable def DI:Cd:=⟨tget none tyT,tget none sgT,natI,fun i=>tget 0 stT i,64,insI⟩
abbrev FcI (x:FC):Prop:=FCOk DI Tryz.prog x
end
end Go.Proofs.YtppejimdibhgcaaGreatDoor.VM
namespace Go.Proofs.YtppejimdibhgcaaGreatDoor.VM
open Go Go.RowKit
noncomputable section
set_option maxRecDepth 1000000
noncomputable def x3:FC:=⟨3,Tryz.f3,⟨lyR [3,10,30,2,30,3,30,22,23,1,30,1,25,1,30,2,30,2,229410,1,229416,1,46,9,229440,1,70,5,229456,1,86,4,360542,1,30,2,27,1,30,10,360498,1,30,1,360480,1,42,1,29,1,30,1,30,1],1920,none,0,114623⟩,c3,0⟩
theorem y3:FcI x3:=⟨by kernel_rfl,by kernel_rfl⟩
noncomputable def x4:FC:=⟨4,Tryz.f4,⟨lyR [3,19,62,2,41,1,62,1,17236042,1,62,1,17236032,1,294996,1,92,1,62,1,43,1,62,1,294974,1,70,1,294984,1,80,1,62,3,45,1,62,2,62,7,47,1,62,2,16908372,1,62,3,229444,1,74,3,16908368,1,88,2,16908370,1,62,3,163908,1,72,3,16908366,1,86,2,62,9,49,1,62,3,51,1,62,2,62,3,491588,1,491602,1,96,3,491622,1,53,1,62,5,55,1,62,4,62,3,57,1,62,2,62,3,59,1,62,2,62,20,61,1,62,1],3968,none,0,12880576475⟩,c4,0⟩
theorem y4:FcI x4:=⟨by kernel_rfl,by kernel_rfl⟩
noncomputable def x5:FC:=⟨5,Tryz.f5,⟨lyR [3,17,70,1,50,2,37,1,50,1,17236030,1,50,1,17236020,1,294984,1,80,1,50,1,39,1,50,1,294962,1,58,1,294972,1,68,1,4312268870,1,50,3,4312268856,1,360532,1,94,2,17104958,1,50,3,17104952,1,163908,1,72,1,50,9,41,1,50,1,43,1,50,3,360504,1,66,5,50,3,45,1,50,1,50,2,163894,1,58,1,50,28,47,1,50,4,360506,1,68,6,163920,1,84,21,49,1,17104954,1,50,1,17104948,1,163904,1,68,1,50,5,163900,1,64,7],3200,none,0,3521499⟩,c5,0⟩
theorem y5:FcI x5:=⟨by kernel_rfl,by kernel_rfl⟩
noncomputable def x6:FC:=⟨6,Tryz.f6,⟨lyR [3,7,98,1,17,9,80,1,35,2,54,2,39,1,54,1,17236034,1,54,1,17236024,1,294988,1,84,1,54,1,41,1,54,1,294966,1,62,1,294976,1,72,1,4312268870,1,54,1,4312268856,1,360532,1,94,2,54,5,43,1,54,5,54,3,45,1,54,2,54,10,54,7,47,1,54,2,16908360,1,54,3,229436,1,66,1,16908356,1,76,2,54,4,54,4,54,3,49,1,54,2,54,3,51,1,54,2,54,19,53,1,54,13,54,12],3456,none,0,4294967259⟩,c6,0⟩
theorem y6:FcI x6:=⟨by kernel_rfl,by kernel_rfl⟩
noncomputable def x7:FC:=⟨7,Tryz.f7,⟨lyR [3,1,360453,1,15,10,40,14,35,1,40,1,17236020,1,40,1,17236010,1,294974,1,70,1,40,1,37,1,40,1,294952,1,48,1,294962,1,58,1,17104944,1,40,1,17104938,1,163894,1,58,1,40,23,163926,1,90,5,40,1,39,1,40,17,40,1,360490,1,52,6],2560,none,0,4059⟩,c7,0⟩
theorem y7:FcI x7:=⟨by kernel_rfl,by kernel_rfl⟩
noncomputable def x8:FC:=⟨8,Tryz.f8,⟨lyR [3,4,28,1,11,3,28,1,16908308,1,16908304,1,24,2,16908308,1,16908304,1,24,2,16908308,1,16908304,1,24,2,16908308,1,16908304,1,24,2,16,20],1024,none,0,63⟩,c8,0⟩
theorem y8:FcI x8:=⟨by kernel_rfl,by kernel_rfl⟩
noncomputable def x9:FC:=⟨9,Tryz.f9,⟨lyR [3,8,17039386,1,20,1,17039382,1,98334,1,32,1,20,1,19,1,294932,1,17236002,1,20,1,98326,1,17235992,1,294956,1,52,1,294932,1,28,2],1280,none,0,55⟩,c9,0⟩
theorem y9:FcI x9:=⟨by kernel_rfl,by kernel_rfl⟩
noncomputable def x10:FC:=⟨10,Tryz.f10,⟨lyR [294915,1,11,6,30,1,23,4,30,2,360482,1,294942,1,38,2,30,11,229428,1,58,2,30,1,30,1],1920,none,0,511⟩,c10,0⟩
theorem y10:FcI x10:=⟨by kernel_rfl,by kernel_rfl⟩
noncomputable def x11:FC:=⟨11,Tryz.f11,⟨lyR [294915,1,11,4,20,4,19,1,20,2,20,1,294934,1,30,8,163886,1,50,2,20,1],1280,none,0,127⟩,c11,0⟩
theorem y11:FcI x11:=⟨by kernel_rfl,by kernel_rfl⟩
noncomputable def x12:FC:=⟨12,Tryz.f12,⟨lyR [229379,1,9,15,17104960,1,229426,1,56,1,17104954,1,163910,1,74,1,16908356,1,50,4,163898,1,62,1,16908352,1,72,2,50,5,39,5,50,1,229428,1,50,5,884796,1,50,2,49,1,50,1,884788,1,78,2,491602,1,96,2,50,1,50,1,65588,1,50,2],3200,none,0,32767⟩,c12,0⟩
theorem y12:FcI x12:=⟨by kernel_rfl,by kernel_rfl⟩
noncomputable def x13:FC:=⟨13,Tryz.f13,⟨lyR [163843,1,7,17,56,8,41,1,56,4,294976,1,16908358,1,294968,1,64,1,16908354,1,74,2,56,1,43,1,56,3,45,1,56,2,56,10,47,1,294968,1,64,8,884816,1,491626,1,56,3,49,1,56,2,56,5,491586,1,491600,1,94,2,56,1,51,1,56,1,491578,1,72,2,56,3,53,1,56,2,56,1,56,6,491588,1,82,4,491610,1,104,1,55,1,56,2,56,9,491594,1,88,3,491614,1,108,2,56,1],3584,none,0,167772159⟩,c13,0⟩
theorem y13:FcI x13:=⟨by kernel_rfl,by kernel_rfl⟩
noncomputable def x14:FC:=⟨14,Tryz.f14,⟨lyR [491523,1,17,2,20,5,229406,1,229412,1,42,4,491570,1],1280,none,0,3⟩,c14,0⟩
theorem y14:FcI x14:=⟨by kernel_rfl,by kernel_rfl⟩
noncomputable def x15:FC:=⟨15,Tryz.f15,⟨lyR [3,5,12,3],768,none,0,3⟩,c15,0⟩
theorem y15:FcI x15:=⟨by kernel_rfl,by kernel_rfl⟩
noncomputable def x16:FC:=⟨16,Tryz.f16,⟨lyR [3,7,22,3,17,1,22,2,22,3,19,1,22,2,22,3,491548,1,42,3,491568,1,62,14,21,1],1408,none,0,1023⟩,c16,0⟩
theorem y16:FcI x16:=⟨by kernel_rfl,by kernel_rfl⟩
noncomputable def x17:FC:=⟨17,Tryz.f17,⟨lyR [3,5,14,3,13,1,14,2,14,4,491542,1,491556,1,50,2,14,1],896,none,0,127⟩,c17,0⟩
theorem y17:FcI x17:=⟨by kernel_rfl,by kernel_rfl⟩
noncomputable def x18:FC:=⟨18,Tryz.f18,⟨lyR [3,17,17104974,1,68,2,17104968,1,163924,1,88,1,68,1,37,1,360516,1,39,4,68,2,229448,1,68,2,47,4,68,2,163912,1,68,1,55,1,229444,1,163914,1,78,1,68,1,57,1,68,3,360522,1,68,1,68,1,68,1,59,4,68,1,229446,1,163908,1,229448,1,78,1,68,1,67,1,68,1,360518,1,68,1,360516,1],4352,none,0,16777215⟩,c18,0⟩
theorem y18:FcI x18:=⟨by kernel_rfl,by kernel_rfl⟩
noncomputable def x19:FC:=⟨19,Tryz.f19,⟨lyR [3,15,42,3,33,1,42,2,42,1,42,4,35,1,42,2,37,1,42,2,42,7,39,1,42,2,16908348,1,42,3,163888,1,52,2,16908344,1,64,2,42,1,41,1,163882,1,42,5,229428,1,58,3,42,6,163882,1],2688,none,0,1048575⟩,c19,0⟩
theorem y19:FcI x19:=⟨by kernel_rfl,by kernel_rfl⟩
noncomputable def x20:FC:=⟨20,Tryz.f20,⟨lyR [3,2,360455,1,17,16,17104972,1,66,2,17104966,1,163922,1,86,1,66,1,49,1,66,1,51,1,66,20,53,1,66,4,229450,1,17104978,1,229442,1,72,2,17104972,1,163928,1,92,1,17170522,1,66,4,163914,1,78,2,17170514,1,229474,1,104,1,66,14,66,3,66,17,55,1,66,1,57,4,66,2,229446,1,66,7,229456,1,66,2,229446,1,76,7,229466,1,96,8,229488,1,229494,1,124,5,229510,1,229516,1,146,3,163992,1,229532,1,229538,1,168,3,65,1,66,2,163910,1,229450,1,229456,1,86,2,66,1,66,1],4224,none,0,16777215⟩,c20,0⟩
theorem y20:FcI x20:=⟨by kernel_rfl,by kernel_rfl⟩
end
end Go.Proofs.YtppejimdibhgcaaGreatDoor.VM
namespace Go.Proofs.YtppejimdibhgcaaGreatDoor.VM
open Go Go.RowKit
noncomputable section
set_option maxRecDepth 1000000
noncomputable def x21:FC:=⟨21,Tryz.f21,⟨lyR [3,8,64,1,19,1,28,3,21,1,28,2,28,7,23,1,28,2,16908344,1,28,7,294954,1,50,1,16908340,1,60,2,28,3,25,1,28,2,28,17,27,1],1792,none,0,16383⟩,c21,0⟩
theorem y21:FcI x21:=⟨by kernel_rfl,by kernel_rfl⟩
noncomputable def x22:FC:=⟨22,Tryz.f22,⟨lyR [163843,1,7,3,16,4,13,1,16,2,163856,1,20,2,15,1],1024,none,0,127⟩,c22,0⟩
theorem y22:FcI x22:=⟨by kernel_rfl,by kernel_rfl⟩
noncomputable def x23:FC:=⟨23,Tryz.f23,⟨lyR [163843,1,7,11,44,3,29,1,44,2,44,4,31,1,44,2,44,4,229428,1,58,3,229440,1,33,1,44,4,44,2,35,1,44,2,44,3,229426,1,56,3,229438,1,37,1,44,9,39,1,44,3,41,1,44,2,163884,1,48,13,44,5,44,12,43,1,44,1],2816,none,0,67108863⟩,c23,0⟩
theorem y23:FcI x23:=⟨by kernel_rfl,by kernel_rfl⟩
noncomputable def x24:FC:=⟨24,Tryz.f24,⟨lyR [3,5,14,3,13,1,14,2,14,16,229422,1,52,2,14,1],896,none,0,127⟩,c24,0⟩
theorem y24:FcI x24:=⟨by kernel_rfl,by kernel_rfl⟩
noncomputable def x25:FC:=⟨25,Tryz.f25,⟨lyR [3,12,28,21,27,1,28,7,294954,1,17170478,1,294940,1,36,1,17170470,1,229430,1,60,1,28,11],1792,none,0,63⟩,c25,0⟩
theorem y25:FcI x25:=⟨by kernel_rfl,by kernel_rfl⟩
noncomputable def x26:FC:=⟨26,Tryz.f26,⟨lyR [3,8,72,1,17236004,1,20,3,17235994,1,294958,1,54,1,20,1,19,1,4312268844,1,294932,1,28,1,4312268830,1,360506,1,68,2,20,4],1280,none,0,55⟩,c26,0⟩
theorem y26:FcI x26:=⟨by kernel_rfl,by kernel_rfl⟩
noncomputable def x27:FC:=⟨27,Tryz.f27,⟨lyR [3,6,16908312,1,18,1,16908308,1,28,2,18,1,15,1,98322,1,20,1,18,1,229396,1,26,1,18,1,18,1,65556,1,18,4,98330,1],1152,some 1024,0,247⟩,c27,0⟩
theorem y27:FcI x27:=⟨by kernel_rfl,by kernel_rfl⟩
noncomputable def x28:FC:=⟨28,Tryz.f28,⟨lyR [3,1,98309,1,7,9,98354,1,52,1,25,1,294962,1,58,1,98354,2,54,4,294974,1,70,2,360522,1,84,1,50,7,27,3,50,1,50,9,50,1,50,1,50,4,33,4,50,2,50,2,360502,1,64,1,41,1,50,2,65590,1,50,2,65590,1,50,1,50,7,43,3,50,1,50,10,65606,1,50,1,50,5,294972,1],3200,some 3072,0,8388603⟩,c28,0⟩
theorem y28:FcI x28:=⟨by kernel_rfl,by kernel_rfl⟩
noncomputable def x29:FC:=⟨29,Tryz.f29,⟨lyR [294915,1,11,6,24,8,23,1,294936,1,426016,1,44,1,24,6,24,10,65580,1,24,4,24,1,884762,1,52,1,24,4],1536,none,0,507⟩,c29,0⟩
theorem y29:FcI x29:=⟨by kernel_rfl,by kernel_rfl⟩
noncomputable def x30:FC:=⟨30,Tryz.f30,⟨lyR [3,15,52,4,52,7,33,3,52,1,52,3,229434,1,64,1,52,1,52,7,39,1,52,2,41,4,52,1,884790,1,4378984538,1,884788,1,78,1,4378984528,1,100,1,229478,1,108,1,52,10,49,1,52,5,229438,1,229444,1,229450,1,80,1,52,1,52,2,51,1,52,1],3328,none,0,524287⟩,c30,0⟩
theorem y30:FcI x30:=⟨by kernel_rfl,by kernel_rfl⟩
noncomputable def x31:FC:=⟨31,Tryz.f31,⟨lyR [294915,1,11,11,294946,1,42,4,34,15,34,3,34,3,33,1,34,2,34,6,163886,1,294962,1,58,2,34,1],2176,none,0,1023⟩,c31,0⟩
theorem y31:FcI x31:=⟨by kernel_rfl,by kernel_rfl⟩
noncomputable def x32:FC:=⟨32,Tryz.f32,⟨lyR [229379,1,9,6,22,3,22,7,21,1,163862,1,22,3,163868,1],1408,none,0,31⟩,c32,0⟩
theorem y32:FcI x32:=⟨by kernel_rfl,by kernel_rfl⟩
noncomputable def x33:FC:=⟨33,Tryz.f33,⟨lyR [3,2,163847,1,11,14,54,1,163896,1,60,3,39,1,54,2,54,2,229434,1,229430,1,60,1,54,1,229432,1,62,2,54,9,41,1,54,2,54,2,163898,1,62,3,229444,1,43,4,54,1,229432,1,229430,1,60,1,54,3,51,1,54,2,54,1,229432,1,62,2,54,1,54,3,53,1,54,1,65592,1,54,1],3456,none,0,2097151⟩,c33,0⟩
theorem y33:FcI x33:=⟨by kernel_rfl,by kernel_rfl⟩
noncomputable def x34:FC:=⟨34,Tryz.f34,⟨lyR [884739,1,29,5,42,7,39,1,491562,1,42,6,491574,1,42,1,41,1,42,3,229424,1,54,1,491562,1],2688,none,0,123⟩,c34,0⟩
theorem y34:FcI x34:=⟨by kernel_rfl,by kernel_rfl⟩
noncomputable def x35:FC:=⟨35,Tryz.f35,⟨lyR [3,5,12,2,12,6,65560,1],768,none,0,3⟩,c35,0⟩
theorem y35:FcI x35:=⟨by kernel_rfl,by kernel_rfl⟩
noncomputable def x36:FC:=⟨36,Tryz.f36,⟨lyR [491523,1,491537,1,31,4,38,6,491570,1,64,2,491588,1,82,30],2432,none,0,7⟩,c36,0⟩
theorem y36:FcI x36:=⟨by kernel_rfl,by kernel_rfl⟩
noncomputable def x37:FC:=⟨37,Tryz.f37,⟨lyR [3,6,24,2,15,1,24,1,24,3,17,1,24,2,24,3,491550,1,44,4,491572,1,19,1,24,3,24,3,21,1,24,2,24,3,491550,1,44,4,491572,1,23,1,24,5,491554,1,48,1,24,2,24,3,24,3,24,1],1536,none,0,131071⟩,c37,0⟩
theorem y37:FcI x37:=⟨by kernel_rfl,by kernel_rfl⟩
noncomputable def x38:FC:=⟨38,Tryz.f38,⟨lyR [294915,1,11,13,52,21,37,1,52,2,52,3,229434,1,64,1,52,3,39,1,52,2,52,3,41,1,294964,1,60,3,229442,1,72,1,52,3,43,1,52,2,52,3,45,1,52,2,52,5,229438,1,68,3,229450,1,80,2,52,1,47,1,52,4,229436,1,66,2,52,3,49,1,52,2,52,1,52,6,229440,1,70,4,229454,1,84,1,51,1,52,2,52,9,229446,1,76,3,229458,1,88,2,52,1],3328,none,0,167772155⟩,c38,0⟩
theorem y38:FcI x38:=⟨by kernel_rfl,by kernel_rfl⟩
noncomputable def x39:FC:=⟨39,Tryz.f39,⟨lyR [294915,1,884747,1,37,4,48,7,45,1,491568,1,48,6,491580,1,48,1,47,1,48,4,229432,1,62,1,491568,1],3072,none,0,123⟩,c39,0⟩
theorem y39:FcI x39:=⟨by kernel_rfl,by kernel_rfl⟩
noncomputable def x40:FC:=⟨40,Tryz.f40,⟨lyR [491523,1,491537,1,31,6,50,16,50,16,50,1,43,1,50,2,50,1,45,1,50,2,50,3,47,1,50,2,50,8,49,1,50,9],3200,none,0,4095⟩,c40,0⟩
theorem y40:FcI x40:=⟨by kernel_rfl,by kernel_rfl⟩
noncomputable def x41:FC:=⟨41,Tryz.f41,⟨lyR [229379,1,9,2,12,6,229400,1],768,none,0,3⟩,c41,0⟩
theorem y41:FcI x41:=⟨by kernel_rfl,by kernel_rfl⟩
noncomputable def x42:FC:=⟨42,Tryz.f42,⟨lyR [3,5,12,4],768,none,0,3⟩,c42,0⟩
theorem y42:FcI x42:=⟨by kernel_rfl,by kernel_rfl⟩
noncomputable def x43:FC:=⟨43,Tryz.f43,⟨lyR [491523,1,17,3,22,3],1408,none,0,3⟩,c43,0⟩
theorem y43:FcI x43:=⟨by kernel_rfl,by kernel_rfl⟩
noncomputable def x44:FC:=⟨44,Tryz.f44,⟨lyR [491523,1,17,3,22,18,229434,1,64,1,229442,1,72,11],1408,none,2,3⟩,c44,0⟩
theorem y44:FcI x44:=⟨by kernel_rfl,by kernel_rfl⟩
noncomputable def x45:FC:=⟨45,Tryz.f45,⟨lyR [229379,1,229385,1,15,6,229402,1,229408,1,229414,1,229420,1,26,28,26,9],1664,none,2,15⟩,c45,0⟩
theorem y45:FcI x45:=⟨by kernel_rfl,by kernel_rfl⟩
end
end Go.Proofs.YtppejimdibhgcaaGreatDoor.VM
namespace Go.Proofs.YtppejimdibhgcaaGreatDoor.VM
open Go Go.RowKit
noncomputable section
set_option maxRecDepth 1000000
noncomputable def x46:FC:=⟨46,Tryz.f46,⟨lyR [3,8,20,4,20,5,19,1,20,12],1280,none,2,55⟩,c46,0⟩
theorem y46:FcI x46:=⟨by kernel_rfl,by kernel_rfl⟩
noncomputable def x47:FC:=⟨47,Tryz.f47,⟨lyR [491523,1,491537,1,31,5,40,18,229452,1,82,1,229460,1,90,4],2560,none,0,3⟩,c47,0⟩
theorem y47:FcI x47:=⟨by kernel_rfl,by kernel_rfl⟩
noncomputable def x48:FC:=⟨48,Tryz.f48,⟨lyR [3,5,12,9],768,none,0,3⟩,c48,0⟩
theorem y48:FcI x48:=⟨by kernel_rfl,by kernel_rfl⟩
noncomputable def x49:FC:=⟨49,Tryz.f49,⟨lyR [3,15,56,1,163898,1,33,4,56,2,229436,1,56,1,41,1,56,3,43,3,56,1,16908358,1,229432,1,62,2,16908354,1,74,2,56,1,49,1,163896,1,51,3,56,1,56,3,229438,1,56,2,229436,1,66,2,229446,1,76,4,56,1,56,1,56,1,163896,1],3584,none,0,8388607⟩,c49,0⟩
theorem y49:FcI x49:=⟨by kernel_rfl,by kernel_rfl⟩
noncomputable def x50:FC:=⟨50,Tryz.f50,⟨lyR [3,9,30,1,21,1,30,1,23,3,30,4,163878,1,42,2,30,2,30,3,29,1,30,4,163878,1,42,2,30,1],1920,none,0,2047⟩,c50,1⟩
theorem y50:FcI x50:=⟨by kernel_rfl,by kernel_rfl⟩
noncomputable def x51:FC:=⟨51,Tryz.f51,⟨lyR [229379,1,163849,1,13,9,46,2,229426,1,294968,1,64,1,46,3,31,1,46,2,46,11,33,1,46,1,46,1,35,1,46,5,46,9,46,1,65584,1,46,1,46,4,163894,1,58,4,229442,1,37,4,46,1,229424,1,46,3,45,1,46,1,229424,1,54,1,294968,1,64,2,46,1],2944,none,1,1048575⟩,c51,0⟩
theorem y51:FcI x51:=⟨by kernel_rfl,by kernel_rfl⟩
noncomputable def x52:FC:=⟨52,Tryz.f52,⟨lyR [163843,1,229383,1,13,8,40,1,229418,1,229424,1,54,1,40,1,229416,1,46,1,40,2,29,1,40,2,229416,1,46,2,229426,1,56,1,31,1,40,4,229424,1,54,2,40,2,229420,1,229416,1,229422,1,33,1,40,1,229418,1,229424,1,40,1,229418,1,48,2,229411,1,40,1,229418,1,48,2,40,1,65578,1,40,1],2560,none,1,524287⟩,c52,0⟩
theorem y52:FcI x52:=⟨by kernel_rfl,by kernel_rfl⟩
noncomputable def x53:FC:=⟨53,Tryz.f53,⟨lyR [3,2,163847,1,11,12,46,13,163912,1,76,4,35,1,229422,1,46,2,229426,1,46,1,37,4,46,2,46,2,163890,1,229430,1,60,1,46,3,46,1,45,1,229422,1,46,3,229428,1,46,1,229422,1],2944,none,1,15359⟩,c53,0⟩
theorem y53:FcI x53:=⟨by kernel_rfl,by kernel_rfl⟩
noncomputable def x54:FC:=⟨54,Tryz.f54,⟨lyR [3,1,229381,1,11,3,16,1,229394,1,24,2],1024,none,1,3⟩,c54,0⟩
theorem y54:FcI x54:=⟨by kernel_rfl,by kernel_rfl⟩
noncomputable def x55:FC:=⟨55,Tryz.f55,⟨lyR [229379,1,229385,1,15,3,229396,1,229402,1,32,15],1280,none,1,3⟩,c55,0⟩
theorem y55:FcI x55:=⟨by kernel_rfl,by kernel_rfl⟩
noncomputable def x56:FC:=⟨56,Tryz.f56,⟨lyR [163843,1,229383,1,229389,1,19,4,26,15,229432,1,62,3,229444,1,74,3],1664,none,1,3⟩,c56,0⟩
theorem y56:FcI x56:=⟨by kernel_rfl,by kernel_rfl⟩
noncomputable def x57:FC:=⟨57,Tryz.f57,⟨lyR [163843,1,7,15,46,6,163886,1,50,5,46,20,37,1,46,4,39,1,46,2,46,3,41,1,46,2,46,9,163886,1,50,3,46,4,43,1,46,3,163886,1,50,14,45,1],2944,none,1,1048575⟩,c57,0⟩
theorem y57:FcI x57:=⟨by kernel_rfl,by kernel_rfl⟩
noncomputable def x58:FC:=⟨58,Tryz.f58,⟨lyR [163843,1,7,8,28,4,229412,1,42,4,229426,1,229404,1,229410,1,23,1,28,11,25,1,28,10,27,1],1792,none,1,511⟩,c58,0⟩
theorem y58:FcI x58:=⟨by kernel_rfl,by kernel_rfl⟩
noncomputable def x59:FC:=⟨59,Tryz.f59,⟨lyR [294915,1,11,10,40,35,31,1,229416,1,40,3,229422,1,40,3,33,1,40,2,294952,1,229424,1,54,1,40,3,35,1,40,2,40,13,37,1,40,3,229422,1,40,1,39,1,229416,1,229416,1],2560,none,1,196607⟩,c59,0⟩
theorem y59:FcI x59:=⟨by kernel_rfl,by kernel_rfl⟩
noncomputable def x60:FC:=⟨60,Tryz.f60,⟨lyR [3,8,24,2,19,1,24,2,24,1,163866,1,30,1,24,1,65562,1,24,6,21,1,24,1,65562,1,17301542,1,24,1,17301530,1,360498,1,60,1,24,1,23,1,24,5,24,1,360474,1,36,2,24,5,360482,1,44,2],1536,none,1,7163⟩,c60,0⟩
theorem y60:FcI x60:=⟨by kernel_rfl,by kernel_rfl⟩
noncomputable def x63:FC:=⟨63,Tryz.f63,⟨lyR [3,3,8,5,360466,1],512,none,2,3⟩,c63,0⟩
theorem y63:FcI x63:=⟨by kernel_rfl,by kernel_rfl⟩
noncomputable def x64:FC:=⟨64,Tryz.f64,⟨lyR [3,2,6,4],384,none,1,3⟩,c64,0⟩
theorem y64:FcI x64:=⟨by kernel_rfl,by kernel_rfl⟩
noncomputable def x65:FC:=⟨65,Tryz.f65,⟨lyR [98307,1,5,2,98314,1,12,9,9,1,10,5],640,none,1,11⟩,c65,0⟩
theorem y65:FcI x65:=⟨by kernel_rfl,by kernel_rfl⟩
noncomputable def x66:FC:=⟨66,Tryz.f66,⟨lyR [98307,1,5,4,18,3,18,1,13,3,18,1,18,10,18,1,18,1,98324,1],1152,none,1,255⟩,c66,0⟩
theorem y66:FcI x66:=⟨by kernel_rfl,by kernel_rfl⟩
noncomputable def x68:FC:=⟨68,Tryz.f68,⟨lyR [3,5,12,10,360480,1],768,none,1,3⟩,c68,0⟩
theorem y68:FcI x68:=⟨by kernel_rfl,by kernel_rfl⟩
noncomputable def x69:FC:=⟨69,Tryz.f69,⟨lyR [3,5,58,1,13,6,50,1,25,1,34,2,360486,1,16908338,1,34,6,16908334,1,54,2,34,4,65578,1,34,17,65604,1,34,2,163878,1,34,1,34,1,27,4,34,3,34,2,360486,1,48,1,16908330,1,34,2,16908326,1,46,2,34,4,65578,1,34,13,34,6,34,1,34,31,16908384,1,100,1,34,12,163898,1,62,13],2176,none,1,131071⟩,c69,0⟩
theorem y69:FcI x69:=⟨by kernel_rfl,by kernel_rfl⟩
noncomputable def x70:FC:=⟨70,Tryz.f70,⟨lyR [3,5,12,2,360464,1,12,6,294936,1,32,5,65578,1,12,11,65570,1,12,17,12,17,360494,1,56,4],768,none,1,31⟩,c70,0⟩
theorem y70:FcI x70:=⟨by kernel_rfl,by kernel_rfl⟩
noncomputable def x71:FC:=⟨71,Tryz.f71,⟨lyR [3,5,12,4,12,5,360470,1,12,2,65552,1],768,none,1,15⟩,c71,0⟩
theorem y71:FcI x71:=⟨by kernel_rfl,by kernel_rfl⟩
noncomputable def x72:FC:=⟨72,Tryz.f72,⟨lyR [3,8,26,2,26,9,19,4,26,2,26,4,26,8,360490,1,26,5,360484,1,65582,1,26,1],1664,none,1,255⟩,c72,0⟩
theorem y72:FcI x72:=⟨by kernel_rfl,by kernel_rfl⟩
noncomputable def x73:FC:=⟨73,Tryz.f73,⟨lyR [3,1,884741,1,31,4,38,5,38,5,38,5,884784,1,74,4,38,1],2432,none,1,31⟩,c73,0⟩
theorem y73:FcI x73:=⟨by kernel_rfl,by kernel_rfl⟩
noncomputable def x74:FC:=⟨74,Tryz.f74,⟨lyR [3,6,24,4,15,1,24,1,17,3,24,1,24,3,229406,1,36,3,229418,1,23,1,24,1],1536,none,1,1019⟩,c74,0⟩
theorem y74:FcI x74:=⟨by kernel_rfl,by kernel_rfl⟩
noncomputable def x75:FC:=⟨75,Tryz.f75,⟨lyR [3,3,10,1,9,1,10,3],640,none,1,11⟩,c75,0⟩
theorem y75:FcI x75:=⟨by kernel_rfl,by kernel_rfl⟩
noncomputable def x76:FC:=⟨76,Tryz.f76,⟨lyR [884739,1,29,6,48,1,41,2,48,1,48,3,45,1,48,7,229438,1,48,2,229428,1,47,1,48,1,48,1,48,1,48,2,229428,1,229424,1],3072,none,1,1991⟩,c76,0⟩
theorem y76:FcI x76:=⟨by kernel_rfl,by kernel_rfl⟩
noncomputable def x77:FC:=⟨77,Tryz.f77,⟨lyR [229379,1,229385,1,15,3,229400,1,229406,1,229412,1,229418,1,21,1,24,3,229400,1,23,1,24,4,229408,1,229414,1,44,2,229400,1,229400,1],1536,none,1,63⟩,c77,0⟩
theorem y77:FcI x77:=⟨by kernel_rfl,by kernel_rfl⟩
noncomputable def x78:FC:=⟨78,Tryz.f78,⟨lyR [294915,1,11,6,24,1,98330,1,28,1,24,3,163870,1,24,4,23,1,24,2,24,1,163866,1,30,4,24,1],1536,none,1,511⟩,c78,0⟩
theorem y78:FcI x78:=⟨by kernel_rfl,by kernel_rfl⟩
noncomputable def x79:FC:=⟨79,Tryz.f79,⟨lyR [3,14,40,3,40,2,40,7,31,1,40,2,40,3,229422,1,52,1,40,4,33,1,40,2,40,3,35,1,40,2,40,3,884782,1,229416,1,40,8,37,1,40,5,229426,1,40,28,39,1,40,7,229430,1,229436,1,229442,1,72,1,40,1],2560,none,1,983039⟩,c79,0⟩
theorem y79:FcI x79:=⟨by kernel_rfl,by kernel_rfl⟩
end
end Go.Proofs.YtppejimdibhgcaaGreatDoor.VM
