/-
  WitnessKnown answers true in any world. No conditions.
-/
import Derived.Test.YtjdjffbnnapidaaGreatDoorS4
import Derived.Test.YtjdjffbnnapidaaGreatDoorT
import Derived.WalkKit
import Derived.Test.YtjdjffbnnapidaaGreatDoorL
import Derived.Test.YtjdjffbnnapidaaGreatDoorR0
import Derived.Test.YtjdjffbnnapidaaGreatDoorC
import Derived.Test.YtjdjffbnnapidaaGreatDoorR1
import Derived.Test.YtjdjffbnnapidaaGreatDoorR2
import Derived.Test.YtjdjffbnnapidaaGreatDoorR3
import Derived.Test.YtjdjffbnnapidaaGreatDoorR4
import Derived.Test.YtjdjffbnnapidaaGreatDoorR5
import Derived.Test.YtjdjffbnnapidaaGreatDoorR6
import Derived.Test.YtjdjffbnnapidaaGreatDoorR7
import Derived.Test.YtjdjffbnnapidaaGreatDoorR8
import Derived.Test.YtjdjffbnnapidaaGreatDoorR9
import Derived.Test.YtjdjffbnnapidaaGreatDoorR10
import Derived.Test.YtjdjffbnnapidaaGreatDoorR11
import Derived.Test.YtjdjffbnnapidaaGreatDoorR12
import Derived.Test.YtjdjffbnnapidaaGreatDoorR13
import Derived.Test.YtjdjffbnnapidaaGreatDoorR14
import Derived.Test.YtjdjffbnnapidaaGreatDoorR15
import Derived.Test.YtjdjffbnnapidaaGreatDoorR16
import Derived.Test.YtjdjffbnnapidaaGreatDoorR17
import Derived.Test.YtjdjffbnnapidaaGreatDoorR18
import Derived.Test.YtjdjffbnnapidaaGreatDoorR19
set_option linter.all false
set_option linter.unusedVariables false
set_option linter.unusedSimpArgs false
namespace Go.Proofs.YtjdjffbnnapidaaGreatDoor.VM
open Go Go.RowKit Go.Proofs
set_option maxRecDepth 1000000
theorem idle60 {F : Fence} (hF : ∀ f, F.fn f) (hF0 : Fr0 F) (a : Array Value) (ha : a.size = 4) (w : World) :
    CallsDIn F 0 Tryz.prog 60 a .returning w fun e u' w'=>e=.returned (.tuple #[])∧u'=.returning∧w'=w:=by
  obtain ⟨a0,a1,a2,a3,rfl⟩:∃ a0 a1 a2 a3,a=#[a0,a1,a2,a3]:=by
    rcases a with ⟨l⟩
    match l,ha with
    | [a,b,c,d],_=>exact ⟨a,b,c,d,rfl⟩
  refine callsDIn_of_wpS hF hF0 Tryz.func60 rfl fun c₀ cs hu=>?_
  simp only [Tryz.ntmps60,List.size_toArray,List.length_cons,List.length_nil,Nat.reduceAdd,Nat.reduceSub,Array.replicate_succ,Array.replicate_zero,List.push_toArray,List.append_toArray,List.nil_append,List.cons_append]
  apply wpS_seq
  apply wpS_region
  simp [wpOpsS,go_sem,recoverD,hu,Tryz.ntmps60,Exit.thenS]
  apply wpS_seq
  refine wpS_of_wp ?_
  repeat (first | go_step)
  simp only [Exit.thenS]
  refine wpS_cond (t:=false) (by rfl) ?_
  simp only [Bool.false_eq_true,if_false]
  refine wpS_of_wp (wp_skip ?_)
  cases c₀
  simp_all [bodyPostS,results,Tryz.results60]
theorem idle66 {F : Fence} (hF : ∀ f, F.fn f) (hF0 : Fr0 F) (a : Array Value) (ha : a.size = 3) (w : World) :
    CallsDIn F 0 Tryz.prog 66 a .returning w fun e u' w'=>e=.returned (.tuple #[])∧u'=.returning∧w'=w:=by
  obtain ⟨a0,a1,a2,rfl⟩:∃ a0 a1 a2,a=#[a0,a1,a2]:=by
    rcases a with ⟨l⟩
    match l,ha with
    | [a,b,c],_=>exact ⟨a,b,c,rfl⟩
  refine callsDIn_of_wpS hF hF0 Tryz.func66 rfl fun c₀ cs hu=>?_
  simp only [Tryz.ntmps66,List.size_toArray,List.length_cons,List.length_nil,Nat.reduceAdd,Nat.reduceSub,Array.replicate_succ,Array.replicate_zero,List.push_toArray,List.append_toArray,List.nil_append,List.cons_append]
  apply wpS_seq
  apply wpS_region
  simp [wpOpsS,go_sem,recoverD,hu,Tryz.ntmps66,Exit.thenS]
  apply wpS_seq
  refine wpS_of_wp ?_
  repeat (first | go_step)
  simp only [Exit.thenS]
  refine wpS_cond (t:=false) (by rfl) ?_
  simp only [Bool.false_eq_true,if_false]
  refine wpS_of_wp (wp_skip ?_)
  cases c₀
  simp_all [bodyPostS,results,Tryz.results66]
theorem idle_of {c:Cx} {sig:FuncId→Option Sg} {f:FuncId} {ks:List Sk} (hfit:sgFit ks) (ent:EntP c.P f) (hsg:sig f=none) (h:∀ (F:Fence),(∀ f,F.fn f)→Fr0 F→∀ (a:Array Value),a.size=ks.length→∀ w,CallsDIn F 0 c.P f a .returning w fun e u' w'=>e=.returned (.tuple #[])∧u'=.returning∧w'=w):IdleS c sig f ks :=
 ⟨hfit,ent,hsg,fun C m hC F X A α w args hFf hFd hX hL hc hw ha hr hn hB u R hu hR=>by
   subst hu
   refine (h F hFf hFd args ha.1 w).mono ?_
   rintro e u' w' ⟨rfl,rfl,rfl⟩
   exact ⟨rfl,_,rfl,hR A α w' ⟨hw,fun _ _ _ _=>rfl,fun _ _ _=>rfl,fun _ _ _=>rfl,fun a h _=>absurd h (news_self m a)⟩ hr (stp_quiet hB hr.lt (news_self m) ⟨rfl,rfl,Nat.le_refl _,fun _ _=>rfl⟩)⟩⟩
theorem id60 (B:Nat):IdleS (cI B) DI.sig 60 [.one,.one,.one,.one]:=idle_of (c:=cI B) (fun k hk=>by simp at hk;subst hk;trivial) Tryz.call60 (by kernel_rfl) fun F hF hF0 a ha w=>idle60 hF hF0 a ha w
theorem id66 (B:Nat):IdleS (cI B) DI.sig 66 [.one,.one,.one]:=idle_of (c:=cI B) (fun k hk=>by simp at hk;subst hk;trivial) Tryz.call66 (by kernel_rfl) fun F hF hF0 a ha w=>idle66 hF hF0 a ha w
end Go.Proofs.YtjdjffbnnapidaaGreatDoor.VM
namespace Go.Proofs.YtjdjffbnnapidaaGreatDoor.VM
open Go Go.RowKit Go.Proofs
theorem kind_eq:∀ p:Fin 256,kindB p.val.toUInt8=kindN p.val:=by decide +kernel
theorem hand195 (B:Nat):HandS (cI B) DI.sig nsgI 195 ⟨[.one],.s .one⟩ 1 kindH:=by
 refine hand_kind (c:=cI B) Tryz.call195 (fun s h=>?_) fun p hp w=>?_
 · have:DI.sig 195=some ⟨[.one],.s .one⟩:=by kernel_rfl
   rw [this] at h;cases h;rfl
 · have hk:=YtjdjffbnnapidaaGreatDoor.kind_c p.toUInt8 w
   have e1:(p.toUInt8.toNat:Int)=(p:Int):=by
     simp only [Nat.toUInt8_eq,UInt8.toNat_ofNat'];omega
   rw [e1,kind_eq ⟨p,hp⟩] at hk
   refine hk.mono ?_
   rintro e w' ⟨rfl,hf⟩
   exact ⟨rfl,hf.os,hf.output,hf.size,fun b hb=>hf.block b hb (fun h=>h)⟩
end Go.Proofs.YtjdjffbnnapidaaGreatDoor.VM
namespace Go.Proofs.YtjdjffbnnapidaaGreatDoor.VM
open Go Go.RowKit Go.Proofs
theorem envA (B n:Nat):EnvOk (cI B) DI.sig nsgI (env prI n):=envI B (hand195 B) (id60 B) (id66 B) n
theorem works_c (F:Fence) (hF:∀ f,F.fn f) (hF0:Fr0 F) (w:World) (R:Ending→World→Prop) (hR:∀ w',Quiet w w'→R (.returned (.bool true)) w'):CallsIn F 0 Tryz.prog 9 #[] w R:=by
 have hs:DI.sig 9=some ⟨[],.s .one⟩:=by kernel_rfl
 have h8:=w8
 refine run_closed (lk:=lkOf (ldOf DI Tryz.prog LI)) (ns:=58) (st:=stT) (fun B=>envA B 100000) (by decide) hs h8 F hF hF0 w R fun u X A α w' hu q=>?_
 have hu:NR X A α 35 u:=hu
 rw [hu.true_inv]
 exact hR w' q
end Go.Proofs.YtjdjffbnnapidaaGreatDoor.VM
namespace Go.Proofs.YtjdjffbnnapidaaGreatDoor.VM
open Go Go.RowKit Go.Proofs
noncomputable section
theorem tab_put {c:Cx} {sig:FuncId→Option Sg} {nsg:Nat→Option (FuncId × Sg)} {T:Tr Fn} (hT:TabOk c sig nsg T) {f:FuncId} {s:Sg} {w:Nat} {h:Hf} (hf:f<1000) (hh:HandS c sig nsg f s w h) {e:Fn} (he:e=hFn h (128*ws s.ks) w (sgOf s.ks) (rkOf s.kr)):TabOk c sig nsg (tput dFn e 40 f T fun t=>t):=fun g=>by
 obtain ⟨t',e1,e2⟩:=tput_get dFn e 40 f T (fun t=>t) (Nat.lt_of_lt_of_le (Nat.succ_lt_succ hf) (by decide))
 rw [e1,e2 g]
 by_cases hg:g=f
 · subst hg
   rw [if_pos rfl,he]
   exact .inr (.inr (.inl ⟨s,w,h,rfl,hh⟩))
 · rw [if_neg hg]
   exact hT g
theorem tabA (B:Nat):TabOk (cI B) DI.sig nsgI TI:=tabI B (hand195 B) (id60 B) (id66 B)
theorem s3:DI.sig 3=some ⟨[],.s .one⟩:=by kernel_rfl
theorem s9:DI.sig 9=some ⟨[],.s .one⟩:=by kernel_rfl
theorem s4:DI.sig 4=some ⟨[.one,.one,.one],.s .one⟩:=by kernel_rfl
theorem s5:DI.sig 5=some ⟨[.one,.one,.one,.one],.s .one⟩:=by kernel_rfl
theorem s6:DI.sig 6=some ⟨[.one,.one,.one],.s .one⟩:=by kernel_rfl
theorem s15:DI.sig 15=some ⟨[.one],.s .one⟩:=by kernel_rfl
theorem on1:∀ k∈([.one]:List Sk),k=.one:=List.forall_mem_cons.2 ⟨rfl, fun _ h=>by cases h⟩
theorem on3:∀ k∈([.one,.one,.one]:List Sk),k=.one:=List.forall_mem_cons.2 ⟨rfl,List.forall_mem_cons.2 ⟨rfl,List.forall_mem_cons.2 ⟨rfl, fun _ h=>by cases h⟩⟩⟩
theorem on4:∀ k∈([.one,.one,.one,.one]:List Sk),k=.one:=List.forall_mem_cons.2 ⟨rfl,List.forall_mem_cons.2 ⟨rfl,List.forall_mem_cons.2 ⟨rfl,List.forall_mem_cons.2 ⟨rfl, fun _ h=>by cases h⟩⟩⟩⟩
theorem hand9 (B:Nat):HandS (cI B) DI.sig nsgI 9 ⟨[],.s .one⟩ 1 (memH 35):=hand_true Tryz.call9 s9 works_c
theorem tabM (B:Nat):TabOk (cI B) DI.sig nsgI TM:=tab_put (tabA B) (by decide) (hand9 B) rfl
theorem envM (B:Nat):EnvOk (cI B) DI.sig nsgI (env prM 100000):=env_ok (c:=cI B) (p:=prM) rfl (ltabI B) (tabM B) (natOkI B) rfl 100000
def moC (n:Nat) (d:Mo):Bool:=bAnd (Nat.beq d.as.length n) (bAnd (allB (fun x=>Nat.ble (Nat.succ x) (Nat.pow 2 128)) (d.as++d.cs)) (bAnd (bOr (Nat.beq (tag d.r) 23) (Nat.beq (tag d.r) 3)) (Nat.ble (Nat.succ d.r) (Nat.pow 2 128))))
theorem moC_ok {v:Env} {f n:Nat} {d:Mo} (hv:∀ B,EnvOk (cI B) DI.sig nsgI v) (hb:moC n d=true) (h:v.call f (cellsN d.as) (mA 58 stT (cellsN (0 :: d.cs))) endK=.ok .nrm d.r mZ):∃ v1,(∀ B,EnvOk (cI B) DI.sig nsgI v1)∧MoR v1 f n 58 stT d∧d.r<2 ^ 128:=by
 unfold moC at hb
 simp only [bAnd_eq,bOr_eq,Bool.and_eq_true,Bool.or_eq_true,beq_iff,ble_iff] at hb
 obtain ⟨h1,h2,h3,h4⟩:=hb
 exact ⟨v,hv,⟨h1,h2,h3,_,h⟩,h4⟩
theorem ceM {f n:Nat} {d:Mo} (hb:moC n d=true) (h:RT f d=RV d):∃ v1,(∀ B,EnvOk (cI B) DI.sig nsgI v1)∧MoR v1 f n 58 stT d∧d.r<2 ^ 128:=moC_ok envM hb h
theorem mI:∀ d∈dsI,∃ v1,(∀ B,EnvOk (cI B) DI.sig nsgI v1)∧MoR v1 15 1 58 stT d∧d.r<2 ^ 128:=cc (ceM (by kernel_rfl) re0) ( fun _ h=>by cases h)
theorem hand15 (B:Nat):HandS (cI B) DI.sig nsgI 15 ⟨[.one],.s .one⟩ 1 (memS dsI):=hand_memo (c:=cI B) Tryz.call15 s15 on1 rfl (lk:=lkOf (ldOf DI Tryz.prog LI)) (ns:=58) (st:=stT) (by decide) mI
theorem tabL (B:Nat):TabOk (cI B) DI.sig nsgI TL:=tab_put (tabM B) (by decide) (hand15 B) rfl
theorem envL (B:Nat):EnvOk (cI B) DI.sig nsgI (env prL 100000):=env_ok (c:=cI B) (p:=prL) rfl (ltabI B) (tabL B) (natOkI B) rfl 100000
theorem ceL {f n:Nat} {d:Mo} (hb:moC n d=true) (h:RL f d=RV d):∃ v1,(∀ B,EnvOk (cI B) DI.sig nsgI v1)∧MoR v1 f n 58 stT d∧d.r<2 ^ 128:=moC_ok envL hb h
set_option maxRecDepth 100000 in
theorem m4:∀ d∈ds4,∃ v1,(∀ B,EnvOk (cI B) DI.sig nsgI v1)∧MoR v1 4 3 58 stT d∧d.r<2 ^ 128:=cc (ceM (by kernel_rfl) rd0) ( cc (ceM (by kernel_rfl) rd1) ( cc (ceM (by kernel_rfl) rd12) ( cc (ceM (by kernel_rfl) rd13) ( cc (ceM (by kernel_rfl) rd24) ( cc (ceM (by kernel_rfl) rd25) ( cc (ceM (by kernel_rfl) rd36) ( cc (ceM (by kernel_rfl) rd37) ( cc (ceM (by kernel_rfl) rd48) ( cc (ceM (by kernel_rfl) rd49) ( cc (ceM (by kernel_rfl) rd60) ( cc (ceM (by kernel_rfl) rd61) ( cc (ceM (by kernel_rfl) rd72) ( cc (ceM (by kernel_rfl) rd73) ( cc (ceM (by kernel_rfl) rd84) ( cc (ceM (by kernel_rfl) rd85) ( cc (ceM (by kernel_rfl) rd96) ( cc (ceM (by kernel_rfl) rd97) ( cc (ceM (by kernel_rfl) rd108) ( cc (ceM (by kernel_rfl) rd109) ( cc (ceM (by kernel_rfl) rd120) ( cc (ceM (by kernel_rfl) rd121) ( cc (ceM (by kernel_rfl) rd132) ( cc (ceM (by kernel_rfl) rd133) ( cc (ceL (by kernel_rfl) rd144) ( cc (ceM (by kernel_rfl) rd145) ( cc (ceL (by kernel_rfl) rd156) ( cc (ceM (by kernel_rfl) rd157) ( cc (ceM (by kernel_rfl) rd168) ( cc (ceM (by kernel_rfl) rd169) ( cc (ceM (by kernel_rfl) rd180) ( cc (ceM (by kernel_rfl) rd181) ( fun _ h=>by cases h))))))))))))))))))))))))))))))))
theorem hand4 (B:Nat):HandS (cI B) DI.sig nsgI 4 ⟨[.one,.one,.one],.s .one⟩ 1 (memS ds4):=hand_memo (c:=cI B) Tryz.call4 s4 on3 rfl (lk:=lkOf (ldOf DI Tryz.prog LI)) (ns:=58) (st:=stT) (by decide) m4
set_option maxRecDepth 100000 in
theorem m5:∀ d∈ds5,∃ v1,(∀ B,EnvOk (cI B) DI.sig nsgI v1)∧MoR v1 5 4 58 stT d∧d.r<2 ^ 128:=cc (ceM (by kernel_rfl) rd2) ( cc (ceM (by kernel_rfl) rd4) ( cc (ceM (by kernel_rfl) rd6) ( cc (ceM (by kernel_rfl) rd8) ( cc (ceM (by kernel_rfl) rd10) ( cc (ceM (by kernel_rfl) rd14) ( cc (ceM (by kernel_rfl) rd16) ( cc (ceM (by kernel_rfl) rd18) ( cc (ceM (by kernel_rfl) rd20) ( cc (ceM (by kernel_rfl) rd22) ( cc (ceM (by kernel_rfl) rd26) ( cc (ceM (by kernel_rfl) rd28) ( cc (ceM (by kernel_rfl) rd30) ( cc (ceM (by kernel_rfl) rd32) ( cc (ceM (by kernel_rfl) rd34) ( cc (ceM (by kernel_rfl) rd38) ( cc (ceM (by kernel_rfl) rd40) ( cc (ceM (by kernel_rfl) rd42) ( cc (ceM (by kernel_rfl) rd44) ( cc (ceM (by kernel_rfl) rd46) ( cc (ceM (by kernel_rfl) rd50) ( cc (ceM (by kernel_rfl) rd52) ( cc (ceM (by kernel_rfl) rd54) ( cc (ceM (by kernel_rfl) rd56) ( cc (ceM (by kernel_rfl) rd58) ( cc (ceM (by kernel_rfl) rd62) ( cc (ceM (by kernel_rfl) rd64) ( cc (ceM (by kernel_rfl) rd66) ( cc (ceM (by kernel_rfl) rd68) ( cc (ceM (by kernel_rfl) rd70) ( cc (ceM (by kernel_rfl) rd74) ( cc (ceM (by kernel_rfl) rd76) ( cc (ceM (by kernel_rfl) rd78) ( cc (ceM (by kernel_rfl) rd80) ( cc (ceM (by kernel_rfl) rd82) ( cc (ceM (by kernel_rfl) rd86) ( cc (ceM (by kernel_rfl) rd88) ( cc (ceM (by kernel_rfl) rd90) ( cc (ceM (by kernel_rfl) rd92) ( cc (ceM (by kernel_rfl) rd94) ( cc (ceM (by kernel_rfl) rd98) ( cc (ceM (by kernel_rfl) rd100) ( cc (ceM (by kernel_rfl) rd102) ( cc (ceM (by kernel_rfl) rd104) ( cc (ceM (by kernel_rfl) rd106) ( cc (ceM (by kernel_rfl) rd110) ( cc (ceM (by kernel_rfl) rd112) ( cc (ceM (by kernel_rfl) rd114) ( cc (ceM (by kernel_rfl) rd116) ( cc (ceM (by kernel_rfl) rd118) ( cc (ceM (by kernel_rfl) rd122) ( cc (ceM (by kernel_rfl) rd124) ( cc (ceM (by kernel_rfl) rd126) ( cc (ceM (by kernel_rfl) rd128) ( cc (ceM (by kernel_rfl) rd130) ( cc (ceM (by kernel_rfl) rd134) ( cc (ceM (by kernel_rfl) rd136) ( cc (ceM (by kernel_rfl) rd138) ( cc (ceM (by kernel_rfl) rd140) ( cc (ceM (by kernel_rfl) rd142) ( cc (ceM (by kernel_rfl) rd146) ( cc (ceM (by kernel_rfl) rd148) ( cc (ceM (by kernel_rfl) rd150) ( cc (ceM (by kernel_rfl) rd152) ( cc (ceM (by kernel_rfl) rd154) ( cc (ceM (by kernel_rfl) rd158) ( cc (ceM (by kernel_rfl) rd160) ( cc (ceM (by kernel_rfl) rd162) ( cc (ceM (by kernel_rfl) rd164) ( cc (ceM (by kernel_rfl) rd166) ( cc (ceM (by kernel_rfl) rd170) ( cc (ceM (by kernel_rfl) rd172) ( cc (ceM (by kernel_rfl) rd174) ( cc (ceM (by kernel_rfl) rd176) ( cc (ceM (by kernel_rfl) rd178) ( cc (ceM (by kernel_rfl) rd182) ( cc (ceM (by kernel_rfl) rd184) ( cc (ceM (by kernel_rfl) rd186) ( cc (ceM (by kernel_rfl) rd188) ( cc (ceM (by kernel_rfl) rd190) ( fun _ h=>by cases h))))))))))))))))))))))))))))))))))))))))))))))))))))))))))))))))))))))))))))))))
theorem hand5 (B:Nat):HandS (cI B) DI.sig nsgI 5 ⟨[.one,.one,.one,.one],.s .one⟩ 1 (memS ds5):=hand_memo (c:=cI B) Tryz.call5 s5 on4 rfl (lk:=lkOf (ldOf DI Tryz.prog LI)) (ns:=58) (st:=stT) (by decide) m5
set_option maxRecDepth 100000 in
theorem m6:∀ d∈ds6,∃ v1,(∀ B,EnvOk (cI B) DI.sig nsgI v1)∧MoR v1 6 3 58 stT d∧d.r<2 ^ 128:=cc (ceM (by kernel_rfl) rd3) ( cc (ceM (by kernel_rfl) rd5) ( cc (ceM (by kernel_rfl) rd7) ( cc (ceM (by kernel_rfl) rd9) ( cc (ceM (by kernel_rfl) rd11) ( cc (ceM (by kernel_rfl) rd15) ( cc (ceM (by kernel_rfl) rd17) ( cc (ceM (by kernel_rfl) rd19) ( cc (ceM (by kernel_rfl) rd21) ( cc (ceM (by kernel_rfl) rd23) ( cc (ceM (by kernel_rfl) rd27) ( cc (ceM (by kernel_rfl) rd29) ( cc (ceM (by kernel_rfl) rd31) ( cc (ceM (by kernel_rfl) rd33) ( cc (ceM (by kernel_rfl) rd35) ( cc (ceM (by kernel_rfl) rd39) ( cc (ceM (by kernel_rfl) rd41) ( cc (ceM (by kernel_rfl) rd43) ( cc (ceM (by kernel_rfl) rd45) ( cc (ceM (by kernel_rfl) rd47) ( cc (ceM (by kernel_rfl) rd51) ( cc (ceM (by kernel_rfl) rd53) ( cc (ceM (by kernel_rfl) rd55) ( cc (ceM (by kernel_rfl) rd57) ( cc (ceM (by kernel_rfl) rd59) ( cc (ceM (by kernel_rfl) rd63) ( cc (ceM (by kernel_rfl) rd65) ( cc (ceM (by kernel_rfl) rd67) ( cc (ceM (by kernel_rfl) rd69) ( cc (ceM (by kernel_rfl) rd71) ( cc (ceM (by kernel_rfl) rd75) ( cc (ceM (by kernel_rfl) rd77) ( cc (ceM (by kernel_rfl) rd79) ( cc (ceM (by kernel_rfl) rd81) ( cc (ceM (by kernel_rfl) rd83) ( cc (ceM (by kernel_rfl) rd87) ( cc (ceM (by kernel_rfl) rd89) ( cc (ceM (by kernel_rfl) rd91) ( cc (ceM (by kernel_rfl) rd93) ( cc (ceM (by kernel_rfl) rd95) ( cc (ceM (by kernel_rfl) rd99) ( cc (ceM (by kernel_rfl) rd101) ( cc (ceM (by kernel_rfl) rd103) ( cc (ceM (by kernel_rfl) rd105) ( cc (ceM (by kernel_rfl) rd107) ( cc (ceM (by kernel_rfl) rd111) ( cc (ceM (by kernel_rfl) rd113) ( cc (ceM (by kernel_rfl) rd115) ( cc (ceM (by kernel_rfl) rd117) ( cc (ceM (by kernel_rfl) rd119) ( cc (ceM (by kernel_rfl) rd123) ( cc (ceM (by kernel_rfl) rd125) ( cc (ceM (by kernel_rfl) rd127) ( cc (ceM (by kernel_rfl) rd129) ( cc (ceM (by kernel_rfl) rd131) ( cc (ceM (by kernel_rfl) rd135) ( cc (ceM (by kernel_rfl) rd137) ( cc (ceM (by kernel_rfl) rd139) ( cc (ceM (by kernel_rfl) rd141) ( cc (ceM (by kernel_rfl) rd143) ( cc (ceM (by kernel_rfl) rd147) ( cc (ceM (by kernel_rfl) rd149) ( cc (ceM (by kernel_rfl) rd151) ( cc (ceM (by kernel_rfl) rd153) ( cc (ceM (by kernel_rfl) rd155) ( cc (ceM (by kernel_rfl) rd159) ( cc (ceM (by kernel_rfl) rd161) ( cc (ceM (by kernel_rfl) rd163) ( cc (ceM (by kernel_rfl) rd165) ( cc (ceM (by kernel_rfl) rd167) ( cc (ceM (by kernel_rfl) rd171) ( cc (ceM (by kernel_rfl) rd173) ( cc (ceM (by kernel_rfl) rd175) ( cc (ceM (by kernel_rfl) rd177) ( cc (ceM (by kernel_rfl) rd179) ( cc (ceM (by kernel_rfl) rd183) ( cc (ceM (by kernel_rfl) rd185) ( cc (ceM (by kernel_rfl) rd187) ( cc (ceM (by kernel_rfl) rd189) ( cc (ceM (by kernel_rfl) rd191) ( cc (ceM (by kernel_rfl) rd192) ( fun _ h=>by cases h)))))))))))))))))))))))))))))))))))))))))))))))))))))))))))))))))))))))))))))))))
theorem hand6 (B:Nat):HandS (cI B) DI.sig nsgI 6 ⟨[.one,.one,.one],.s .one⟩ 1 (memS ds6):=hand_memo (c:=cI B) Tryz.call6 s6 on3 rfl (lk:=lkOf (ldOf DI Tryz.prog LI)) (ns:=58) (st:=stT) (by decide) m6
theorem tabF (B:Nat):TabOk (cI B) DI.sig nsgI TK:=tab_put (tab_put (tab_put (tabM B) (by decide) (hand4 B) rfl) (by decide) (hand5 B) rfl) (by decide) (hand6 B) rfl
theorem envF (B n:Nat):EnvOk (cI B) DI.sig nsgI (env prK n):=env_ok (c:=cI B) (p:=prK) rfl (ltabI B) (tabF B) (natOkI B) rfl n
theorem known_c (w:World):Calls Tryz.prog 3 #[] w fun e w'=>e=.returned (.bool true)∧Quiet w w':=by
 have h:CallsIn Fence.wide 0 Tryz.prog 3 #[] w fun e w'=>e=.returned (.bool true)∧Quiet w w':=by
   refine run_closed (lk:=lkOf (ldOf DI Tryz.prog LI)) (ns:=58) (st:=stT) (fun B=>envF B 100000) (by decide) s3 rK Fence.wide (fun _=>trivial) ⟨rfl,rfl⟩ w _ fun u X A α w' hu q=>?_
   have hu:NR X A α 35 u:=hu
   rw [hu.true_inv]
   exact ⟨rfl,q⟩
 exact callsIn_wide.1 h
end
end Go.Proofs.YtjdjffbnnapidaaGreatDoor.VM
