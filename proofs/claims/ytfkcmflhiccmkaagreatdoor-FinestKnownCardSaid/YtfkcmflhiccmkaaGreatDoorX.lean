/-
  FinestKnown answers true in any world. No conditions.
-/
import Derived.Test.YtfkcmflhiccmkaaGreatDoorS3
import Derived.Test.YtfkcmflhiccmkaaGreatDoorT
import Derived.WalkKit
import Derived.Test.YtfkcmflhiccmkaaGreatDoorL
import Derived.Test.YtfkcmflhiccmkaaGreatDoorR0
import Derived.Test.YtfkcmflhiccmkaaGreatDoorC
import Derived.Test.YtfkcmflhiccmkaaGreatDoorR1
import Derived.Test.YtfkcmflhiccmkaaGreatDoorR2
import Derived.Test.YtfkcmflhiccmkaaGreatDoorR3
import Derived.Test.YtfkcmflhiccmkaaGreatDoorR4
import Derived.Test.YtfkcmflhiccmkaaGreatDoorR5
import Derived.Test.YtfkcmflhiccmkaaGreatDoorR6
import Derived.Test.YtfkcmflhiccmkaaGreatDoorR7
import Derived.Test.YtfkcmflhiccmkaaGreatDoorR8
import Derived.Test.YtfkcmflhiccmkaaGreatDoorR9
import Derived.Test.YtfkcmflhiccmkaaGreatDoorR10
import Derived.Test.YtfkcmflhiccmkaaGreatDoorR11
import Derived.Test.YtfkcmflhiccmkaaGreatDoorR12
import Derived.Test.YtfkcmflhiccmkaaGreatDoorR13
import Derived.Test.YtfkcmflhiccmkaaGreatDoorR14
import Derived.Test.YtfkcmflhiccmkaaGreatDoorR15
import Derived.Test.YtfkcmflhiccmkaaGreatDoorR16
import Derived.Test.YtfkcmflhiccmkaaGreatDoorR17
import Derived.Test.YtfkcmflhiccmkaaGreatDoorR18
import Derived.Test.YtfkcmflhiccmkaaGreatDoorR19
import Derived.Test.YtfkcmflhiccmkaaGreatDoorR20
import Derived.Test.YtfkcmflhiccmkaaGreatDoorR21
import Derived.Test.YtfkcmflhiccmkaaGreatDoorR22
set_option linter.all false
set_option linter.unusedVariables false
set_option linter.unusedSimpArgs false
namespace Go.Proofs.YtfkcmflhiccmkaaGreatDoor.VM
open Go Go.RowKit Go.Proofs
set_option maxRecDepth 1000000
theorem idle56 {F : Fence} (hF : ∀ f, F.fn f) (hF0 : Fr0 F) (a : Array Value) (ha : a.size = 4) (w : World) :
    CallsDIn F 0 Tryz.prog 56 a .returning w fun e u' w'=>e = .returned (.tuple #[])∧u' = .returning∧w' = w:=by
  obtain ⟨a0,a1,a2,a3,rfl⟩:∃ a0 a1 a2 a3,a = #[a0,a1,a2,a3]:=by
    rcases a with ⟨l⟩
    match l,ha with
    | [a,b,c,d],_=>exact ⟨a,b,c,d,rfl⟩
  refine callsDIn_of_wpS hF hF0 Tryz.func56 rfl fun c₀ cs hu=>?_
  simp only [Tryz.ntmps56,List.size_toArray,List.length_cons,List.length_nil,Nat.reduceAdd,Nat.reduceSub,Array.replicate_succ,Array.replicate_zero,List.push_toArray,List.append_toArray,List.nil_append,List.cons_append]
  apply wpS_seq
  apply wpS_region
  simp [wpOpsS,go_sem,recoverD,hu,Tryz.ntmps56,Exit.thenS]
  apply wpS_seq
  refine wpS_of_wp ?_
  repeat (first | go_step)
  simp only [Exit.thenS]
  refine wpS_cond (t:=false) (by rfl) ?_
  simp only [Bool.false_eq_true,if_false]
  refine wpS_of_wp (wp_skip ?_)
  cases c₀
  simp_all [bodyPostS,results,Tryz.results56]
theorem idle62 {F : Fence} (hF : ∀ f, F.fn f) (hF0 : Fr0 F) (a : Array Value) (ha : a.size = 3) (w : World) :
    CallsDIn F 0 Tryz.prog 62 a .returning w fun e u' w'=>e = .returned (.tuple #[])∧u' = .returning∧w' = w:=by
  obtain ⟨a0,a1,a2,rfl⟩:∃ a0 a1 a2,a = #[a0,a1,a2]:=by
    rcases a with ⟨l⟩
    match l,ha with
    | [a,b,c],_=>exact ⟨a,b,c,rfl⟩
  refine callsDIn_of_wpS hF hF0 Tryz.func62 rfl fun c₀ cs hu=>?_
  simp only [Tryz.ntmps62,List.size_toArray,List.length_cons,List.length_nil,Nat.reduceAdd,Nat.reduceSub,Array.replicate_succ,Array.replicate_zero,List.push_toArray,List.append_toArray,List.nil_append,List.cons_append]
  apply wpS_seq
  apply wpS_region
  simp [wpOpsS,go_sem,recoverD,hu,Tryz.ntmps62,Exit.thenS]
  apply wpS_seq
  refine wpS_of_wp ?_
  repeat (first | go_step)
  simp only [Exit.thenS]
  refine wpS_cond (t:=false) (by rfl) ?_
  simp only [Bool.false_eq_true,if_false]
  refine wpS_of_wp (wp_skip ?_)
  cases c₀
  simp_all [bodyPostS,results,Tryz.results62]
theorem idle_of {c:Cx} {sig:FuncId→Option Sg} {f:FuncId} {ks:List Sk} (hfit:sgFit ks) (ent:EntP c.P f) (hsg:sig f = none) (h:∀ (F:Fence),(∀ f,F.fn f)→Fr0 F→∀ (a:Array Value),a.size = ks.length→∀ w,CallsDIn F 0 c.P f a .returning w fun e u' w'=>e = .returned (.tuple #[])∧u' = .returning∧w' = w):IdleS c sig f ks :=
  ⟨hfit,ent,hsg,fun C m hC F X A α w args hFf hFd hX hL hc hw ha hr hn hB u R hu hR=>by
    subst hu
    refine (h F hFf hFd args ha.1 w).mono ?_
    rintro e u' w' ⟨rfl,rfl,rfl⟩
    exact ⟨rfl,_,rfl,hR A α w' ⟨hw,fun _ _ _ _=>rfl,fun _ _ _=>rfl,fun _ _ _=>rfl,fun a h _=>absurd h (news_self m a)⟩ hr (stp_quiet hB hr.lt (news_self m) ⟨rfl,rfl,Nat.le_refl _,fun _ _=>rfl⟩)⟩⟩
theorem id56 (B:Nat):IdleS (cI B) DI.sig 56 [.one,.one,.one,.one]:=idle_of (c:=cI B) (fun k hk=>by simp at hk; subst hk; trivial) Tryz.call56 (by kernel_rfl) fun F hF hF0 a ha w=>idle56 hF hF0 a ha w
theorem id62 (B:Nat):IdleS (cI B) DI.sig 62 [.one,.one,.one]:=idle_of (c:=cI B) (fun k hk=>by simp at hk; subst hk; trivial) Tryz.call62 (by kernel_rfl) fun F hF hF0 a ha w=>idle62 hF hF0 a ha w
end Go.Proofs.YtfkcmflhiccmkaaGreatDoor.VM
namespace Go.Proofs.YtfkcmflhiccmkaaGreatDoor.VM
open Go Go.RowKit Go.Proofs
theorem kind_eq:∀ p:Fin 256,kindB p.val.toUInt8 = kindN p.val:=by decide +kernel
theorem hand166 (B:Nat):HandS (cI B) DI.sig nsgI 166 ⟨[.one],.s .one⟩ 1 kindH:=by
  refine hand_kind (c:=cI B) Tryz.call166 (fun s h=>?_) fun p hp w=>?_
  · have:DI.sig 166 = some ⟨[.one],.s .one⟩:=by kernel_rfl
    rw [this] at h; cases h; rfl
  · have hk:=YtfkcmflhiccmkaaGreatDoor.kind_c p.toUInt8 w
    have e1:(p.toUInt8.toNat:Int) = (p:Int):=by
      simp only [Nat.toUInt8_eq,UInt8.toNat_ofNat']; omega
    rw [e1,kind_eq ⟨p,hp⟩] at hk
    refine hk.mono ?_
    rintro e w' ⟨rfl,hf⟩
    exact ⟨rfl,hf.os,hf.output,hf.size,fun b hb=>hf.block b hb (fun h=>h)⟩
end Go.Proofs.YtfkcmflhiccmkaaGreatDoor.VM
namespace Go.Proofs.YtfkcmflhiccmkaaGreatDoor.VM
open Go Go.RowKit Go.Proofs
theorem envA (B n:Nat):EnvOk (cI B) DI.sig nsgI (env prI n):=envI B (hand166 B) (id56 B) (id62 B) n
theorem works_c (F:Fence) (hF:∀ f,F.fn f) (hF0:Fr0 F) (w:World) (R:Ending→World→Prop) (hR:∀ w',Quiet w w'→R (.returned (.bool true)) w'):CallsIn F 0 Tryz.prog 8 #[] w R:=by
  have hs:DI.sig 8 = some ⟨[],.s .one⟩:=by kernel_rfl
  have h8:=w8
  refine run_closed (lk:=lkOf (ldOf DI Tryz.prog LI)) (ns:=53) (st:=stT) (fun B=>envA B 100000) (by decide) hs h8 F hF hF0 w R fun u X A α w' hu q=>?_
  have hu:NR X A α 35 u:=hu
  rw [hu.true_inv]
  exact hR w' q
end Go.Proofs.YtfkcmflhiccmkaaGreatDoor.VM
namespace Go.Proofs.YtfkcmflhiccmkaaGreatDoor.VM
open Go Go.RowKit Go.Proofs
noncomputable section
theorem tab_put {c:Cx} {sig:FuncId→Option Sg} {nsg:Nat→Option (FuncId × Sg)} {T:Tr Fn} (hT:TabOk c sig nsg T) {f:FuncId} {s:Sg} {w:Nat} {h:Hf} (hf:f < 1000) (hh:HandS c sig nsg f s w h) {e:Fn} (he:e = hFn h (128 * ws s.ks) w (sgOf s.ks) (rkOf s.kr)):TabOk c sig nsg (tput dFn e 40 f T fun t=>t):=fun g=>by
  obtain ⟨t',e1,e2⟩:=tput_get dFn e 40 f T (fun t=>t) (Nat.lt_of_lt_of_le (Nat.succ_lt_succ hf) (by decide))
  rw [e1,e2 g]
  by_cases hg:g = f
  · subst hg
    rw [if_pos rfl,he]
    exact .inr (.inr (.inl ⟨s,w,h,rfl,hh⟩))
  · rw [if_neg hg]
    exact hT g
theorem tabA (B:Nat):TabOk (cI B) DI.sig nsgI TI:=tabI B (hand166 B) (id56 B) (id62 B)
theorem s8:DI.sig 8 = some ⟨[],.s .one⟩:=by kernel_rfl
theorem s4:DI.sig 4 = some ⟨[.one,.one],.s .one⟩:=by kernel_rfl
theorem s5:DI.sig 5 = some ⟨[.one],.s .one⟩:=by kernel_rfl
theorem s6:DI.sig 6 = some ⟨[.one,.one],.s .one⟩:=by kernel_rfl
theorem s3:DI.sig 3 = some ⟨[],.s .one⟩:=by kernel_rfl
theorem hand8 (B:Nat):HandS (cI B) DI.sig nsgI 8 ⟨[],.s .one⟩ 1 (memH 35):=hand_true Tryz.call8 s8 works_c
theorem tabM (B:Nat):TabOk (cI B) DI.sig nsgI TM:=tab_put (tabA B) (by decide) (hand8 B) rfl
theorem envM (B n:Nat):EnvOk (cI B) DI.sig nsgI (env prM n):=env_ok (c:=cI B) (p:=prM) rfl (ltabI B) (tabM B) (natOkI B) rfl n
theorem on1:∀ k ∈ ([.one]:List Sk),k = .one:=fun k h=>List.mem_singleton.1 h
theorem on2 : ∀ k ∈ ([.one, .one] : List Sk), k = .one := fun k h => by rcases List.mem_cons.1 h with h | h
                                                                        · exact h
                                                                        · exact List.mem_singleton.1 h
theorem m4:∀ d ∈ ds4,MoR (env prM 100000) 4 2 53 stT d:=List.forall_mem_cons.2 ⟨⟨rfl,by kernel_rfl,_,rd4a0⟩,List.forall_mem_cons.2 ⟨⟨rfl,by kernel_rfl,_,rd4b0⟩,List.forall_mem_cons.2 ⟨⟨rfl,by kernel_rfl,_,rd4a1⟩,List.forall_mem_cons.2 ⟨⟨rfl,by kernel_rfl,_,rd4b1⟩,List.forall_mem_cons.2 ⟨⟨rfl,by kernel_rfl,_,rd4a2⟩,List.forall_mem_cons.2 ⟨⟨rfl,by kernel_rfl,_,rd4b2⟩,List.forall_mem_cons.2 ⟨⟨rfl,by kernel_rfl,_,rd4a3⟩,List.forall_mem_cons.2 ⟨⟨rfl,by kernel_rfl,_,rd4b3⟩,List.forall_mem_cons.2 ⟨⟨rfl,by kernel_rfl,_,rd4a4⟩,List.forall_mem_cons.2 ⟨⟨rfl,by kernel_rfl,_,rd4b4⟩,List.forall_mem_cons.2 ⟨⟨rfl,by kernel_rfl,_,rd4a5⟩,List.forall_mem_cons.2 ⟨⟨rfl,by kernel_rfl,_,rd4b5⟩,List.forall_mem_cons.2 ⟨⟨rfl,by kernel_rfl,_,rd4a6⟩,List.forall_mem_cons.2 ⟨⟨rfl,by kernel_rfl,_,rd4b6⟩,List.forall_mem_cons.2 ⟨⟨rfl,by kernel_rfl,_,rd4a7⟩,List.forall_mem_cons.2 ⟨⟨rfl,by kernel_rfl,_,rd4b7⟩,fun _ h=>by cases h⟩⟩⟩⟩⟩⟩⟩⟩⟩⟩⟩⟩⟩⟩⟩⟩
theorem hand4 (B:Nat):HandS (cI B) DI.sig nsgI 4 ⟨[.one,.one],.s .one⟩ 1 (memS ds4):=hand_memo (c:=cI B) Tryz.call4 s4 on2 rfl (lk:=lkOf (ldOf DI Tryz.prog LI)) (ns:=53) (st:=stT) (by decide) (fun B=>envM B 100000) m4
theorem m5:∀ d ∈ ds5,MoR (env prM 100000) 5 1 53 stT d:=List.forall_mem_cons.2 ⟨⟨rfl,by kernel_rfl,_,rd5a0⟩,List.forall_mem_cons.2 ⟨⟨rfl,by kernel_rfl,_,rd5a1⟩,List.forall_mem_cons.2 ⟨⟨rfl,by kernel_rfl,_,rd5a2⟩,List.forall_mem_cons.2 ⟨⟨rfl,by kernel_rfl,_,rd5a3⟩,List.forall_mem_cons.2 ⟨⟨rfl,by kernel_rfl,_,rd5a4⟩,List.forall_mem_cons.2 ⟨⟨rfl,by kernel_rfl,_,rd5a5⟩,List.forall_mem_cons.2 ⟨⟨rfl,by kernel_rfl,_,rd5a6⟩,List.forall_mem_cons.2 ⟨⟨rfl,by kernel_rfl,_,rd5a7⟩,fun _ h=>by cases h⟩⟩⟩⟩⟩⟩⟩⟩
theorem hand5 (B:Nat):HandS (cI B) DI.sig nsgI 5 ⟨[.one],.s .one⟩ 1 (memS ds5):=hand_memo (c:=cI B) Tryz.call5 s5 on1 rfl (lk:=lkOf (ldOf DI Tryz.prog LI)) (ns:=53) (st:=stT) (by decide) (fun B=>envM B 100000) m5
theorem m6:∀ d ∈ ds6,MoR (env prM 100000) 6 2 53 stT d:=List.forall_mem_cons.2 ⟨⟨rfl,by kernel_rfl,_,rd6a0⟩,List.forall_mem_cons.2 ⟨⟨rfl,by kernel_rfl,_,rd6b0⟩,List.forall_mem_cons.2 ⟨⟨rfl,by kernel_rfl,_,rd6a1⟩,List.forall_mem_cons.2 ⟨⟨rfl,by kernel_rfl,_,rd6b1⟩,List.forall_mem_cons.2 ⟨⟨rfl,by kernel_rfl,_,rd6a2⟩,List.forall_mem_cons.2 ⟨⟨rfl,by kernel_rfl,_,rd6b2⟩,List.forall_mem_cons.2 ⟨⟨rfl,by kernel_rfl,_,rd6a3⟩,List.forall_mem_cons.2 ⟨⟨rfl,by kernel_rfl,_,rd6b3⟩,List.forall_mem_cons.2 ⟨⟨rfl,by kernel_rfl,_,rd6a4⟩,List.forall_mem_cons.2 ⟨⟨rfl,by kernel_rfl,_,rd6b4⟩,List.forall_mem_cons.2 ⟨⟨rfl,by kernel_rfl,_,rd6a5⟩,List.forall_mem_cons.2 ⟨⟨rfl,by kernel_rfl,_,rd6b5⟩,List.forall_mem_cons.2 ⟨⟨rfl,by kernel_rfl,_,rd6a6⟩,List.forall_mem_cons.2 ⟨⟨rfl,by kernel_rfl,_,rd6b6⟩,List.forall_mem_cons.2 ⟨⟨rfl,by kernel_rfl,_,rd6a7⟩,List.forall_mem_cons.2 ⟨⟨rfl,by kernel_rfl,_,rd6b7⟩,fun _ h=>by cases h⟩⟩⟩⟩⟩⟩⟩⟩⟩⟩⟩⟩⟩⟩⟩⟩
theorem hand6 (B:Nat):HandS (cI B) DI.sig nsgI 6 ⟨[.one,.one],.s .one⟩ 1 (memS ds6):=hand_memo (c:=cI B) Tryz.call6 s6 on2 rfl (lk:=lkOf (ldOf DI Tryz.prog LI)) (ns:=53) (st:=stT) (by decide) (fun B=>envM B 100000) m6
theorem tabF (B:Nat):TabOk (cI B) DI.sig nsgI TK:=tab_put (tab_put (tab_put (tabM B) (by decide) (hand4 B) rfl) (by decide) (hand5 B) rfl) (by decide) (hand6 B) rfl
theorem envF (B n:Nat):EnvOk (cI B) DI.sig nsgI (env prK n):=env_ok (c:=cI B) (p:=prK) rfl (ltabI B) (tabF B) (natOkI B) rfl n
theorem known_c (w:World):Calls Tryz.prog 3 #[] w fun e w'=>e = .returned (.bool true)∧Quiet w w':=by
  have h:CallsIn Fence.wide 0 Tryz.prog 3 #[] w fun e w'=>e = .returned (.bool true)∧Quiet w w':=by
    refine run_closed (lk:=lkOf (ldOf DI Tryz.prog LI)) (ns:=53) (st:=stT) (fun B=>envF B 100000) (by decide) s3 r3 Fence.wide (fun _=>trivial) ⟨rfl,rfl⟩ w _ fun u X A α w' hu q=>?_
    have hu:NR X A α 35 u:=hu
    rw [hu.true_inv]
    exact ⟨rfl,q⟩
  exact callsIn_wide.1 h
end
end Go.Proofs.YtfkcmflhiccmkaaGreatDoor.VM
