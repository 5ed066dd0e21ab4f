/-
  ChopKnown answers true in any world. No conditions.
-/
import Derived.Test.YtppejimdibhgcaaGreatDoorS4
import Derived.Test.YtppejimdibhgcaaGreatDoorT
import Derived.WalkKit
import Derived.Test.YtppejimdibhgcaaGreatDoorL
import Derived.Test.YtppejimdibhgcaaGreatDoorR0
import Derived.Test.YtppejimdibhgcaaGreatDoorC
import Derived.Test.YtppejimdibhgcaaGreatDoorR29
import Derived.Test.YtppejimdibhgcaaGreatDoorR1
import Derived.Test.YtppejimdibhgcaaGreatDoorR2
import Derived.Test.YtppejimdibhgcaaGreatDoorR3
import Derived.Test.YtppejimdibhgcaaGreatDoorR4
import Derived.Test.YtppejimdibhgcaaGreatDoorR5
import Derived.Test.YtppejimdibhgcaaGreatDoorR6
import Derived.Test.YtppejimdibhgcaaGreatDoorR7
import Derived.Test.YtppejimdibhgcaaGreatDoorR8
import Derived.Test.YtppejimdibhgcaaGreatDoorR9
import Derived.Test.YtppejimdibhgcaaGreatDoorR10
import Derived.Test.YtppejimdibhgcaaGreatDoorR11
import Derived.Test.YtppejimdibhgcaaGreatDoorR12
import Derived.Test.YtppejimdibhgcaaGreatDoorR13
import Derived.Test.YtppejimdibhgcaaGreatDoorR14
import Derived.Test.YtppejimdibhgcaaGreatDoorR15
import Derived.Test.YtppejimdibhgcaaGreatDoorR16
import Derived.Test.YtppejimdibhgcaaGreatDoorR17
import Derived.Test.YtppejimdibhgcaaGreatDoorR18
import Derived.Test.YtppejimdibhgcaaGreatDoorR19
import Derived.Test.YtppejimdibhgcaaGreatDoorR20
import Derived.Test.YtppejimdibhgcaaGreatDoorR21
import Derived.Test.YtppejimdibhgcaaGreatDoorR22
import Derived.Test.YtppejimdibhgcaaGreatDoorR23
import Derived.Test.YtppejimdibhgcaaGreatDoorR24
import Derived.Test.YtppejimdibhgcaaGreatDoorR25
import Derived.Test.YtppejimdibhgcaaGreatDoorR26
import Derived.Test.YtppejimdibhgcaaGreatDoorR27
import Derived.Test.YtppejimdibhgcaaGreatDoorR28
set_option linter.all false
set_option linter.unusedVariables false
set_option linter.unusedSimpArgs false
namespace Go.Proofs.YtppejimdibhgcaaGreatDoor.VM
open Go Go.RowKit Go.Proofs
set_option maxRecDepth 1000000
theorem idle61 {F : Fence} (hF : ∀ f, F.fn f) (hF0 : Fr0 F) (a : Array Value) (ha : a.size = 4) (w : World) :
    CallsDIn F 0 Tryz.prog 61 a .returning w fun e u' w'=>e=.returned (.tuple #[])∧u'=.returning∧w'=w:=by
  obtain ⟨a0,a1,a2,a3,rfl⟩:∃ a0 a1 a2 a3,a=#[a0,a1,a2,a3]:=by
    rcases a with ⟨l⟩
    match l,ha with
    | [a,b,c,d],_=>exact ⟨a,b,c,d,rfl⟩
  refine callsDIn_of_wpS hF hF0 Tryz.func61 rfl fun c₀ cs hu=>?_
  simp only [Tryz.ntmps61,List.size_toArray,List.length_cons,List.length_nil,Nat.reduceAdd,Nat.reduceSub,Array.replicate_succ,Array.replicate_zero,List.push_toArray,List.append_toArray,List.nil_append,List.cons_append]
  apply wpS_seq
  apply wpS_region
  simp [wpOpsS,go_sem,recoverD,hu,Tryz.ntmps61,Exit.thenS]
  apply wpS_seq
  refine wpS_of_wp ?_
  repeat (first | go_step)
  simp only [Exit.thenS]
  refine wpS_cond (t:=false) (by rfl) ?_
  simp only [Bool.false_eq_true,if_false]
  refine wpS_of_wp (wp_skip ?_)
  cases c₀
  simp_all [bodyPostS,results,Tryz.results61]
theorem idle67 {F : Fence} (hF : ∀ f, F.fn f) (hF0 : Fr0 F) (a : Array Value) (ha : a.size = 3) (w : World) :
    CallsDIn F 0 Tryz.prog 67 a .returning w fun e u' w'=>e=.returned (.tuple #[])∧u'=.returning∧w'=w:=by
  obtain ⟨a0,a1,a2,rfl⟩:∃ a0 a1 a2,a=#[a0,a1,a2]:=by
    rcases a with ⟨l⟩
    match l,ha with
    | [a,b,c],_=>exact ⟨a,b,c,rfl⟩
  refine callsDIn_of_wpS hF hF0 Tryz.func67 rfl fun c₀ cs hu=>?_
  simp only [Tryz.ntmps67,List.size_toArray,List.length_cons,List.length_nil,Nat.reduceAdd,Nat.reduceSub,Array.replicate_succ,Array.replicate_zero,List.push_toArray,List.append_toArray,List.nil_append,List.cons_append]
  apply wpS_seq
  apply wpS_region
  simp [wpOpsS,go_sem,recoverD,hu,Tryz.ntmps67,Exit.thenS]
  apply wpS_seq
  refine wpS_of_wp ?_
  repeat (first | go_step)
  simp only [Exit.thenS]
  refine wpS_cond (t:=false) (by rfl) ?_
  simp only [Bool.false_eq_true,if_false]
  refine wpS_of_wp (wp_skip ?_)
  cases c₀
  simp_all [bodyPostS,results,Tryz.results67]
theorem idle_of {c:Cx} {sig:FuncId→Option Sg} {f:FuncId} {ks:List Sk} (hfit:sgFit ks) (ent:EntP c.P f) (hsg:sig f=none) (h:∀ (F:Fence),(∀ f,F.fn f)→Fr0 F→∀ (a:Array Value),a.size=ks.length→∀ w,CallsDIn F 0 c.P f a .returning w fun e u' w'=>e=.returned (.tuple #[])∧u'=.returning∧w'=w):IdleS c sig f ks :=
 ⟨hfit,ent,hsg,fun C m hC F X A α w args hFf hFd hX hL hc hw ha hr hn hB u R hu hR=>by
   subst hu
   refine (h F hFf hFd args ha.1 w).mono ?_
   rintro e u' w' ⟨rfl,rfl,rfl⟩
   exact ⟨rfl,_,rfl,hR A α w' ⟨hw,fun _ _ _ _=>rfl,fun _ _ _=>rfl,fun _ _ _=>rfl,fun a h _=>absurd h (news_self m a)⟩ hr (stp_quiet hB hr.lt (news_self m) ⟨rfl,rfl,Nat.le_refl _,fun _ _=>rfl⟩)⟩⟩
theorem id61 (B:Nat):IdleS (cI B) DI.sig 61 [.one,.one,.one,.one]:=idle_of (c:=cI B) (fun k hk=>by simp at hk;subst hk;trivial) Tryz.call61 (by kernel_rfl) fun F hF hF0 a ha w=>idle61 hF hF0 a ha w
theorem id67 (B:Nat):IdleS (cI B) DI.sig 67 [.one,.one,.one]:=idle_of (c:=cI B) (fun k hk=>by simp at hk;subst hk;trivial) Tryz.call67 (by kernel_rfl) fun F hF hF0 a ha w=>idle67 hF hF0 a ha w
end Go.Proofs.YtppejimdibhgcaaGreatDoor.VM
namespace Go.Proofs.YtppejimdibhgcaaGreatDoor.VM
open Go Go.RowKit Go.Proofs
theorem kind_eq:∀ p:Fin 256,kindB p.val.toUInt8=kindN p.val:=by decide +kernel
theorem hand199 (B:Nat):HandS (cI B) DI.sig nsgI 199 ⟨[.one],.s .one⟩ 1 kindH:=by
 refine hand_kind (c:=cI B) Tryz.call199 (fun s h=>?_) fun p hp w=>?_
 · have:DI.sig 199=some ⟨[.one],.s .one⟩:=by kernel_rfl
   rw [this] at h;cases h;rfl
 · have hk:=YtppejimdibhgcaaGreatDoor.kind_c p.toUInt8 w
   have e1:(p.toUInt8.toNat:Int)=(p:Int):=by
     simp only [Nat.toUInt8_eq,UInt8.toNat_ofNat'];omega
   rw [e1,kind_eq ⟨p,hp⟩] at hk
   refine hk.mono ?_
   rintro e w' ⟨rfl,hf⟩
   exact ⟨rfl,hf.os,hf.output,hf.size,fun b hb=>hf.block b hb (fun h=>h)⟩
end Go.Proofs.YtppejimdibhgcaaGreatDoor.VM
namespace Go.Proofs.YtppejimdibhgcaaGreatDoor.VM
open Go Go.RowKit Go.Proofs
theorem envA (B n:Nat):EnvOk (cI B) DI.sig nsgI (env prI n):=envI B (hand199 B) (id61 B) (id67 B) n
theorem works_c (F:Fence) (hF:∀ f,F.fn f) (hF0:Fr0 F) (w:World) (R:Ending→World→Prop) (hR:∀ w',Quiet w w'→R (.returned (.bool true)) w'):CallsIn F 0 Tryz.prog 8 #[] w R:=by
 have hs:DI.sig 8=some ⟨[],.s .one⟩:=by kernel_rfl
 have h8:=w8
 refine run_closed (lk:=lkOf (ldOf DI Tryz.prog LI)) (ns:=64) (st:=stT) (fun B=>envA B 100000) (by decide) hs h8 F hF hF0 w R fun u X A α w' hu q=>?_
 have hu:NR X A α 35 u:=hu
 rw [hu.true_inv]
 exact hR w' q
end Go.Proofs.YtppejimdibhgcaaGreatDoor.VM
namespace Go.Proofs.YtppejimdibhgcaaGreatDoor.VM
open Go Go.RowKit Go.Proofs
noncomputable section
theorem tab_put {c:Cx} {sig:FuncId→Option Sg} {nsg:Nat→Option (FuncId × Sg)} {T:Tr Fn} (hT:TabOk c sig nsg T) {f:FuncId} {s:Sg} {w:Nat} {h:Hf} (hf:f<1000) (hh:HandS c sig nsg f s w h) {e:Fn} (he:e=hFn h (128*ws s.ks) w (sgOf s.ks) (rkOf s.kr)):TabOk c sig nsg (tput dFn e 40 f T fun t=>t):=fun g=>by
 obtain ⟨t',e1,e2⟩:=tput_get dFn e 40 f T (fun t=>t) (Nat.lt_of_lt_of_le (Nat.succ_lt_succ hf) (by decide))
 rw [e1,e2 g]
 by_cases hg:g=f
 · subst hg
   rw [if_pos rfl,he]
   exact .inr (.inr (.inl ⟨s,w,h,rfl,hh⟩))
 · rw [if_neg hg]
   exact hT g
theorem bAnd_l {a b:Bool} (h:bAnd a b=true):a=true:=by rw [bAnd_eq,Bool.and_eq_true] at h;exact h.1
theorem bAnd_r {a b:Bool} (h:bAnd a b=true):b=true:=by rw [bAnd_eq,Bool.and_eq_true] at h;exact h.2
theorem pk {v:Env} {f ns:Nat} {st:Tr Nat} (hv:∀ B,EnvOk (cI B) DI.sig nsgI v) {ds:List Mo} (h:allB (moT1 v f ns st) ds=true):∀ d∈ds,∃ v1,(∀ B,EnvOk (cI B) DI.sig nsgI v1)∧moT1 v1 f ns st d=true:=fun d hd=>⟨v,hv,allB_iff h d hd⟩
theorem pa {p:Mo→Prop} {a b:List Mo} (h1:∀ d∈a,p d) (h2:∀ d∈b,p d):∀ d∈List.append a b,p d:=fun d hd=>(List.mem_append.1 hd).elim (h1 d) (h2 d)
theorem allB_app {α:Type} {p:α→Bool} {a b:List α} (h1:allB p a=true) (h2:allB p b=true):allB p (List.append a b)=true:=by
 induction a with
 | nil=>exact h2
 | cons x a ih =>
   have h1:bAnd (p x) (allB p a)=true:=h1
   show bAnd (p x) (allB p (List.append a b))=true
   rw [bAnd_eq,Bool.and_eq_true] at h1 ⊢
   exact ⟨h1.1,ih h1.2⟩
theorem tabA (B:Nat):TabOk (cI B) DI.sig nsgI TI:=tabI B (hand199 B) (id61 B) (id67 B)
theorem s3:DI.sig 3=some ⟨[],.s .one⟩:=by kernel_rfl
theorem s8:DI.sig 8=some ⟨[],.s .one⟩:=by kernel_rfl
theorem hand8 (B:Nat):HandS (cI B) DI.sig nsgI 8 ⟨[],.s .one⟩ 1 (memH 35):=hand_true Tryz.call8 s8 works_c
theorem tabM (B:Nat):TabOk (cI B) DI.sig nsgI TM:=tab_put (tabA B) (by decide) (hand8 B) rfl
theorem envM (B n:Nat):EnvOk (cI B) DI.sig nsgI (env prM n):=env_ok (c:=cI B) (p:=prM) rfl (ltabI B) (tabM B) (natOkI B) rfl n
theorem s9:DI.sig 9=some ⟨[.one],.tup [.agg 4,.one]⟩:=by kernel_rfl
theorem hand9 (B:Nat):HandS (cI B) DI.sig nsgI 9 ⟨[.one],.tup [.agg 4,.one]⟩ 5 (pgH (dirH (env prM 100000) 9 (128*256) (2 ^ (128*5)))):=hand_page (hand_dir (n:=256) (envM B 100000) Tryz.call9 s9 (sgFitB_ok rfl) (rkFitB_ok rfl))
theorem s10:DI.sig 10=some ⟨[.agg 4],.s .one⟩:=by kernel_rfl
theorem hand10 (B:Nat):HandS (cI B) DI.sig nsgI 10 ⟨[.agg 4],.s .one⟩ 1 (dirH (env prM 100000) 10 (128*256) (2 ^ (128*1))):=hand_dir (n:=256) (envM B 100000) Tryz.call10 s10 (sgFitB_ok rfl) (rkFitB_ok rfl)
theorem s11:DI.sig 11=some ⟨[.agg 4],.s .one⟩:=by kernel_rfl
theorem hand11 (B:Nat):HandS (cI B) DI.sig nsgI 11 ⟨[.agg 4],.s .one⟩ 1 (dirH (env prM 100000) 11 (128*256) (2 ^ (128*1))):=hand_dir (n:=256) (envM B 100000) Tryz.call11 s11 (sgFitB_ok rfl) (rkFitB_ok rfl)
theorem s19:DI.sig 19=some ⟨[.one,.one,.one],.tup [.agg 2,.one]⟩:=by kernel_rfl
theorem hand19 (B:Nat):HandS (cI B) DI.sig nsgI 19 ⟨[.one,.one,.one],.tup [.agg 2,.one]⟩ 3 (dirH (env prM 100000) 19 (128*256) (2 ^ (128*3))):=hand_dir (n:=256) (envM B 100000) Tryz.call19 s19 (sgFitB_ok rfl) (rkFitB_ok rfl)
theorem s12:DI.sig 12=some ⟨[.agg 3,.one,.one],.tup [.one,.one]⟩:=by kernel_rfl
theorem hand12 (B:Nat):HandS (cI B) DI.sig nsgI 12 ⟨[.agg 3,.one,.one],.tup [.one,.one]⟩ 2 (dirH (env prM 100000) 12 (128*256) (2 ^ (128*2))):=hand_dir (n:=256) (envM B 100000) Tryz.call12 s12 (sgFitB_ok rfl) (rkFitB_ok rfl)
theorem tabD0 (B:Nat):TabOk (cI B) DI.sig nsgI TD0:=tab_put (tab_put (tab_put (tab_put (tab_put (tabM B) (by decide) (hand9 B) rfl) (by decide) (hand10 B) rfl) (by decide) (hand11 B) rfl) (by decide) (hand19 B) rfl) (by decide) (hand12 B) rfl
theorem envD0 (B n:Nat):EnvOk (cI B) DI.sig nsgI (env prD0 n):=env_ok (c:=cI B) (p:=prD0) rfl (ltabI B) (tabD0 B) (natOkI B) rfl n
theorem s22:DI.sig 22=some ⟨[.agg 2],.s .one⟩:=by kernel_rfl
set_option maxRecDepth 100000 in
theorem hand22 (B:Nat):HandS (cI B) DI.sig nsgI 22 ⟨[.agg 2],.s .one⟩ 1 (memF (dirH (env prM 100000) 22 (128*256) (2 ^ (128*1))) E22):=hand_memof (hand_dir (n:=256) (envM B 100000) Tryz.call22 s22 (sgFitB_ok rfl) (rkFitB_ok rfl)) s22 rfl (lk:=lkOf (ldOf DI Tryz.prog LI)) (ns:=64) (st:=stT) (by decide) (fun B=>envM B 100000) (by kernel_rfl) wi22_0
theorem tabE (B:Nat):TabOk (cI B) DI.sig nsgI TE:=tab_put (tabD0 B) (by decide) (hand22 B) rfl
theorem envE (B n:Nat):EnvOk (cI B) DI.sig nsgI (env prE n):=env_ok (c:=cI B) (p:=prE) rfl (ltabI B) (tabE B) (natOkI B) rfl n
theorem s4:DI.sig 4=some ⟨[.one,.one],.s .one⟩:=by kernel_rfl
set_option maxRecDepth 100000 in
theorem m4:∀ g∈gs4,allB (moC 2) g.ds=true∧∀ d∈g.ds,∃ v1,(∀ B,EnvOk (cI B) DI.sig nsgI v1)∧moT1 v1 4 64 stT d=true:=cc ⟨by kernel_rfl,(pa (pk (fun B=>envD0 B 100000) (bAnd_l w0_0)) (pk (fun B=>envD0 B 100000) (bAnd_l w0_1)))⟩ ( cc ⟨by kernel_rfl,(pk (fun B=>envD0 B 100000) (bAnd_l w1_0))⟩ ( cc ⟨by kernel_rfl,(pk (fun B=>envD0 B 100000) (bAnd_l w2_0))⟩ ( cc ⟨by kernel_rfl,(pk (fun B=>envD0 B 100000) (bAnd_l w3_0))⟩ ( cc ⟨by kernel_rfl,(pk (fun B=>envD0 B 100000) (bAnd_l w4_0))⟩ ( cc ⟨by kernel_rfl,(pa (pk (fun B=>envD0 B 100000) (bAnd_l w5_0)) (pk (fun B=>envD0 B 100000) w5_3))⟩ ( cc ⟨by kernel_rfl,(pk (fun B=>envD0 B 100000) (bAnd_l w6_0))⟩ ( cc ⟨by kernel_rfl,(pk (fun B=>envD0 B 100000) (bAnd_l w7_0))⟩ ( cc ⟨by kernel_rfl,(pk (fun B=>envD0 B 100000) (bAnd_l w8_0))⟩ ( cc ⟨by kernel_rfl,(pk (fun B=>envD0 B 100000) (bAnd_l w9_0))⟩ ( fun _ h=>by cases h))))))))))
theorem hand4 (B:Nat):HandS (cI B) DI.sig nsgI 4 ⟨[.one,.one],.s .one⟩ 1 (memG gs4):=hand_memo2 (c:=cI B) Tryz.call4 s4 (sgFitB_ok rfl) rfl (lk:=lkOf (ldOf DI Tryz.prog LI)) (ns:=64) (st:=stT) (by decide) m4
theorem s5:DI.sig 5=some ⟨[.one,.one],.s .one⟩:=by kernel_rfl
set_option maxRecDepth 100000 in
theorem m5:∀ g∈gs5,allB (moC 2) g.ds=true∧∀ d∈g.ds,∃ v1,(∀ B,EnvOk (cI B) DI.sig nsgI v1)∧moT1 v1 5 64 stT d=true:=cc ⟨by kernel_rfl,(pa (pk (fun B=>envD0 B 100000) (bAnd_l (bAnd_r w0_0))) (pk (fun B=>envD0 B 100000) (bAnd_l (bAnd_r w0_1))))⟩ ( cc ⟨by kernel_rfl,(pk (fun B=>envD0 B 100000) (bAnd_l (bAnd_r w1_0)))⟩ ( cc ⟨by kernel_rfl,(pk (fun B=>envD0 B 100000) (bAnd_l (bAnd_r w2_0)))⟩ ( cc ⟨by kernel_rfl,(pk (fun B=>envD0 B 100000) (bAnd_l (bAnd_r w3_0)))⟩ ( cc ⟨by kernel_rfl,(pk (fun B=>envD0 B 100000) (bAnd_l (bAnd_r w4_0)))⟩ ( cc ⟨by kernel_rfl,(pa (pk (fun B=>envD0 B 100000) (bAnd_l (bAnd_r w5_0))) (pa (pk (fun B=>envE B 100000) w5_4) (pk (fun B=>envD0 B 100000) (bAnd_l w5_5))))⟩ ( cc ⟨by kernel_rfl,(pk (fun B=>envD0 B 100000) (bAnd_l (bAnd_r w6_0)))⟩ ( cc ⟨by kernel_rfl,(pk (fun B=>envD0 B 100000) (bAnd_l (bAnd_r w7_0)))⟩ ( cc ⟨by kernel_rfl,(pk (fun B=>envD0 B 100000) (bAnd_l (bAnd_r w8_0)))⟩ ( cc ⟨by kernel_rfl,(pk (fun B=>envD0 B 100000) (bAnd_l (bAnd_r w9_0)))⟩ ( fun _ h=>by cases h))))))))))
theorem hand5 (B:Nat):HandS (cI B) DI.sig nsgI 5 ⟨[.one,.one],.s .one⟩ 1 (memG gs5):=hand_memo2 (c:=cI B) Tryz.call5 s5 (sgFitB_ok rfl) rfl (lk:=lkOf (ldOf DI Tryz.prog LI)) (ns:=64) (st:=stT) (by decide) m5
theorem s6:DI.sig 6=some ⟨[.one],.s .one⟩:=by kernel_rfl
set_option maxRecDepth 100000 in
theorem m6:∀ g∈gs6,allB (moC 1) g.ds=true∧∀ d∈g.ds,∃ v1,(∀ B,EnvOk (cI B) DI.sig nsgI v1)∧moT1 v1 6 64 stT d=true:=cc ⟨by kernel_rfl,(pa (pk (fun B=>envD0 B 100000) (bAnd_l (bAnd_r (bAnd_r w0_0)))) (pk (fun B=>envD0 B 100000) (bAnd_l (bAnd_r (bAnd_r w0_1)))))⟩ ( cc ⟨by kernel_rfl,(pk (fun B=>envD0 B 100000) (bAnd_l (bAnd_r (bAnd_r w1_0))))⟩ ( cc ⟨by kernel_rfl,(pk (fun B=>envD0 B 100000) (bAnd_l (bAnd_r (bAnd_r w2_0))))⟩ ( cc ⟨by kernel_rfl,(pk (fun B=>envD0 B 100000) (bAnd_l (bAnd_r (bAnd_r w3_0))))⟩ ( cc ⟨by kernel_rfl,(pk (fun B=>envD0 B 100000) (bAnd_l (bAnd_r (bAnd_r w4_0))))⟩ ( cc ⟨by kernel_rfl,(pa (pk (fun B=>envD0 B 100000) (bAnd_l (bAnd_r (bAnd_r w5_0)))) (pk (fun B=>envD0 B 100000) (bAnd_l (bAnd_r w5_5))))⟩ ( cc ⟨by kernel_rfl,(pk (fun B=>envD0 B 100000) (bAnd_l (bAnd_r (bAnd_r w6_0))))⟩ ( cc ⟨by kernel_rfl,(pk (fun B=>envD0 B 100000) (bAnd_l (bAnd_r (bAnd_r w7_0))))⟩ ( cc ⟨by kernel_rfl,(pk (fun B=>envD0 B 100000) (bAnd_l (bAnd_r (bAnd_r w8_0))))⟩ ( cc ⟨by kernel_rfl,(pk (fun B=>envD0 B 100000) (bAnd_l (bAnd_r (bAnd_r w9_0))))⟩ ( fun _ h=>by cases h))))))))))
theorem hand6 (B:Nat):HandS (cI B) DI.sig nsgI 6 ⟨[.one],.s .one⟩ 1 (memG gs6):=hand_memo2 (c:=cI B) Tryz.call6 s6 (sgFitB_ok rfl) rfl (lk:=lkOf (ldOf DI Tryz.prog LI)) (ns:=64) (st:=stT) (by decide) m6
theorem s7:DI.sig 7=some ⟨[.one,.agg 5],.s .one⟩:=by kernel_rfl
set_option maxRecDepth 100000 in
theorem m7:∀ g∈gs7,allB (moC 6) g.ds=true∧∀ d∈g.ds,∃ v1,(∀ B,EnvOk (cI B) DI.sig nsgI v1)∧moT1 v1 7 64 stT d=true:=cc ⟨by kernel_rfl,(pa (pk (fun B=>envD0 B 100000) (bAnd_r (bAnd_r (bAnd_r w0_0)))) (pk (fun B=>envD0 B 100000) (bAnd_r (bAnd_r (bAnd_r w0_1)))))⟩ ( cc ⟨by kernel_rfl,(pa (pk (fun B=>envD0 B 100000) (bAnd_r (bAnd_r (bAnd_r w1_0)))) (pk (fun B=>envD0 B 100000) w1_1))⟩ ( cc ⟨by kernel_rfl,(pa (pk (fun B=>envD0 B 100000) (bAnd_r (bAnd_r (bAnd_r w2_0)))) (pk (fun B=>envD0 B 100000) w2_1))⟩ ( cc ⟨by kernel_rfl,(pk (fun B=>envD0 B 100000) (bAnd_r (bAnd_r (bAnd_r w3_0))))⟩ ( cc ⟨by kernel_rfl,(pa (pk (fun B=>envD0 B 100000) (bAnd_r (bAnd_r (bAnd_r w4_0)))) (pa (pk (fun B=>envD0 B 100000) w4_1) (pk (fun B=>envD0 B 100000) w4_2)))⟩ ( cc ⟨by kernel_rfl,(pa (pk (fun B=>envD0 B 100000) (bAnd_r (bAnd_r (bAnd_r w5_0)))) (pa (pk (fun B=>envD0 B 100000) w5_1) (pa (pk (fun B=>envD0 B 100000) w5_2) (pa (pk (fun B=>envD0 B 100000) (bAnd_r (bAnd_r w5_5))) (pa (pk (fun B=>envD0 B 100000) w5_6) (pk (fun B=>envD0 B 100000) w5_7))))))⟩ ( cc ⟨by kernel_rfl,(pa (pk (fun B=>envD0 B 100000) (bAnd_r (bAnd_r (bAnd_r w6_0)))) (pa (pk (fun B=>envD0 B 100000) w6_1) (pa (pk (fun B=>envD0 B 100000) w6_2) (pk (fun B=>envD0 B 100000) w6_3))))⟩ ( cc ⟨by kernel_rfl,(pa (pk (fun B=>envD0 B 100000) (bAnd_r (bAnd_r (bAnd_r w7_0)))) (pa (pk (fun B=>envD0 B 100000) w7_1) (pk (fun B=>envD0 B 100000) w7_2)))⟩ ( cc ⟨by kernel_rfl,(pa (pk (fun B=>envD0 B 100000) (bAnd_r (bAnd_r (bAnd_r w8_0)))) (pk (fun B=>envD0 B 100000) w8_1))⟩ ( cc ⟨by kernel_rfl,(pk (fun B=>envD0 B 100000) (bAnd_r (bAnd_r (bAnd_r w9_0))))⟩ ( fun _ h=>by cases h))))))))))
theorem hand7 (B:Nat):HandS (cI B) DI.sig nsgI 7 ⟨[.one,.agg 5],.s .one⟩ 1 (memG gs7):=hand_memo2 (c:=cI B) Tryz.call7 s7 (sgFitB_ok rfl) rfl (lk:=lkOf (ldOf DI Tryz.prog LI)) (ns:=64) (st:=stT) (by decide) m7
theorem tabF (B:Nat):TabOk (cI B) DI.sig nsgI TK:=tab_put (tab_put (tab_put (tab_put (tabD0 B) (by decide) (hand4 B) rfl) (by decide) (hand5 B) rfl) (by decide) (hand6 B) rfl) (by decide) (hand7 B) rfl
theorem envF (B n:Nat):EnvOk (cI B) DI.sig nsgI (env prK n):=env_ok (c:=cI B) (p:=prK) rfl (ltabI B) (tabF B) (natOkI B) rfl n
theorem known_c (w:World):Calls Tryz.prog 3 #[] w fun e w'=>e=.returned (.bool true)∧Quiet w w':=by
 have h:CallsIn Fence.wide 0 Tryz.prog 3 #[] w fun e w'=>e=.returned (.bool true)∧Quiet w w':=by
   refine run_closed (lk:=lkOf (ldOf DI Tryz.prog LI)) (ns:=64) (st:=stT) (fun B=>envF B 100000) (by decide) s3 rK Fence.wide (fun _=>trivial) ⟨rfl,rfl⟩ w _ fun u X A α w' hu q=>?_
   have hu:NR X A α 35 u:=hu
   rw [hu.true_inv]
   exact ⟨rfl,q⟩
 exact callsIn_wide.1 h
end
end Go.Proofs.YtppejimdibhgcaaGreatDoor.VM
