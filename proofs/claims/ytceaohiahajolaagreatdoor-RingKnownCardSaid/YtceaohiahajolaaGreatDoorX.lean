/-
  RingKnown answers true in any world. No conditions.
-/
import Derived.Test.YtceaohiahajolaaGreatDoorS4
import Derived.Test.YtceaohiahajolaaGreatDoorT
import Derived.WalkKit
import Derived.Test.YtceaohiahajolaaGreatDoorL
import Derived.Test.YtceaohiahajolaaGreatDoorR0
import Derived.Test.YtceaohiahajolaaGreatDoorC
import Derived.Test.YtceaohiahajolaaGreatDoorR18
import Derived.Test.YtceaohiahajolaaGreatDoorR19
import Derived.Test.YtceaohiahajolaaGreatDoorR20
import Derived.Test.YtceaohiahajolaaGreatDoorR21
import Derived.Test.YtceaohiahajolaaGreatDoorR22
import Derived.Test.YtceaohiahajolaaGreatDoorR23
import Derived.Test.YtceaohiahajolaaGreatDoorR1
import Derived.Test.YtceaohiahajolaaGreatDoorR2
import Derived.Test.YtceaohiahajolaaGreatDoorR3
import Derived.Test.YtceaohiahajolaaGreatDoorR4
import Derived.Test.YtceaohiahajolaaGreatDoorR5
import Derived.Test.YtceaohiahajolaaGreatDoorR6
import Derived.Test.YtceaohiahajolaaGreatDoorR7
import Derived.Test.YtceaohiahajolaaGreatDoorR8
import Derived.Test.YtceaohiahajolaaGreatDoorR9
import Derived.Test.YtceaohiahajolaaGreatDoorR10
import Derived.Test.YtceaohiahajolaaGreatDoorR11
import Derived.Test.YtceaohiahajolaaGreatDoorR12
import Derived.Test.YtceaohiahajolaaGreatDoorR13
import Derived.Test.YtceaohiahajolaaGreatDoorR14
import Derived.Test.YtceaohiahajolaaGreatDoorR15
import Derived.Test.YtceaohiahajolaaGreatDoorR16
import Derived.Test.YtceaohiahajolaaGreatDoorR17
set_option linter.all false
set_option linter.unusedVariables false
set_option linter.unusedSimpArgs false
namespace Go.Proofs.YtceaohiahajolaaGreatDoor.VM
open Go Go.RowKit Go.Proofs
set_option maxRecDepth 1000000
theorem idle65 {F : Fence} (hF : ∀ f, F.fn f) (hF0 : Fr0 F) (a : Array Value) (ha : a.size = 4) (w : World) :
    CallsDIn F 0 Tryz.prog 65 a .returning w fun e u' w'=>e=.returned (.tuple #[])∧u'=.returning∧w'=w:=by
  obtain ⟨a0,a1,a2,a3,rfl⟩:∃ a0 a1 a2 a3,a=#[a0,a1,a2,a3]:=by
    rcases a with ⟨l⟩
    match l,ha with
    | [a,b,c,d],_=>exact ⟨a,b,c,d,rfl⟩
  refine callsDIn_of_wpS hF hF0 Tryz.func65 rfl fun c₀ cs hu=>?_
  simp only [Tryz.ntmps65,List.size_toArray,List.length_cons,List.length_nil,Nat.reduceAdd,Nat.reduceSub,Array.replicate_succ,Array.replicate_zero,List.push_toArray,List.append_toArray,List.nil_append,List.cons_append]
  apply wpS_seq
  apply wpS_region
  simp [wpOpsS,go_sem,recoverD,hu,Tryz.ntmps65,Exit.thenS]
  apply wpS_seq
  refine wpS_of_wp ?_
  repeat (first | go_step)
  simp only [Exit.thenS]
  refine wpS_cond (t:=false) (by rfl) ?_
  simp only [Bool.false_eq_true,if_false]
  refine wpS_of_wp (wp_skip ?_)
  cases c₀
  simp_all [bodyPostS,results,Tryz.results65]
theorem idle71 {F : Fence} (hF : ∀ f, F.fn f) (hF0 : Fr0 F) (a : Array Value) (ha : a.size = 3) (w : World) :
    CallsDIn F 0 Tryz.prog 71 a .returning w fun e u' w'=>e=.returned (.tuple #[])∧u'=.returning∧w'=w:=by
  obtain ⟨a0,a1,a2,rfl⟩:∃ a0 a1 a2,a=#[a0,a1,a2]:=by
    rcases a with ⟨l⟩
    match l,ha with
    | [a,b,c],_=>exact ⟨a,b,c,rfl⟩
  refine callsDIn_of_wpS hF hF0 Tryz.func71 rfl fun c₀ cs hu=>?_
  simp only [Tryz.ntmps71,List.size_toArray,List.length_cons,List.length_nil,Nat.reduceAdd,Nat.reduceSub,Array.replicate_succ,Array.replicate_zero,List.push_toArray,List.append_toArray,List.nil_append,List.cons_append]
  apply wpS_seq
  apply wpS_region
  simp [wpOpsS,go_sem,recoverD,hu,Tryz.ntmps71,Exit.thenS]
  apply wpS_seq
  refine wpS_of_wp ?_
  repeat (first | go_step)
  simp only [Exit.thenS]
  refine wpS_cond (t:=false) (by rfl) ?_
  simp only [Bool.false_eq_true,if_false]
  refine wpS_of_wp (wp_skip ?_)
  cases c₀
  simp_all [bodyPostS,results,Tryz.results71]
theorem idle_of {c:Cx} {sig:FuncId→Option Sg} {f:FuncId} {ks:List Sk} (hfit:sgFit ks) (ent:EntP c.P f) (hsg:sig f=none) (h:∀ (F:Fence),(∀ f,F.fn f)→Fr0 F→∀ (a:Array Value),a.size=ks.length→∀ w,CallsDIn F 0 c.P f a .returning w fun e u' w'=>e=.returned (.tuple #[])∧u'=.returning∧w'=w):IdleS c sig f ks :=
 ⟨hfit,ent,hsg,fun C m hC F X A α w args hFf hFd hX hL hc hw ha hr hn hB u R hu hR=>by
   subst hu
   refine (h F hFf hFd args ha.1 w).mono ?_
   rintro e u' w' ⟨rfl,rfl,rfl⟩
   exact ⟨rfl,_,rfl,hR A α w' ⟨hw,fun _ _ _ _=>rfl,fun _ _ _=>rfl,fun _ _ _=>rfl,fun a h _=>absurd h (news_self m a)⟩ hr (stp_quiet hB hr.lt (news_self m) ⟨rfl,rfl,Nat.le_refl _,fun _ _=>rfl⟩)⟩⟩
theorem id65 (B:Nat):IdleS (cI B) DI.sig 65 [.one,.one,.one,.one]:=idle_of (c:=cI B) (fun k hk=>by simp at hk;subst hk;trivial) Tryz.call65 (by kernel_rfl) fun F hF hF0 a ha w=>idle65 hF hF0 a ha w
theorem id71 (B:Nat):IdleS (cI B) DI.sig 71 [.one,.one,.one]:=idle_of (c:=cI B) (fun k hk=>by simp at hk;subst hk;trivial) Tryz.call71 (by kernel_rfl) fun F hF hF0 a ha w=>idle71 hF hF0 a ha w
end Go.Proofs.YtceaohiahajolaaGreatDoor.VM
namespace Go.Proofs.YtceaohiahajolaaGreatDoor.VM
open Go Go.RowKit Go.Proofs
theorem kind_eq:∀ p:Fin 256,kindB p.val.toUInt8=kindN p.val:=by decide +kernel
theorem hand181 (B:Nat):HandS (cI B) DI.sig nsgI 181 ⟨[.one],.s .one⟩ 1 kindH:=by
 refine hand_kind (c:=cI B) Tryz.call181 (fun s h=>?_) fun p hp w=>?_
 · have:DI.sig 181=some ⟨[.one],.s .one⟩:=by kernel_rfl
   rw [this] at h;cases h;rfl
 · have hk:=YtceaohiahajolaaGreatDoor.kind_c p.toUInt8 w
   have e1:(p.toUInt8.toNat:Int)=(p:Int):=by
     simp only [Nat.toUInt8_eq,UInt8.toNat_ofNat'];omega
   rw [e1,kind_eq ⟨p,hp⟩] at hk
   refine hk.mono ?_
   rintro e w' ⟨rfl,hf⟩
   exact ⟨rfl,hf.os,hf.output,hf.size,fun b hb=>hf.block b hb (fun h=>h)⟩
end Go.Proofs.YtceaohiahajolaaGreatDoor.VM
namespace Go.Proofs.YtceaohiahajolaaGreatDoor.VM
open Go Go.RowKit Go.Proofs
theorem envA (B n:Nat):EnvOk (cI B) DI.sig nsgI (env prI n):=envI B (hand181 B) (id65 B) (id71 B) n
theorem works_c (F:Fence) (hF:∀ f,F.fn f) (hF0:Fr0 F) (w:World) (R:Ending→World→Prop) (hR:∀ w',Quiet w w'→R (.returned (.bool true)) w'):CallsIn F 0 Tryz.prog 10 #[] w R:=by
 have hs:DI.sig 10=some ⟨[],.s .one⟩:=by kernel_rfl
 have h8:=w8
 refine run_closed (lk:=lkOf (ldOf DI Tryz.prog LI)) (ns:=59) (st:=stT) (fun B=>envA B 100000) (by decide) hs h8 F hF hF0 w R fun u X A α w' hu q=>?_
 have hu:NR X A α 35 u:=hu
 rw [hu.true_inv]
 exact hR w' q
end Go.Proofs.YtceaohiahajolaaGreatDoor.VM
namespace Go.Proofs.YtceaohiahajolaaGreatDoor.VM
open Go Go.RowKit Go.Proofs
noncomputable section
theorem tab_put {c:Cx} {sig:FuncId→Option Sg} {nsg:Nat→Option (FuncId × Sg)} {T:Tr Fn} (hT:TabOk c sig nsg T) {f:FuncId} {s:Sg} {w:Nat} {h:Hf} (hf:f<1000) (hh:HandS c sig nsg f s w h) {e:Fn} (he:e=hFn h (128*ws s.ks) w (sgOf s.ks) (rkOf s.kr)):TabOk c sig nsg (tput dFn e 40 f T fun t=>t):=fun g=>by
 obtain ⟨t',e1,e2⟩:=tput_get dFn e 40 f T (fun t=>t) (Nat.lt_of_lt_of_le (Nat.succ_lt_succ hf) (by decide))
 rw [e1,e2 g]
 by_cases hg:g=f
 · subst hg
   rw [if_pos rfl,he]
   exact .inr (.inr (.inl ⟨s,w,h,rfl,hh⟩))
 · rw [if_neg hg]
   exact hT g
theorem bAnd_l {a b:Bool} (h:bAnd a b=true):a=true:=by rw [bAnd_eq,Bool.and_eq_true] at h;exact h.1
theorem bAnd_r {a b:Bool} (h:bAnd a b=true):b=true:=by rw [bAnd_eq,Bool.and_eq_true] at h;exact h.2
theorem pk {v:Env} {f ns:Nat} {st:Tr Nat} (hv:∀ B,EnvOk (cI B) DI.sig nsgI v) {ds:List Mo} (h:allB (moT1 v f ns st) ds=true):∀ d∈ds,∃ v1,(∀ B,EnvOk (cI B) DI.sig nsgI v1)∧moT1 v1 f ns st d=true:=fun d hd=>⟨v,hv,allB_iff h d hd⟩
theorem pa {p:Mo→Prop} {a b:List Mo} (h1:∀ d∈a,p d) (h2:∀ d∈b,p d):∀ d∈List.append a b,p d:=fun d hd=>(List.mem_append.1 hd).elim (h1 d) (h2 d)
theorem allB_app {α:Type} {p:α→Bool} {a b:List α} (h1:allB p a=true) (h2:allB p b=true):allB p (List.append a b)=true:=by
 induction a with
 | nil=>exact h2
 | cons x a ih =>
   have h1:bAnd (p x) (allB p a)=true:=h1
   show bAnd (p x) (allB p (List.append a b))=true
   rw [bAnd_eq,Bool.and_eq_true] at h1 ⊢
   exact ⟨h1.1,ih h1.2⟩
theorem tabA (B:Nat):TabOk (cI B) DI.sig nsgI TI:=tabI B (hand181 B) (id65 B) (id71 B)
theorem s3:DI.sig 3=some ⟨[],.s .one⟩:=by kernel_rfl
theorem s10:DI.sig 10=some ⟨[],.s .one⟩:=by kernel_rfl
theorem hand10 (B:Nat):HandS (cI B) DI.sig nsgI 10 ⟨[],.s .one⟩ 1 (memH 35):=hand_true Tryz.call10 s10 works_c
theorem tabM (B:Nat):TabOk (cI B) DI.sig nsgI TM:=tab_put (tabA B) (by decide) (hand10 B) rfl
theorem envM (B n:Nat):EnvOk (cI B) DI.sig nsgI (env prM n):=env_ok (c:=cI B) (p:=prM) rfl (ltabI B) (tabM B) (natOkI B) rfl n
theorem s11:DI.sig 11=some ⟨[.one],.tup [.agg 4,.one]⟩:=by kernel_rfl
theorem hand11 (B:Nat):HandS (cI B) DI.sig nsgI 11 ⟨[.one],.tup [.agg 4,.one]⟩ 5 (pgH (dirH (env prM 100000) 11 (128*255) (2 ^ (128*5)))):=hand_page (hand_dir (n:=255) (envM B 100000) Tryz.call11 s11 (sgFitB_ok rfl) (rkFitB_ok rfl))
theorem s12:DI.sig 12=some ⟨[.agg 4],.s .one⟩:=by kernel_rfl
theorem hand12 (B:Nat):HandS (cI B) DI.sig nsgI 12 ⟨[.agg 4],.s .one⟩ 1 (dirH (env prM 100000) 12 (128*255) (2 ^ (128*1))):=hand_dir (n:=255) (envM B 100000) Tryz.call12 s12 (sgFitB_ok rfl) (rkFitB_ok rfl)
theorem s13:DI.sig 13=some ⟨[.one,.one,.one],.tup [.one,.one]⟩:=by kernel_rfl
theorem hand13 (B:Nat):HandS (cI B) DI.sig nsgI 13 ⟨[.one,.one,.one],.tup [.one,.one]⟩ 2 (dirH (env prM 100000) 13 (128*255) (2 ^ (128*2))):=hand_dir (n:=255) (envM B 100000) Tryz.call13 s13 (sgFitB_ok rfl) (rkFitB_ok rfl)
theorem s14:DI.sig 14=some ⟨[.agg 4,.one,.one],.tup [.one,.one]⟩:=by kernel_rfl
theorem hand14 (B:Nat):HandS (cI B) DI.sig nsgI 14 ⟨[.agg 4,.one,.one],.tup [.one,.one]⟩ 2 (dirH (env prM 100000) 14 (128*255) (2 ^ (128*2))):=hand_dir (n:=255) (envM B 100000) Tryz.call14 s14 (sgFitB_ok rfl) (rkFitB_ok rfl)
theorem tabD0 (B:Nat):TabOk (cI B) DI.sig nsgI TD0:=tab_put (tab_put (tab_put (tab_put (tabM B) (by decide) (hand11 B) rfl) (by decide) (hand12 B) rfl) (by decide) (hand13 B) rfl) (by decide) (hand14 B) rfl
theorem envD0 (B n:Nat):EnvOk (cI B) DI.sig nsgI (env prD0 n):=env_ok (c:=cI B) (p:=prD0) rfl (ltabI B) (tabD0 B) (natOkI B) rfl n
theorem s8:DI.sig 8=some ⟨[.one],.tup [.agg 2,.one]⟩:=by kernel_rfl
set_option maxRecDepth 100000 in
theorem hand8 (B:Nat):HandS (cI B) DI.sig nsgI 8 ⟨[.one],.tup [.agg 2,.one]⟩ 3 (memF (dirH (env prM 100000) 8 (128*255) (2 ^ (128*3))) E8):=hand_memof (hand_dir (n:=255) (envM B 100000) Tryz.call8 s8 (sgFitB_ok rfl) (rkFitB_ok rfl)) s8 (lk:=lkOf (ldOf DI Tryz.prog LI)) (ns:=59) (st:=stT) (by decide) (fun B=>envM B 100000) (hd_tup (ks:=[.agg 2,.one]) (W:=3) rfl (by decide) (by kernel_rfl)) wi8_0
theorem s58:DI.sig 58=some ⟨[.one,.one,.one,.one],.s .one⟩:=by kernel_rfl
set_option maxRecDepth 100000 in
theorem hand58 (B:Nat):HandS (cI B) DI.sig nsgI 58 ⟨[.one,.one,.one,.one],.s .one⟩ 1 (memF (dirH (env prM 100000) 58 (128*255) (2 ^ (128*1))) E58):=hand_memof (hand_dir (n:=255) (envM B 100000) Tryz.call58 s58 (sgFitB_ok rfl) (rkFitB_ok rfl)) s58 (lk:=lkOf (ldOf DI Tryz.prog LI)) (ns:=59) (st:=stT) (by decide) (fun B=>envM B 100000) (hd_one rfl (by kernel_rfl)) (allB_app wi58_0 (allB_app wi58_1 (allB_app wi58_2 (allB_app wi58_3 (allB_app wi58_4 (allB_app wi58_5 (allB_app wi58_6 (allB_app wi58_7 (allB_app wi58_8 (allB_app wi58_9 (allB_app wi58_10 (allB_app wi58_11 (allB_app wi58_12 wi58_13)))))))))))))
theorem tabE (B:Nat):TabOk (cI B) DI.sig nsgI TE:=tab_put (tab_put (tabD0 B) (by decide) (hand8 B) rfl) (by decide) (hand58 B) rfl
theorem envE (B n:Nat):EnvOk (cI B) DI.sig nsgI (env prE n):=env_ok (c:=cI B) (p:=prE) rfl (ltabI B) (tabE B) (natOkI B) rfl n
theorem s4:DI.sig 4=some ⟨[.one,.one,.one],.s .one⟩:=by kernel_rfl
set_option maxRecDepth 100000 in
theorem m4:∀ g∈gs4,allB (moC 3) g.ds=true∧∀ d∈g.ds,∃ v1,(∀ B,EnvOk (cI B) DI.sig nsgI v1)∧moT1 v1 4 59 stT d=true:=cc ⟨by kernel_rfl,(pk (fun B=>envD0 B 100000) (bAnd_l w0_0))⟩ ( cc ⟨by kernel_rfl,(pk (fun B=>envD0 B 100000) (bAnd_l w1_0))⟩ ( cc ⟨by kernel_rfl,(pk (fun B=>envD0 B 100000) (bAnd_l w2_0))⟩ ( cc ⟨by kernel_rfl,(pa (pk (fun B=>envD0 B 100000) w3_0) (pk (fun B=>envD0 B 100000) w3_1))⟩ ( cc ⟨by kernel_rfl,(pa (pk (fun B=>envE B 100000) w4_0) (pa (pk (fun B=>envD0 B 100000) w4_1) (pa (pk (fun B=>envE B 100000) w4_2) (pk (fun B=>envD0 B 100000) w4_3))))⟩ ( cc ⟨by kernel_rfl,(pk (fun B=>envD0 B 100000) (bAnd_l w5_0))⟩ ( cc ⟨by kernel_rfl,(pk (fun B=>envD0 B 100000) (bAnd_l w6_0))⟩ ( cc ⟨by kernel_rfl,(pa (pk (fun B=>envD0 B 100000) w7_0) (pk (fun B=>envD0 B 100000) (bAnd_l w7_1)))⟩ ( cc ⟨by kernel_rfl,(pa (pk (fun B=>envD0 B 100000) w8_0) (pa (pk (fun B=>envD0 B 100000) w8_1) (pa (pk (fun B=>envD0 B 100000) w8_2) (pk (fun B=>envD0 B 100000) (bAnd_l w8_3)))))⟩ ( cc ⟨by kernel_rfl,(pa (pk (fun B=>envD0 B 100000) w9_0) (pk (fun B=>envD0 B 100000) w9_1))⟩ ( cc ⟨by kernel_rfl,(pa (pk (fun B=>envD0 B 100000) w10_0) (pk (fun B=>envD0 B 100000) w10_1))⟩ ( fun _ h=>by cases h)))))))))))
theorem hand4 (B:Nat):HandS (cI B) DI.sig nsgI 4 ⟨[.one,.one,.one],.s .one⟩ 1 (memG gs4):=hand_memo2 (c:=cI B) Tryz.call4 s4 (sgFitB_ok rfl) rfl (lk:=lkOf (ldOf DI Tryz.prog LI)) (ns:=59) (st:=stT) (by decide) m4
theorem s5:DI.sig 5=some ⟨[.one,.one],.s .one⟩:=by kernel_rfl
set_option maxRecDepth 100000 in
theorem m5:∀ g∈gs5,allB (moC 2) g.ds=true∧∀ d∈g.ds,∃ v1,(∀ B,EnvOk (cI B) DI.sig nsgI v1)∧moT1 v1 5 59 stT d=true:=cc ⟨by kernel_rfl,(pk (fun B=>envD0 B 100000) (bAnd_l (bAnd_r w0_0)))⟩ ( cc ⟨by kernel_rfl,(pa (pk (fun B=>envD0 B 100000) (bAnd_r w1_0)) (pk (fun B=>envD0 B 100000) (bAnd_l w1_1)))⟩ ( cc ⟨by kernel_rfl,(pk (fun B=>envD0 B 100000) (bAnd_r w2_0))⟩ ( cc ⟨by kernel_rfl,(pa (pk (fun B=>envD0 B 100000) w3_2) (pk (fun B=>envD0 B 100000) (bAnd_l w3_3)))⟩ ( cc ⟨by kernel_rfl,(pa (pk (fun B=>envE B 100000) w4_4) (pk (fun B=>envE B 100000) w4_5))⟩ ( cc ⟨by kernel_rfl,(pa (pk (fun B=>envD0 B 100000) (bAnd_r w5_0)) (pk (fun B=>envD0 B 100000) (bAnd_l w5_1)))⟩ ( cc ⟨by kernel_rfl,(pk (fun B=>envD0 B 100000) (bAnd_l (bAnd_r w6_0)))⟩ ( cc ⟨by kernel_rfl,(pk (fun B=>envD0 B 100000) (bAnd_l (bAnd_r w7_1)))⟩ ( cc ⟨by kernel_rfl,(pa (pk (fun B=>envD0 B 100000) (bAnd_r w8_3)) (pk (fun B=>envD0 B 100000) w8_4))⟩ ( cc ⟨by kernel_rfl,(pa (pk (fun B=>envE B 100000) w9_2) (pk (fun B=>envE B 100000) w9_3))⟩ ( cc ⟨by kernel_rfl,(pa (pk (fun B=>envD0 B 100000) w10_2) (pk (fun B=>envE B 100000) w10_3))⟩ ( fun _ h=>by cases h)))))))))))
theorem hand5 (B:Nat):HandS (cI B) DI.sig nsgI 5 ⟨[.one,.one],.s .one⟩ 1 (memG gs5):=hand_memo2 (c:=cI B) Tryz.call5 s5 (sgFitB_ok rfl) rfl (lk:=lkOf (ldOf DI Tryz.prog LI)) (ns:=59) (st:=stT) (by decide) m5
theorem s6:DI.sig 6=some ⟨[.one,.one,.one,.one],.s .one⟩:=by kernel_rfl
set_option maxRecDepth 100000 in
theorem m6:∀ g∈gs6,allB (moC 4) g.ds=true∧∀ d∈g.ds,∃ v1,(∀ B,EnvOk (cI B) DI.sig nsgI v1)∧moT1 v1 6 59 stT d=true:=cc ⟨by kernel_rfl,(pk (fun B=>envD0 B 100000) (bAnd_l (bAnd_r (bAnd_r w0_0))))⟩ ( cc ⟨by kernel_rfl,(pk (fun B=>envD0 B 100000) (bAnd_l (bAnd_r w1_1)))⟩ ( cc ⟨by kernel_rfl,(pk (fun B=>envD0 B 100000) (bAnd_l w2_1))⟩ ( cc ⟨by kernel_rfl,(pa (pk (fun B=>envD0 B 100000) (bAnd_r w3_3)) (pk (fun B=>envD0 B 100000) w3_4))⟩ ( cc ⟨by kernel_rfl,(pa (pk (fun B=>envD0 B 100000) w4_6) (pa (pk (fun B=>envE B 100000) w4_7) (pa (pk (fun B=>envD0 B 100000) w4_8) (pk (fun B=>envE B 100000) w4_9))))⟩ ( cc ⟨by kernel_rfl,(pk (fun B=>envD0 B 100000) (bAnd_l (bAnd_r w5_1)))⟩ ( cc ⟨by kernel_rfl,(pa (pk (fun B=>envD0 B 100000) (bAnd_r (bAnd_r w6_0))) (pk (fun B=>envD0 B 100000) (bAnd_l w6_1)))⟩ ( cc ⟨by kernel_rfl,(pa (pk (fun B=>envD0 B 100000) (bAnd_r (bAnd_r w7_1))) (pk (fun B=>envD0 B 100000) (bAnd_l w7_2)))⟩ ( cc ⟨by kernel_rfl,(pa (pk (fun B=>envD0 B 100000) w8_5) (pa (pk (fun B=>envD0 B 100000) w8_6) (pa (pk (fun B=>envD0 B 100000) w8_7) (pk (fun B=>envD0 B 100000) w8_8))))⟩ ( cc ⟨by kernel_rfl,(pa (pk (fun B=>envD0 B 100000) w9_4) (pk (fun B=>envD0 B 100000) (bAnd_l w9_5)))⟩ ( cc ⟨by kernel_rfl,(pa (pk (fun B=>envD0 B 100000) w10_4) (pa (pk (fun B=>envD0 B 100000) w10_5) (pk (fun B=>envD0 B 100000) w10_6)))⟩ ( fun _ h=>by cases h)))))))))))
theorem hand6 (B:Nat):HandS (cI B) DI.sig nsgI 6 ⟨[.one,.one,.one,.one],.s .one⟩ 1 (memG gs6):=hand_memo2 (c:=cI B) Tryz.call6 s6 (sgFitB_ok rfl) rfl (lk:=lkOf (ldOf DI Tryz.prog LI)) (ns:=59) (st:=stT) (by decide) m6
theorem s7:DI.sig 7=some ⟨[.one,.one,.one,.one],.s .one⟩:=by kernel_rfl
set_option maxRecDepth 100000 in
theorem m7:∀ g∈gs7,allB (moC 4) g.ds=true∧∀ d∈g.ds,∃ v1,(∀ B,EnvOk (cI B) DI.sig nsgI v1)∧moT1 v1 7 59 stT d=true:=cc ⟨by kernel_rfl,(pk (fun B=>envD0 B 100000) (bAnd_r (bAnd_r (bAnd_r w0_0))))⟩ ( cc ⟨by kernel_rfl,(pk (fun B=>envD0 B 100000) (bAnd_r (bAnd_r w1_1)))⟩ ( cc ⟨by kernel_rfl,(pk (fun B=>envD0 B 100000) (bAnd_r w2_1))⟩ ( cc ⟨by kernel_rfl,(pk (fun B=>envD0 B 100000) w3_5)⟩ ( cc ⟨by kernel_rfl,(pk (fun B=>envD0 B 100000) w4_10)⟩ ( cc ⟨by kernel_rfl,(pk (fun B=>envD0 B 100000) (bAnd_r (bAnd_r w5_1)))⟩ ( cc ⟨by kernel_rfl,(pk (fun B=>envD0 B 100000) (bAnd_r w6_1))⟩ ( cc ⟨by kernel_rfl,(pk (fun B=>envD0 B 100000) (bAnd_r w7_2))⟩ ( cc ⟨by kernel_rfl,(pk (fun B=>envD0 B 100000) w8_9)⟩ ( cc ⟨by kernel_rfl,(pk (fun B=>envD0 B 100000) (bAnd_r w9_5))⟩ ( cc ⟨by kernel_rfl,(pk (fun B=>envD0 B 100000) w10_7)⟩ ( fun _ h=>by cases h)))))))))))
theorem hand7 (B:Nat):HandS (cI B) DI.sig nsgI 7 ⟨[.one,.one,.one,.one],.s .one⟩ 1 (memG gs7):=hand_memo2 (c:=cI B) Tryz.call7 s7 (sgFitB_ok rfl) rfl (lk:=lkOf (ldOf DI Tryz.prog LI)) (ns:=59) (st:=stT) (by decide) m7
theorem tabF (B:Nat):TabOk (cI B) DI.sig nsgI TK:=tab_put (tab_put (tab_put (tab_put (tabD0 B) (by decide) (hand4 B) rfl) (by decide) (hand5 B) rfl) (by decide) (hand6 B) rfl) (by decide) (hand7 B) rfl
theorem envF (B n:Nat):EnvOk (cI B) DI.sig nsgI (env prK n):=env_ok (c:=cI B) (p:=prK) rfl (ltabI B) (tabF B) (natOkI B) rfl n
theorem known_c (w:World):Calls Tryz.prog 3 #[] w fun e w'=>e=.returned (.bool true)∧Quiet w w':=by
 have h:CallsIn Fence.wide 0 Tryz.prog 3 #[] w fun e w'=>e=.returned (.bool true)∧Quiet w w':=by
   refine run_closed (lk:=lkOf (ldOf DI Tryz.prog LI)) (ns:=59) (st:=stT) (fun B=>envF B 100000) (by decide) s3 rK Fence.wide (fun _=>trivial) ⟨rfl,rfl⟩ w _ fun u X A α w' hu q=>?_
   have hu:NR X A α 35 u:=hu
   rw [hu.true_inv]
   exact ⟨rfl,q⟩
 exact callsIn_wide.1 h
end
end Go.Proofs.YtceaohiahajolaaGreatDoor.VM
