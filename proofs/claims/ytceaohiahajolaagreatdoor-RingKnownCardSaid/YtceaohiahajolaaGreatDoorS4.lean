/-
  The machine against the model, part 4. No conditions.
-/
import Derived.Test.YtceaohiahajolaaGreatDoorS3
import Derived.Recover
import Derived.Defers
import Derived.Test.YtceaohiahajolaaGreatDoorA
set_option linter.all false
set_option linter.unusedVariables false
set_option linter.unusedSimpArgs false
namespace Go.Proofs.YtceaohiahajolaaGreatDoor.VM
open Go Go.RowKit Go.Proofs
noncomputable section
theorem callsDIn_of_wpS {P : Program} {F : Fence} (hF : ∀ f, F.fn f) (hF0 : Fr0 F) {f : FuncId} {fn : Func} {c : Code} {args : Array Value} {u : FrameMode} {w : World} {R : Ending → FrameMode → World → Prop}
    (hf:P.funcs[f]?=some fn) (hb:fn.body=some c)
    (h:∀ (c₀:Frame) (cs:List Frame),c₀.mode=u →
      c.wpS P (bodyPostS P fn c₀ cs R) { tmps:=args++Array.replicate (fn.ntmps - args.size) undef,defers:=[] } (c₀ :: cs) w) :
    CallsDIn F 0 P f args u w R:=by
  have key:CallsDIn Fence.wide 0 P f args u w R:=by
    refine ⟨trivial,fun c₀ cs hu _=>?_⟩
    let b:Frame:={ (default:Frame) with fn:=f,kind:=.deferred }
    have henter : Frame.enter P f args .deferred =
        b.at { tmps:=args++Array.replicate (fn.ntmps - args.size) undef,defers:=[] } [.code c]:=by
      simp [Frame.enter,Frame.at,hf,hb,b]
    obtain ⟨e,a',cs',w',hq,harr⟩:=h c₀ cs hu b [] rfl rfl
    rw [← henter] at harr
    cases e with
    | normal =>
      obtain ⟨hd,u',rfl,v,hr,hR⟩:=hq
      exact ⟨.returned v,u',w',_,hR,comesIn_wide.2 (Steps.trans harr (.one step_end)),rfl,rfl,rfl,hd,fn,hf,hr⟩
    | ret =>
      obtain ⟨hd,u',rfl,v,hr,hR⟩:=hq
      obtain ⟨todo,hs⟩:=harr
      exact ⟨.returned v,u',w',_,hR,comesIn_wide.2 hs,rfl,rfl,rfl,hd,fn,hf,hr⟩
    | panic chain =>
      obtain ⟨hd,u',rfl,hR⟩:=hq
      obtain ⟨todo,hs⟩:=harr
      exact ⟨.panicked chain,u',w',_,hR,comesIn_wide.2 hs,rfl,rfl,rfl,hd,fn,hf⟩
    | exit id=>exact hq.elim
    | goto l=>exact hq.elim
    | outgrown =>
      obtain ⟨u',hR⟩:=hq
      exact ⟨.outgrown,u',w',b,hR,comesIn_wide.2 (harr.resolve_left (by simp [b])),rfl,rfl,trivial⟩
  rw [← fence_wide hF hF0] at key
  cases F
  exact key
end
end Go.Proofs.YtceaohiahajolaaGreatDoor.VM
namespace Go.Proofs.YtceaohiahajolaaGreatDoor.VM
open Go Go.RowKit Go.Proofs
noncomputable section
variable {c:Cx} {sig:FuncId→Option Sg} {nsg:Nat→Option (FuncId × Sg)}
theorem hand_kind {f:FuncId} (ent:EntP c.P f) (hs:∀ s,sig f=some s→s=⟨[.one],.s .one⟩) (h:∀ p:Nat,p<256→∀ w,Calls c.P f #[.int .u8 (p:Int)] w fun e w'=>e=.returned (.int .u8 (kindN p:Nat))∧Quiet w w'):HandS c sig nsg f ⟨[.one],.s .one⟩ 1 kindH:=by
 refine ⟨fun k hk=>by simp at hk;subst hk;trivial,trivial,ent,hs,fun v n C m _ _ hok=>?_⟩
 obtain ⟨h1,_,e1⟩:=ok_if (r:=natK (mkI 25 (kindN (pay C))) (kN hEnd m)) hok
 have h1:=beq_iff.1 h1
 have hk:∀ p,kindN p<4:=fun p=>by
   unfold kindN bIf
   cases (bAnd (Nat.ble 97 p) (Nat.ble p 122)) with
   | true=>show (1:Nat)<4;decide
   | false =>
     cases (bAnd (Nat.ble 48 p) (Nat.ble p 57)) with
     | true=>show (2:Nat)<4;decide
     | false =>
       generalize (bOr (Nat.beq p 123) _)=b
       cases b with
       | true=>show (3:Nat)<4;decide
       | false=>show (0:Nat)<4;decide
 refine ⟨mkI 25 (kindN (pay C)),m,Eq.trans e1 (natK_eq _ _),?_,⟨GLe.refl _,Nat.le_refl _,XtLe.refl _⟩,?_⟩
 · have:=hk (pay C)
   rw [mkI_eq];omega
 intro F X A α w args hFf hFd hX hL hc hw ha hr hn hB R hR
 have ha0:NR X A α C (args.getD 0 undef):=by
   have:=ha.2 0 .one rfl
   have hC:fld C 0 128=C:=fld_all (by assumption)
   rw [← hC];exact this
 obtain ⟨p,hp,b1,b2⟩:=ha0.int_inv (k:=.u8) h1
 have hp:p<256:=hp
 have hval:val .u8 p=(p:Int):=by unfold val;rw [if_neg (fun h=>by have:=h.1;cases this)]
 have hpay:pay C=p:=by
   rw [b1,mkI_eq,pay_eq]
   have:kt .u8=25:=rfl
   rw [this];omega
 have hargs:args=#[.int .u8 (p:Int)]:=by
   have hsz:args.size=1:=ha.1
   rw [← hval,← b2]
   apply Array.ext (by rw [hsz];rfl)
   intro i h1' h2'
   have:i=0:=by omega
   subst this
   simp [Array.getD,hsz]
 subst hargs
 refine (callsIn_fr0 hFf hFd (h p hp w)).mono ?_
 rintro e w' ⟨rfl,q⟩
 refine hR _ A α w' ⟨hw,fun _ _ _ _=>rfl,fun _ _ _=>rfl,fun _ _ _=>rfl,fun a h _=>absurd h (news_self m a)⟩ ?_ (hr.quiet q) (stp_quiet hB hr.lt (news_self m) q)
 rw [hpay]
 have hi:=NR.int (X:=X) (A:=A) (α:=α) (k:=.u8) (p:=kindN p) (Nat.lt_of_lt_of_le (hk p) (by decide))
 have ev:val .u8 (kindN p)=(kindN p:Int):=by unfold val;rw [if_neg (fun h=>by have:=h.1;cases this)]
 rw [ev] at hi
 exact hi
end
end Go.Proofs.YtceaohiahajolaaGreatDoor.VM
namespace Go.Proofs.YtceaohiahajolaaGreatDoor.VM
open Go Go.RowKit
noncomputable section
theorem allB_cons {α:Type} (p:α→Bool) (x:α) (l:List α):allB p (x :: l)=bAnd (p x) (allB p l):=rfl
theorem anyB_cons {α:Type} (p:α→Bool) (x:α) (l:List α):anyB p (x :: l)=bOr (p x) (anyB p l):=rfl
theorem allB_iff {α:Type} {p:α→Bool}:∀ {l:List α},allB p l=true→∀ x∈l,p x=true
 | [],_=>fun x h=>by cases h
 | y :: l,h=>fun x hx=>by
   rw [allB_cons,bAnd_eq,Bool.and_eq_true] at h
   rcases List.mem_cons.1 hx with rfl | hx
   · exact h.1
   · exact allB_iff h.2 x hx
theorem anyB_iff {α:Type} {p:α→Bool}:∀ {l:List α},anyB p l=true→∃ x∈l,p x=true
 | [],h=>by cases h
 | y :: l,h=>by
   rw [anyB_cons,bOr_eq,Bool.or_eq_true] at h
   rcases h with h | h
   · exact ⟨y,List.mem_cons_self ..,h⟩
   · obtain ⟨x,h1,h2⟩:=anyB_iff h
     exact ⟨x,List.mem_cons_of_mem _ h1,h2⟩
theorem rdm1 (m:M) (a:Nat):rd m a 1=memC m a:=rfl
theorem cellB_cons (L:List Rg) (m:M) (c:Nat) (cs:List Nat) (a:Nat):cellB L m (c :: cs) a=bAnd (bOr (Nat.beq c 0) (bAnd (Nat.ble 1 (phN L a)) (Nat.beq (rd m (phN L a) 1) (rnC L c)))) (cellB L m cs (a+1)):=rfl
theorem cellB_ok {L:List Rg} {m:M}:∀ {cs:List Nat} {a:Nat},cellB L m cs a=true→∀ i c,cs[i]?=some c→c=0∨(1≤phN L (a+i)∧memC m (phN L (a+i))=rnC L c)
 | [],_,_=>fun i c h=>by simp at h
 | x :: cs,a,h=>fun i c hc=>by
   rw [cellB_cons,bAnd_eq,Bool.and_eq_true] at h
   cases i with
   | zero =>
     obtain rfl:x=c:=by simpa using hc
     have h:=h.1
     rw [bOr_eq,Bool.or_eq_true,bAnd_eq,Bool.and_eq_true,beq_iff,beq_iff,ble_iff,rdm1] at h
     exact h
   | succ i =>
     have:=cellB_ok h.2 i c (by simpa using hc)
     rw [show a+1+i=a+(i+1) by omega] at this
     exact this
theorem argB_cons (L:List Rg) (C c:Nat) (cs:List Nat) (j:Nat):argB L C (c :: cs) j=bAnd (Nat.beq (fld C j 128) (rnC L c)) (argB L C cs (j+128)):=rfl
theorem argB_ok {L:List Rg} {C:Nat}:∀ {cs:List Nat} {j:Nat},argB L C cs j=true→∀ i c,cs[i]?=some c→fld C (j+128*i) 128=rnC L c
 | [],_,_=>fun i c h=>by simp at h
 | x :: cs,j,h=>fun i c hc=>by
   rw [argB_cons,bAnd_eq,Bool.and_eq_true] at h
   cases i with
   | zero =>
     obtain rfl:x=c:=by simpa using hc
     exact beq_iff.1 h.1
   | succ i =>
     have:=argB_ok h.2 i c (by simpa using hc)
     rw [show j+128+128*i=j+128*(i+1) by omega] at this
     exact this
theorem moL_ex {C:Nat} {m:M} {k:List Rg→Bool}:∀ {hi:List Rg} {L0:List Rg},moL C m hi k L0=true→∃ L,k L=true
 | [],L0,h=>⟨L0,h⟩
 | e :: hi,L0,h=>by
   have e1:moL C m (e :: hi) k L0=natK (slA (cnd (Nat.ble e.q 63) (fld C (Nat.shiftLeft e.q 7) 128) (rd m (phN L0 (Nat.sub e.q 64)) 1))) (moA e L0 (moL C m hi k)):=rfl
   rw [e1,natK_eq] at h
   exact moL_ex (hi:=hi) h
structure RgOk (e:Rg):Prop where
 p:1≤e.p
 n:1≤e.n
 pn:e.p+e.n≤1048576
 q:1≤e.q % 1048576
 qn:e.q % 1048576+e.n≤1048576
 qb:e.q+e.n≤mB
theorem rgB_ok {e:Rg} (h:rgB e=true):RgOk e:=by
 unfold rgB at h
 simp only [bAnd_eq,Bool.and_eq_true,ble_iff] at h
 exact ⟨h.1,h.2.1,h.2.2.1,h.2.2.2.1,h.2.2.2.2.1,h.2.2.2.2.2⟩
theorem apB_cons (e:Rg) (L:List Rg):apB (e :: L)=bAnd (rgB e) (bAnd (allB (fun d=>bAnd (Nat.ble (Nat.add e.p e.n) d.p) (bOr (Nat.ble (Nat.add e.q e.n) d.q) (Nat.ble (Nat.add d.q d.n) e.q))) L) (apB L)):=rfl
theorem apB_ok {e:Rg} {L:List Rg} (h:apB (e :: L)=true):RgOk e∧(∀ d∈L,e.p+e.n≤d.p∧(e.q+e.n≤d.q∨d.q+d.n≤e.q))∧apB L=true:=by
 rw [apB_cons,bAnd_eq,Bool.and_eq_true,bAnd_eq,Bool.and_eq_true] at h
 refine ⟨rgB_ok h.1,fun d hd=>?_,h.2.2⟩
 have:=allB_iff h.2.1 d hd
 simp only [bAnd_eq,bOr_eq,Bool.and_eq_true,Bool.or_eq_true,ble_iff] at this
 exact this
theorem apB_mem:∀ {L:List Rg},apB L=true→∀ e∈L,RgOk e
 | [],_=>fun e h=>by cases h
 | d :: L,h=>fun e he=>by
   obtain ⟨h1,h2,h3⟩:=apB_ok h
   rcases List.mem_cons.1 he with rfl | he
   · exact h1
   · exact apB_mem h3 e he
theorem phN_cons (e:Rg) (L:List Rg) (a:Nat):phN (e :: L) a=if e.p≤a∧a<e.p+e.n then e.q+(a - e.p) else phN L a:=by
 have e1:phN (e :: L) a=cnd (bAnd (Nat.ble e.p a) (Nat.ble (Nat.succ a) (Nat.add e.p e.n))) (Nat.add e.q (Nat.sub a e.p)) (phN L a):=rfl
 rw [e1]
 by_cases h:e.p≤a∧a<e.p+e.n
 · have hb : bAnd (Nat.ble e.p a) (Nat.ble (Nat.succ a) (Nat.add e.p e.n)) = true := by
     rw [bAnd_eq,Bool.and_eq_true,ble_iff,ble_iff];exact ⟨h.1,h.2⟩
   rw [if_pos h,hb];rfl
 · have hb : bAnd (Nat.ble e.p a) (Nat.ble (Nat.succ a) (Nat.add e.p e.n)) = false := by
     rw [Bool.eq_false_iff]
     intro hb
     rw [bAnd_eq,Bool.and_eq_true,ble_iff,ble_iff] at hb
     exact h ⟨hb.1,hb.2⟩
   rw [if_neg h,hb];rfl
theorem phN_some:∀ {L:List Rg} {a:Nat},phN L a≠0→∃ e∈L,e.p≤a∧a<e.p+e.n∧phN L a=e.q+(a - e.p)
 | [],a,h=>absurd rfl h
 | e :: L,a,h=>by
   rw [phN_cons] at h ⊢
   split
   · rename_i hc
     exact ⟨e,List.mem_cons_self ..,hc.1,hc.2,rfl⟩
   · rename_i hc
     rw [if_neg hc] at h
     obtain ⟨d,h1,h2,h3,h4⟩:=phN_some h
     exact ⟨d,List.mem_cons_of_mem _ h1,h2,h3,h4⟩
theorem phN_at:∀ {L:List Rg},apB L=true→∀ e∈L,∀ j,j<e.n→phN L (e.p+j)=e.q+j
 | [],_=>fun e h=>by cases h
 | d :: L,h=>fun e he j hj=>by
   obtain ⟨h1,h2,h3⟩:=apB_ok h
   rw [phN_cons]
   rcases List.mem_cons.1 he with rfl | he
   · rw [if_pos (by omega)];omega
   · have:=(h2 e he).1
     rw [if_neg (by omega)]
     exact phN_at h3 e he j hj
theorem rg_two:∀ {L:List Rg},apB L=true→∀ e∈L,∀ d∈L,e=d∨e.q+e.n≤d.q∨d.q+d.n≤e.q
 | [],_=>fun e h=>by cases h
 | x :: L,h=>fun e he d hd=>by
   obtain ⟨h1,h2,h3⟩:=apB_ok h
   rcases List.mem_cons.1 he with rfl | he
   · rcases List.mem_cons.1 hd with rfl | hd
     · exact .inl rfl
     · exact .inr (h2 d hd).2
   · rcases List.mem_cons.1 hd with rfl | hd
     · exact .inr ((h2 e (by assumption)).2.symm)
     · exact rg_two h3 e he d hd
theorem phN_inj {L:List Rg} (hL:apB L=true) {a a':Nat} (h:phN L a≠0) (e:phN L a=phN L a'):a=a':=by
 obtain ⟨x,h1,h2,h3,h4⟩:=phN_some h
 obtain ⟨y,k1,k2,k3,k4⟩:=phN_some (L:=L) (a:=a') (by rw [← e];exact h)
 rcases rg_two hL x h1 y k1 with rfl | h5
 · omega
 · omega
theorem phN_lt {L:List Rg} (hL:apB L=true) {a:Nat} (h:phN L a≠0):1≤a∧a<1048576∧phN L a<mB∧0<phN L a % 1048576:=by
 obtain ⟨x,h1,h2,h3,h4⟩:=phN_some h
 have ho:=apB_mem hL x h1
 have:=ho.p;have:=ho.pn;have:=ho.q;have:=ho.qn;have:=ho.qb
 omega
def aP (L:List Rg) (α:Al):Al:=fun a=>if phN L a=0 then none else α (phN L a)
def AP (L:List Rg) (a:Nat):Prop:=phN L a≠0
theorem aP_some {L:List Rg} {α:Al} {a:Nat} {z:Nat × Nat × Nat} (h:aP L α a=some z):phN L a≠0∧α (phN L a)=some z:=by
 unfold aP at h
 split at h
 · cases h
 · rename_i h0;exact ⟨h0,h⟩
theorem slK_pay (c:Nat):pay c=c / 32:=pay_eq c
theorem nr_rn {X X1:Xs} {A:Nat→Prop} {α:Al} {L:List Rg} (hL:apB L=true) {c:Nat} {v:Value} (hc:codeB L c=true) (h:NR X A α (rnC L c) v):NR X1 (AP L) (aP L α) c v:=by
 unfold codeB at hc
 simp only [bOr_eq,bAnd_eq,Bool.or_eq_true,Bool.and_eq_true,beq_iff] at hc
 have hn:tag c≠7→rnC L c=c:=fun h7=>by
   unfold rnC
   have:Nat.beq (tag c) 7=false:=by
     rw [Bool.eq_false_iff];intro hb;exact h7 (beq_iff.1 hb)
   rw [this];rfl
 rcases hc with rfl | (h25 | h31) | (h23 | h3 | rfl) | ⟨h7,he,hg⟩
 · exact .junk v
 · rw [hn (by omega)] at h
   obtain ⟨p,hp,e1,e2⟩:=h.int_inv (k:=.u8) h25
   rw [e1,e2];exact .int hp
 · rw [hn (by omega)] at h
   obtain ⟨p,hp,e1,e2⟩:=h.int_inv (k:=.u64) h31
   rw [e1,e2];exact .int hp
 · rw [hn (by omega)] at h
   obtain ⟨p,hp,e1,e2⟩:=h.int_inv (k:=.i64) h23
   rw [e1,e2];exact .int hp
 · rw [hn (by omega)] at h
   obtain ⟨p,e1,e2⟩:=h.bool_inv h3
   rw [e1,e2];exact .bool p
 · rw [hn (by decide)] at h
   rw [h.nilS_inv rfl];exact .nilS
 · obtain ⟨e,hm,hg⟩:=anyB_iff hg
   simp only [bAnd_eq,Bool.and_eq_true,beq_iff] at hg
   obtain ⟨g1,g2⟩:=hg
   have g2:e.n=slCap c*(pay c % 256):=g2
   have ho:=apB_mem hL e hm
   have hph:phN L (slA c)=e.q:=by
     have:=phN_at hL e hm 0 ho.n
     rw [Nat.add_zero,Nat.add_zero,g1] at this
     exact this
   have hrn:rnC L c=mkSl (pay c % 256) (slEx c) e.q (slLen c) (slCap c):=by
     unfold rnC
     rw [beq_iff.2 h7]
     show mkSl _ _ (phN L (slA c)) _ _=_
     rw [hph];rfl
   rw [hrn] at h
   have hk:pay c % 256<256:=Nat.mod_lt _ (by decide)
   have hex:slEx c<2:=Nat.mod_lt _ (by decide)
   have hln:slLen c<2 ^ 24:=Nat.mod_lt _ (by decide)
   have hqb:=ho.qb
   have hmB:mB=140737488355328:=rfl
   have hq:e.q<2 ^ 48:=by omega
   have ht:tag (mkSl (pay c % 256) (slEx c) e.q (slLen c) (slCap c))=7:=by rw [tag_eq,mkSl_eq];omega
   obtain ⟨k,ex,a,len,cap,b,o,c0,e1,e2,i1,i2,i3,i4,i5,i6,i7,i8,i9,i10,i11,i12⟩:=h.sl_inv ht
   have ha48:a<2 ^ 48:=by omega
   have hl24:len<2 ^ 24:=by omega
   have q1:=congrArg slA e1;rw [slA_mk hk hex hq hln,slA_mk i3 i4 ha48 hl24] at q1
   have q2:=congrArg slLen e1;rw [slLen_mk hk hex hq hln,slLen_mk i3 i4 ha48 hl24] at q2
   have q3:=congrArg slCap e1;rw [slCap_mk hk hex hq hln,slCap_mk i3 i4 ha48 hl24] at q3
   have q4:=congrArg slEx e1;rw [slEx_mk hk hex,slEx_mk i3 i4] at q4
   have q5:=congrArg (fun x=>x / 32 % 256) e1
   simp only [slK_mk hk,slK_mk i3] at q5
   subst q1 q2 q3 q4 q5
   have hat:∀ j,j<slCap c*(pay c % 256)→phN L (slA c+j)=e.q+j:=fun j hj=>by
     rw [← g1];exact phN_at hL e hm j (by rw [g2];exact hj)
   have hpos:0<e.q:=by have:=ho.q;omega
   have hv:v=.slice (some ⟨b,o,none⟩) (slLen c) c0:=e2
   rw [hv]
   have he:c=mkSl (pay c % 256) (slEx c) (slA c) (slLen c) (slCap c):=he
   have h1:=ho.p;have h2:=ho.pn
   rw [g1,g2] at h2
   rw [g1] at h1
   have hp:slA c % 1048576=slA c:=Nat.mod_eq_of_lt (by have:=ho.n;omega)
   refine (fun key:NR X1 (AP L) (aP L α) (mkSl (pay c % 256) (slEx c) (slA c) (slLen c) (slCap c)) (.slice (some ⟨b,o,none⟩) (slLen c) c0)=>?_) ?_
   · rw [← he] at key;exact key
   refine .sl (by rw [hp];exact h2) (fun _=>by rw [hp];exact h1) hk hex (by omega) i6 i7 i8 i9 (fun j hj=>?_) (fun j hj z hz=>?_) (fun e0 z h0 hz=>?_)
   · show phN L (slA c+j)≠0
     rw [hat j hj];omega
   · have:=(aP_some hz).2
     rw [hat j hj] at this
     exact i11 j hj z this
   · have:=(aP_some hz).2
     rw [hat _ (by omega)] at this
     exact i12 e0 z h0 this
theorem code_odd {L:List Rg} {c:Nat} (hc:codeB L c=true) (h0:c≠0):c % 2=1∧rnC L c % 2=1:=by
 unfold codeB at hc
 simp only [bOr_eq,bAnd_eq,Bool.or_eq_true,Bool.and_eq_true,beq_iff] at hc
 have hn:tag c≠7→rnC L c=c:=fun h7=>by
   unfold rnC
   have:Nat.beq (tag c) 7=false:=by
     rw [Bool.eq_false_iff];intro hb;exact h7 (beq_iff.1 hb)
   rw [this];rfl
 rcases hc with h | (h | h) | (h | h | h) | ⟨h,_⟩
 · exact absurd h h0
 · rw [hn (by omega)];rw [tag_eq] at h;omega
 · rw [hn (by omega)];rw [tag_eq] at h;omega
 · rw [hn (by omega)];rw [tag_eq] at h;omega
 · rw [hn (by omega)];rw [tag_eq] at h;omega
 · rw [hn (by rw [h];decide),h];decide
 · have : rnC L c = mkSl (Nat.mod (pay c) 256) (slEx c) (phN L (slA c)) (slLen c) (slCap c) := by
     unfold rnC
     rw [beq_iff.2 h];rfl
   rw [this,mkSl_eq];rw [tag_eq] at h;omega
theorem rel_mo {lk lk1 : Lk} {X X1 : Xs} {E B B1 : Nat} {D D1 A : Nat → Prop} {α : Al} {m m1 : M} {w : World} {L : List Rg} {cs : List Nat} (hr : Rel lk X E B D A α m w) (hD : ∀ a, a < mB → D a) (hL : apB L = true) (hcs : cellB L m cs 1 = true) (hco : allB (codeB L) cs = true)
    (hx:XLe m1.x X1) (hnm:m1.x.nm=0) (hnl:m1.x.nl=0) (hm:∀ a,0<a % 1048576→memC m1 a≠0→∃ i,a=1+i∧cs[i]?=some (memC m1 a)):Rel lk1 X1 1048576 B1 D1 (AP L) (aP L α) m1 w:=by
  refine ⟨hx,fun a _ _ h3 h4=>?_,fun i hi=>by omega,fun i hi=>by omega,fun a z h=>(aP_some h).1,fun a a' b o l l' h h'=>?_,fun a b o l h=>hr.lt _ b o l (aP_some h).2,fun a b o r h a' o' l' h'=>hr.last _ b o r (aP_some h).2 _ o' l' (aP_some h').2,fun a b o r h=>hr.room _ b o r (aP_some h).2,fun a b o l h hE=>?_,fun a b o l h=>?_⟩
  · obtain ⟨i,rfl,hi⟩:=hm a h3 h4
    have hmem:=List.mem_of_getElem? hi
    have hc:=allB_iff hco _ hmem
    obtain ⟨o1,o2⟩:=code_odd hc h4
    rcases cellB_ok hcs i _ hi with h0 | ⟨g1,g2⟩
    · exact absurd h0 h4
    · have hne:phN L (1+i)≠0:=by omega
      obtain ⟨k1,k2,k3,k4⟩:=phN_lt hL hne
      obtain ⟨b,o,l,v,e1,e2,e3,_,e5⟩:=hr.cell (phN L (1+i)) (hD _ k3) k3 k4 (by rw [g2];omega)
      rw [g2] at e5
      exact ⟨b,o,l,v,by unfold aP;rw [if_neg hne];exact e1,e2,e3,o1,nr_rn hL hc e5⟩
  · exact phN_inj hL (aP_some h).1 (hr.inj _ _ b o l l' (aP_some h).2 (aP_some h').2)
  · have:=phN_lt hL (aP_some h).1
    omega
  · have hp:=phN_lt hL (aP_some h).1
    have hk:=hr.kd _ b o l (aP_some h).2
    have hmB:mB=140737488355328:=rfl
    exact ⟨fun _=>hk.1 hp.2.2.1,fun h2=>by omega⟩
theorem cellsN_get:∀ {l:List Nat},(∀ x∈l,x<2 ^ 128)→∀ i,fld (cellsN l) (128*i) 128=(l[i]?).getD 0
 | [],_=>fun i=>by
   show fld 0 (128*i) 128=_
   rw [fld_eq];simp
 | c :: l,h=>fun i=>by
   have hc:=h c (List.mem_cons_self ..)
   have e:cellsN (c :: l)=c+cellsN l*2 ^ 128:=by
     show c+Nat.shiftLeft (cellsN l) 128=_
     rw [shl_eq]
   rw [e,fld_eq]
   cases i with
   | zero =>
     rw [Nat.mul_zero,Nat.pow_zero,Nat.div_one,Nat.add_mul_mod_self_right,Nat.mod_eq_of_lt hc];rfl
   | succ i =>
     have:=cellsN_get (fun x hx=>h x (List.mem_cons_of_mem _ hx)) i
     rw [fld_eq] at this
     rw [show 128*(i+1)=128+128*i by omega,Nat.pow_add,← Nat.div_div_eq_div_mul,Nat.add_mul_div_right _ _ (Nat.two_pow_pos 128),Nat.div_eq_of_lt hc,Nat.zero_add,this]
     rfl
theorem memC_mA (ns:Nat) (st:Tr Nat) (p a:Nat):memC (mA ns st p) a=if a<1048576 then fld p (128*a) 128 else 0:=by
 have hb:pgOf (mA ns st p).brk=1:=by rw [pgOf_eq];show 1048577 / 1048576=1;decide
 by_cases h1:pgOf a=1
 · rw [memC_brk (h1.trans hb.symm)]
   rw [pgOf_eq] at h1
   rw [if_neg (by omega)]
   exact fld_big (Nat.two_pow_pos _)
 · rw [memC_old (by rw [hb];exact h1)]
   rw [pgOf_eq] at h1 ⊢
   by_cases h:a<1048576
   · rw [if_pos h,Nat.div_eq_of_lt h]
     have:pOff a=128*a:=by
       show Nat.shiftLeft (Nat.mod a 1048576) 7=_
       rw [shl_eq,show Nat.mod a 1048576=a from Nat.mod_eq_of_lt h];omega
     rw [this];rfl
   · rw [if_neg h]
     obtain ⟨j,hj⟩:∃ j,a / 1048576=j+1:=⟨a / 1048576 - 1,by omega⟩
     rw [hj]
     have:tget 0 (mA ns st p).pg (j+1)=0:=by
       show tget 0 (.node .nil p .nil) (j+1)=0
       rw [tget_succ];split <;> rfl
     rw [this]
     exact fld_big (Nat.two_pow_pos _)
theorem wf_mA {ns:Nat} {st:Tr Nat} {p:Nat} (h:ns≤549755813888):Wf (mA ns st p):=by
 refine ⟨Nat.two_pow_pos _,show 0<1048577 % 1048576 by decide,show 1048577≤140737488355328 by decide,fun b hb _=>?_,⟨fun i hi=>?_,fun i hi=>?_,fun i _=>rfl,fun i hi=>?_,h,Nat.zero_le _,Nat.zero_le _,Nat.zero_le _⟩,Nat.zero_le _⟩
 · have hb:1048577≤b:=hb
   rw [memC_mA,if_neg (by omega)]
 all_goals exact absurd hi (Nat.not_lt_zero i)
theorem nr_res {X X':Xs} {A A':Nat→Prop} {α α':Al} {r:Nat} {u:Value} (h:tag r=23∨tag r=3) (hu:NR X A α r u):NR X' A' α' r u:=by
 rcases h with h | h
 · obtain ⟨p,hp,e1,e2⟩:=hu.int_inv (k:=.i64) h
   rw [e1,e2];exact .int hp
 · obtain ⟨p,e1,e2⟩:=hu.bool_inv h
   rw [e1,e2];exact .bool p
theorem memK_ok {ds:List Mo} {C:Nat} {m:M} {k:Kn}:Ok (memK ds C m k)→∃ d∈ds,moB C m d=true∧memK ds C m k=k d.r m:=by
 induction ds with
 | nil=>intro h;exact absurd rfl h
 | cons d ds ih =>
   intro h
   have e:memK (d :: ds) C m k=Bool.rec (motive:=fun _=>Rs) (memK ds C m k) (k d.r m) (moB C m d):=rfl
   cases hb:moB C m d with
   | true=>rw [hb] at e;exact ⟨d,List.mem_cons_self ..,hb,e⟩
   | false =>
     rw [hb] at e
     rw [e] at h ⊢
     obtain ⟨d',h1,h2,h3⟩:=ih h
     exact ⟨d',List.mem_cons_of_mem _ h1,h2,h3⟩
section
variable {c:Cx} {sig:FuncId→Option Sg} {nsg:Nat→Option (FuncId × Sg)}
end
end
end Go.Proofs.YtceaohiahajolaaGreatDoor.VM
namespace Go.Proofs.YtceaohiahajolaaGreatDoor.VM
open Go Go.RowKit
section
variable {m m1:M} {t:Tr Nat} {g:Lo}
def setP (m:M) (t:Tr Nat) (g:Lo):M:=⟨m.brk,m.cur,t,m.x,g⟩
theorem memC_setP (hb:2097152≤m.brk) (ht:∀ i,2≤i→tget 0 t i=tget 0 m.pg i) (a:Nat):memC (setP m t g) a=if a<2097152 then fld (tget 0 t (pgOf a)) (pOff a) 128 else memC m a:=by
 by_cases h1:pgOf a=pgOf m.brk
 · rw [memC_brk (m:=setP m t g) h1,memC_brk h1]
   rw [pgOf_eq,pgOf_eq] at h1
   rw [if_neg (by omega)];rfl
 · rw [memC_old (m:=setP m t g) h1,memC_old h1]
   show fld (tget 0 t (pgOf a)) _ _=_
   by_cases h:a<2097152
   · rw [if_pos h]
   · rw [if_neg h,ht _ (by rw [pgOf_eq];omega)]
end
theorem fld_cut (p n a:Nat) (ha:0<a):fld (Nat.shiftLeft (fld p 128 (128*n)) 128) (128*a) 128=0∨fld (Nat.shiftLeft (fld p 128 (128*n)) 128) (128*a) 128=fld p (128*a) 128:=by
 obtain ⟨b,rfl⟩:∃ b,a=b+1:=⟨a - 1,by omega⟩
 rw [show 128*(b+1)=128+128*b by omega]
 show fld (fld p 128 (128*n) <<< 128) _ _=0∨fld (fld p 128 (128*n) <<< 128) _ _=_
 rw [fld_shl]
 by_cases h:b+1≤n
 · exact .inr (fld_fld (by omega))
 · exact .inl (fld_big (Nat.lt_of_lt_of_le (fld_lt _ _ _) (Nat.pow_le_pow_right (by decide) (by omega))))
section
variable {c:Cx} {sig:FuncId→Option Sg} {nsg:Nat→Option (FuncId × Sg)} {v1:Env}
theorem hand_page {f:FuncId} {s:Sg} {w:Nat} {h:Hf} (hh:HandS c sig nsg f s w h):HandS c sig nsg f s w (pgH h):=by
 refine ⟨hh.fit,hh.rfit,hh.ent,hh.hsg,fun v n C m hv hC hok=>?_⟩
 obtain ⟨a,m1,e1,hx,hg,hbrk,hal⟩:=alcP_eq (m:=m) (n:=0) (V:=0) (fun _ m1=>h v n C m1 hEnd) hok
 have e1:pgH h v n C m hEnd=h v n C m1 hEnd:=e1
 rw [e1] at hok ⊢
 obtain ⟨r,m',e2,hr,st,g⟩:=hh.run v n C m1 hv hC hok
 refine ⟨r,m',e2,hr,⟨by rw [← hg];exact st.g,Nat.le_trans hbrk st.brk,by rw [← hx];exact st.x⟩,?_⟩
 intro F X A α ww args hFf hFd hX hL hc hwf ha hrl hn hB R hR
 have al:=hal hwf (Nat.two_pow_pos _)
 have hbrk':=st.brk
 have hnm:=st.x.nm
 have hnl:=st.x.nl
 have hs:AStep A α (fun x=>A x∨(m.brk≤x∧x<m1.brk)) α:=⟨fun _ h=>.inl h,fun _ _ _ h=>h⟩
 have hrel:Rel c.lk X 1048576 c.B (Cov m'.g) (fun x=>A x∨(m.brk≤x∧x<m1.brk)) α m1 ww:=by
   refine ⟨by rw [hx];exact hrl.x,fun b h1 h2 h3 h4=>?_,fun i hi hd=>?_,fun i hi hd=>?_,fun b z hz=>.inl (hrl.dom b z hz),hrl.inj,hrl.lt,hrl.last,hrl.room,hrl.own,hrl.kd⟩
   · rw [al.mem b h3,if_neg (by omega)] at h4 ⊢
     exact (hrl.cell b h1 h2 h3 h4).keep hs rfl fun _ _ _ _=>⟨rfl,rfl⟩
   · rw [hx] at hi ⊢;exact (hrl.map i hi hd).keep hs rfl fun _ _ _=>rfl
   · rw [hx] at hi ⊢;exact (hrl.loop i hi hd).keep hs rfl fun _ _ _=>rfl
 have hst0:Stp c.B (fun _=>False) (fun x=>m.brk≤x∧x<m1.brk) A α ww (fun x=>A x∨(m.brk≤x∧x<m1.brk)) α ww:=⟨rfl,rfl,Nat.le_refl _,fun _=>Iff.rfl,fun _ _=>.inl rfl,fun _ _ _ _ _ _ _=>⟨rfl,rfl,fun _=>rfl⟩,fun _ _=>rfl,fun _ _ h=>⟨h,rfl⟩,fun _ _ _ _ _ _ h=>⟨h,rfl⟩⟩
 have hnews:∀ x,((m.brk≤x∧x<m1.brk)∨News m1 m' x)↔News m m' x:=fun x=>by unfold News;rw [hx];omega
 refine g F X _ α ww args hFf hFd hX hL hc al.wf (ha.mono hs) hrel (fun x hx hA=>?_) hB R fun u A' α' w' k1 k2 k3 k4=>?_
 · rcases hA with hA | hA
   · exact hn x ((hnews x).1 (.inr hx)) hA
   · have:=hwf.brk
     have hmB:mB=140737488355328:=rfl
     have hlB:lB=211106232532992:=rfl
     have hrB:rB=246290604621824:=rfl
     have:=al.wf.brk
     unfold News at hx;omega
 · refine hR u A' α' w' ⟨k1.wf,fun b h0 h1 h2=>?_,fun i h1 h2=>?_,fun i h1 h2=>?_,fun b h1 h2=>?_⟩ k2 k3 ((hst0.trans k4).weak (fun x h=>h.resolve_left id) hnews)
   · rw [k1.mem b h0 (by omega) h2,al.mem b h0,if_neg (by omega)]
   · rw [← hx] at h1 ⊢;exact k1.map i h1 h2
   · rw [← hx] at h1 ⊢;exact k1.loop i h1 h2
   · rcases (hnews b).2 h1 with h | h
     · have hw1:m'.g.wm=m1.g.wm:=st.g.wm
       have:=hwf.wm
       exact .inr (.inl ⟨by rw [hw1,hg];omega,by omega⟩)
     · exact k1.new b h h2
theorem hand_dir (hv:EnvOk c sig nsg v1) {f:FuncId} {s:Sg} (ent:EntP c.P f) (hsig:sig f=some s) (hfit:sgFit s.ks) (hrfit:rkFit s.kr) {n w:Nat}:HandS c sig nsg f s w (dirH v1 f (128*n) (2 ^ (128*w))):=by
 refine ⟨hfit,hrfit,ent,fun s' h'=>by rw [hsig] at h';cases h';rfl,fun v n0 C m _ hC hok=>?_⟩
 obtain ⟨brk,cur,pg,x,⟨wm,rl,wl⟩⟩:=m
 have e0:dirH v1 f (128*n) (2 ^ (128*w)) v n0 C ⟨brk,cur,pg,x,⟨wm,rl,wl⟩⟩ hEnd=natK (Nat.rec 2097152 (fun _ _=>wm) wm) (djV v1 f (128*n) C (2 ^ (128*w)) hEnd brk cur pg x ⟨wm,rl,wl⟩):=rfl
 rw [natK_eq] at e0
 obtain ⟨w1,hw1⟩:∃ w1,(Nat.rec 2097152 (fun _ _=>wm) wm:Nat)=w1:=⟨_,rfl⟩
 rw [hw1] at e0
 have hw2:wm=0∨w1=wm:=by
   cases wm with
   | zero=>exact .inl rfl
   | succ k=>exact .inr hw1.symm
 rw [e0] at hok ⊢
 obtain ⟨hb,hok,e1⟩:=ok_if (r:=natK (tget 0 pg 0) (djP v1 f (128*n) C (2 ^ (128*w)) w1 hEnd brk cur pg x ⟨wm,rl,wl⟩)) hok
 rw [bAnd_eq,Bool.and_eq_true,ble_iff,ble_iff] at hb
 obtain ⟨hwE,hwB⟩:=hb
 have e1:=Eq.trans (show djV v1 f (128*n) C (2 ^ (128*w)) hEnd brk cur pg x ⟨wm,rl,wl⟩ w1=_ from rfl) e1
 rw [e1]
 rw [natK_eq] at hok ⊢
 generalize hp0:tget 0 pg 0=p0 at hok ⊢
 have e2:djP v1 f (128*n) C (2 ^ (128*w)) w1 hEnd brk cur pg x ⟨wm,rl,wl⟩ p0=natK (tget 0 pg 1) (djN v1 f (128*n) C (2 ^ (128*w)) w1 hEnd brk cur pg x ⟨wm,rl,wl⟩ p0):=rfl
 rw [e2,natK_eq] at hok ⊢
 generalize hp1:tget 0 pg 1=p1 at hok ⊢
 have e2:djN v1 f (128*n) C (2 ^ (128*w)) w1 hEnd brk cur pg x ⟨wm,rl,wl⟩ p0 p1=natK (Nat.shiftLeft (fld p0 128 (128*n)) 128) (djQ v1 f C (2 ^ (128*w)) p0 p1 w1 hEnd brk cur pg x ⟨wm,rl,wl⟩):=rfl
 rw [e2,natK_eq] at hok ⊢
 obtain ⟨t0,e3,ht0⟩:=tput_get 0 (Nat.shiftLeft (fld p0 128 (128*n)) 128) 40 0 pg (djS v1 f C (2 ^ (128*w)) p0 p1 w1 hEnd brk cur x ⟨wm,rl,wl⟩) (by decide)
 have e3:djQ v1 f C (2 ^ (128*w)) p0 p1 w1 hEnd brk cur pg x ⟨wm,rl,wl⟩ (Nat.shiftLeft (fld p0 128 (128*n)) 128)=_:=e3
 rw [e3] at hok ⊢
 obtain ⟨t,e3,ht1⟩:=tput_get 0 0 40 1 t0 (djT v1 f C (2 ^ (128*w)) p0 p1 w1 hEnd brk cur x ⟨wm,rl,wl⟩) (by decide)
 have e3:djS v1 f C (2 ^ (128*w)) p0 p1 w1 hEnd brk cur x ⟨wm,rl,wl⟩ t0=_:=e3
 rw [e3] at hok ⊢
 have e4:djT v1 f C (2 ^ (128*w)) p0 p1 w1 hEnd brk cur x ⟨wm,rl,wl⟩ t=Rs.rec (motive:=fun _=>Rs) .bad (djX hEnd p0 p1 (2 ^ (128*w)) ⟨wm,rl,wl⟩) (v1.call f C ⟨brk,cur,t,x,⟨w1,[],[]⟩⟩ okN):=rfl
 rw [e4] at hok ⊢
 obtain ⟨r,m',e5,st,g⟩:=hv.call f s hsig C ⟨brk,cur,t,x,⟨w1,[],[]⟩⟩ okN hC (fun hb=>by rw [hb] at hok;exact hok rfl)
 rw [e5] at hok ⊢
 obtain ⟨hb2,hok,e6⟩:=ok_if (r:=Nat.rec (motive:=fun _=>Rs) (dj0 hEnd p0 p1 r m' ⟨wm,rl,wl⟩) (fun _ _=>dj0 hEnd p0 p1 r m' ⟨wm,List.append m'.g.rl rl,List.append m'.g.wl wl⟩) wm) hok
 rw [bAnd_eq,Bool.and_eq_true,ble_iff] at hb2
 obtain ⟨hrW,hwl⟩:=hb2
 have e6:=Eq.trans (show Rs.rec (motive:=fun _=>Rs) .bad (djX hEnd p0 p1 (2 ^ (128*w)) ⟨wm,rl,wl⟩) (okN r m')=_ from rfl) e6
 rw [e6]
 have hlog:∃ g0:Lo,Nat.rec (motive:=fun _=>Rs) (dj0 hEnd p0 p1 r m' ⟨wm,rl,wl⟩) (fun _ _=>dj0 hEnd p0 p1 r m' ⟨wm,List.append m'.g.rl rl,List.append m'.g.wl wl⟩) wm=dj0 hEnd p0 p1 r m' g0∧GLe ⟨wm,rl,wl⟩ g0∧(wm=0∨((∀ e∈m'.g.rl,e∈g0.rl)∧∀ e∈m'.g.wl,e∈g0.wl)):=by
   cases wm with
   | zero=>exact ⟨_,rfl,.refl _,.inl rfl⟩
   | succ k=>exact ⟨_,rfl,⟨rfl,fun e he=>List.mem_append.2 (.inr he),fun e he=>List.mem_append.2 (.inr he)⟩,.inr ⟨fun e he=>List.mem_append.2 (.inl he),fun e he=>List.mem_append.2 (.inl he)⟩⟩
 obtain ⟨g0,e7,hg0,hgl⟩:=hlog
 rw [e7]
 obtain ⟨t3,e8,ht3⟩:=tput_get 0 p0 40 0 m'.pg (djR hEnd p1 r m' g0) (by decide)
 obtain ⟨t2,e9,ht4⟩:=tput_get 0 p1 40 1 t3 (dj1 hEnd r g0 m') (by decide)
 have e8:dj0 hEnd p0 p1 r m' g0=djR hEnd p1 r m' g0 t3:=e8
 have e9:djR hEnd p1 r m' g0 t3=dj1 hEnd r g0 m' t2:=e9
 have e10:dj1 hEnd r g0 m' t2=hEnd r (setP m' t2 g0):=by cases m';rfl
 rw [e8,e9,e10]
 have hbrk:brk≤m'.brk:=st.brk
 have hEb:2097152≤brk:=Nat.le_trans hwE hwB
 have hEb':2097152≤m'.brk:=Nat.le_trans hEb hbrk
 have hgw:m'.g.wm=w1:=st.g.wm
 have hgw0:g0.wm=wm:=hg0.wm
 refine ⟨r,setP m' t2 g0,rfl,hrW,⟨hg0,hbrk,st.x⟩,?_⟩
 have hlow:∀ a b,a<2097152→¬ CovC m'.g b a:=fun a b ha=>by
   rintro (h | h | ⟨e,he,h1,h2⟩)
   · rw [hgw] at h;omega
   · rw [hgw] at h;omega
   · have:=ble_iff.1 (allB_iff hwl e he);omega
 have hcov:∀ a,Cov m'.g a→Cov g0 a:=fun a h=>by
   rcases hw2 with h0 | h0
   · exact .inl (hgw0.trans h0)
   · rcases hgl with h1 | ⟨h1,h2⟩
     · exact .inl (hgw0.trans h1)
     · exact h.mono ⟨hgw0.trans (h0.symm.trans hgw.symm),h1,h2⟩
 have hcovC:∀ a,CovC m'.g m'.brk a→CovC g0 m'.brk a:=fun a h=>by
   rcases hw2 with h0 | h0
   · exact .inl (hgw0.trans h0)
   · rcases hgl with h1 | ⟨h1,h2⟩
     · exact .inl (hgw0.trans h1)
     · exact h.mono ⟨hgw0.trans (h0.symm.trans hgw.symm),h1,h2⟩ (Nat.le_refl _)
 have hm1:∀ a,memC ⟨brk,cur,t,x,⟨w1,[],[]⟩⟩ a=if a<2097152 then fld (tget 0 t (pgOf a)) (pOff a) 128 else memC ⟨brk,cur,pg,x,⟨wm,rl,wl⟩⟩ a:=fun a=>memC_setP (m:=⟨brk,cur,pg,x,⟨wm,rl,wl⟩⟩) (g:=⟨w1,[],[]⟩) hEb (fun i hi=>by rw [ht1,if_neg (by omega),ht0,if_neg (by omega)]) a
 have hm2:∀ a,memC (setP m' t2 g0) a=if a<2097152 then fld (tget 0 pg (pgOf a)) (pOff a) 128 else memC m' a:=fun a=>by
   rw [memC_setP hEb' (fun i hi=>by rw [ht4,if_neg (by omega),ht3,if_neg (by omega)])]
   by_cases h:a<2097152
   · rw [if_pos h,if_pos h,ht4,ht3]
     have:pgOf a=0∨pgOf a=1:=by rw [pgOf_eq];omega
     rcases this with e | e <;> rw [e] <;> simp [hp0,hp1]
   · rw [if_neg h,if_neg h]
 have hm3:∀ g a,memC (setP m' t2 g) a=memC (setP m' t2 g0) a:=fun _ _=>rfl
 have hm0:∀ a,a<2097152→memC ⟨brk,cur,pg,x,⟨wm,rl,wl⟩⟩ a=fld (tget 0 pg (pgOf a)) (pOff a) 128:=fun a ha=>by
   rw [memC_old (by rw [pgOf_eq,pgOf_eq];show a / 1048576≠brk / 1048576;omega)]
 have hcut:∀ a,a<2097152→0<a % 1048576→fld (tget 0 t (pgOf a)) (pOff a) 128=0∨fld (tget 0 t (pgOf a)) (pOff a) 128=fld (tget 0 pg (pgOf a)) (pOff a) 128:=fun a ha h0=>by
   rw [ht1,ht0,pgOf_eq,pOff_eq]
   by_cases h:a<1048576
   · rw [Nat.div_eq_of_lt h,if_neg (by decide),if_pos rfl,hp0,Nat.mod_eq_of_lt h]
     exact fld_cut p0 n a (by omega)
   · rw [show a / 1048576=1 by omega,if_pos rfl]
     exact .inl (by rw [fld_eq,Nat.zero_div,Nat.zero_mod])
 intro F X A α ww args hFf hFd hX hL hc hwf ha hr hn hB R hR
 have hX':XLe m'.x X:=hX
 have hL':Lim m':=⟨hL.brk,hL.nm,hL.nl⟩
 have hr:Rel c.lk X 1048576 c.B (Cov g0) A α ⟨brk,cur,pg,x,⟨wm,rl,wl⟩⟩ ww:=hr
 have hwf1:Wf ⟨brk,cur,t,x,⟨w1,[],[]⟩⟩:=by
   refine ⟨hwf.cur,hwf.off,hwf.brk,fun b hb h0=>?_,hwf.x,hwB⟩
   have hb:brk≤b:=hb
   rw [hm1,if_neg (by omega)]
   exact hwf.zero b hb h0
 have hr1:Rel c.lk X 1048576 c.B (Cov m'.g) A α ⟨brk,cur,t,x,⟨w1,[],[]⟩⟩ ww:=by
   refine ⟨hr.x,fun a h1 h2 h3 h4=>?_,fun i hi hd=>hr.map i hi (hcov _ hd),fun i hi hd=>hr.loop i hi (hcov _ hd),hr.dom,hr.inj,hr.lt,hr.last,hr.room,hr.own,hr.kd⟩
   have hk:=hr.cell a (hcov a h1) h2 h3
   rw [hm1] at h4 ⊢
   by_cases h:a<2097152
   · rw [if_pos h] at h4 ⊢
     rw [hm0 a h] at hk
     rcases hcut a h h3 with e | e
     · exact absurd e h4
     · rw [e] at h4 ⊢;exact hk h4
   · rw [if_neg h] at h4 ⊢
     exact hk h4
 refine g F X A α ww args hFf hFd hX' hL' hc hwf1 ha hr1 hn hB R fun u A' α' w' k1 k2 k3 k4=>?_
 have hst:Stp c.B (CovC m'.g m'.brk) (News ⟨brk,cur,t,x,⟨w1,[],[]⟩⟩ m') A α ww A' α' w':=k4
 have hwf':Wf (setP m' t2 m'.g):=by
   refine ⟨k1.wf.cur,k1.wf.off,k1.wf.brk,fun b hb h0=>?_,k1.wf.x,k1.wf.wm⟩
   have hb:m'.brk≤b:=hb
   rw [hm3,hm2,if_neg (by omega)]
   exact k1.wf.zero b hb h0
 have hms:MSem ⟨brk,cur,pg,x,⟨wm,rl,wl⟩⟩ (setP m' t2 m'.g):=by
   refine ⟨hwf',fun a h0 h1 h2=>?_,k1.map,k1.loop,k1.new⟩
   rw [hm3,hm2]
   by_cases h:a<2097152
   · rw [if_pos h,hm0 a h]
   · rw [if_neg h]
     have:=k1.mem a h0 h1 h2
     rw [this,hm1,if_neg h]
 have hrel1:Rel c.lk X 1048576 c.B (Cov m'.g) A' α' (setP m' t2 m'.g) w':=by
   refine ⟨k3.x,fun a h1 h2 h3 h4=>?_,k3.map,k3.loop,k3.dom,k3.inj,k3.lt,k3.last,k3.room,k3.own,k3.kd⟩
   rw [hm3,hm2] at h4 ⊢
   by_cases h:a<2097152
   · rw [if_pos h] at h4 ⊢
     have hk:=hr.cell a (hcov a h1) h2 h3
     rw [hm0 a h] at hk
     have hcr:=hk h4
     have hA:A a:=by
       obtain ⟨b0,o0,l0,v0,k,_⟩:=hcr
       exact hr.dom a _ k
     have hα:α' a=α a:=(hst.keep a hA).resolve_right fun h'=>hlow a _ h h'.1
     exact hcr.keep hst.ast hα fun b o l h'=>⟨(hst.cells a b o l hA h' (hlow a _ h)).1,(hst.cells a b o l hA h' (hlow a _ h)).2.1⟩
   · rw [if_neg h] at h4 ⊢
     exact k3.cell a h1 h2 h3 h4
 have hrel:Rel c.lk X 1048576 c.B (Cov g0) A' α' (setP m' t2 g0) w':=(hr.frame hms hst hrel1).regs g0
 refine hR u A' α' w' ⟨⟨hwf'.cur,hwf'.off,hwf'.brk,hwf'.zero,hwf'.x,?_⟩,fun a h0 h1 h2=>?_,fun i h1 h2=>?_,fun i h1 h2=>?_,fun a h1 h2=>hcovC a (k1.new a h1 h2)⟩ k2 hrel (hst.weak hcovC fun _=>Iff.rfl)
 · show g0.wm≤m'.brk
   rw [hgw0]
   exact Nat.le_trans hwf.wm hbrk
 · exact hms.mem a h0 h1 fun h=>h2 (hcovC a h)
 · exact k1.map i h1 fun h=>h2 (hcovC _ h)
 · exact k1.loop i h1 fun h=>h2 (hcovC _ h)
end
theorem rsE_ok {x:Rs} {r:Nat} (h:rsE x r=true):∃ m,x=.ok .nrm r m:=by
 cases x with
 | bad=>cases h
 | ok e F m =>
   cases e with
   | nrm=>exact ⟨m,by rw [beq_iff.1 (show Nat.beq F r=true from h)]⟩
   | ret=>cases h
   | ex id=>cases h
   | gt l=>cases h
end Go.Proofs.YtceaohiahajolaaGreatDoor.VM
namespace Go.Proofs.YtceaohiahajolaaGreatDoor.VM
open Go Go.RowKit
theorem memN_ok {gs:List Gp} {C:Nat} {m:M} {k:Kn}:Ok (memN C m k gs)→∃ g∈gs,∃ d∈g.ds,moB C m d=true∧memN C m k gs=k d.r m:=by
 induction gs with
 | nil=>intro h;exact absurd rfl h
 | cons g gs ih =>
   intro h
   have e:memN C m k (g :: gs)=Bool.rec (motive:=fun _=>Rs) (memN C m k gs) (memK g.ds C m k) (Nat.beq (slLen (fld C 0 128)) g.n):=rfl
   cases hb:Nat.beq (slLen (fld C 0 128)) g.n with
   | true =>
     rw [hb] at e
     rw [e] at h ⊢
     obtain ⟨d,h1,h2,h3⟩:=memK_ok (k:=k) h
     exact ⟨g,List.mem_cons_self ..,d,h1,h2,h3⟩
   | false =>
     rw [hb] at e
     rw [e] at h ⊢
     obtain ⟨g',h0,d',h1,h2,h3⟩:=ih h
     exact ⟨g',List.mem_cons_of_mem _ h0,d',h1,h2,h3⟩
theorem cellsN_lt:∀ {l:List Nat},(∀ x∈l,x<2 ^ 128)→cellsN l<2 ^ (128*l.length)
 | [],_=>Nat.two_pow_pos _
 | x :: l,h=>by
   have h1:=h x (List.mem_cons_self ..)
   have h2:=cellsN_lt (fun y hy=>h y (List.mem_cons_of_mem _ hy))
   have e:cellsN (x :: l)=x+cellsN l*2 ^ 128:=by
     show x+Nat.shiftLeft (cellsN l) 128=_
     rw [shl_eq]
   rw [e,List.length_cons,show 128*(l.length+1)=128*l.length+128 by omega,Nat.pow_add]
   have:=Nat.mul_le_mul_right (2 ^ 128) (Nat.succ_le_of_lt h2)
   rw [Nat.succ_mul] at this
   omega
theorem argR_mo {X X1:Xs} {A:Nat→Prop} {α:Al} {L:List Rg} {ks:List Sk} {C:Nat} {as:List Nat} {args:Array Value} (hL:apB L=true) (hlen:as.length=ws ks) (hlt:∀ x∈as,x<2 ^ 128) (h1:∀ x∈as,1≤x) (hc:allB (codeB L) as=true) (hb:argB L C as 0=true) (ha:ArgR X A α ks C args):ArgR X1 (AP L) (aP L α) ks (cellsN as) args:=by
 refine ⟨ha.1,fun j k hj=>?_⟩
 have h2:=ha.2 j k hj
 have hle:=so_le hj
 have e1:∀ C,prt ks C j=fld C (128*so ks j) (128*k.w):=fun C=>by unfold prt;rw [hj];rfl
 have cl:∀ C i,i<k.w→cell (prt ks C j) i=fld C (128*(so ks j+i)) 128:=fun C i hi=>by
   rw [e1,cell_fld hi,Nat.mul_add]
 have get:∀ i,i<k.w→∃ c,as[so ks j+i]?=some c∧c∈as∧cell (prt ks C j) i=rnC L c∧cell (prt ks (cellsN as) j) i=c:=fun i hi=>by
   have hl:so ks j+i<as.length:=by omega
   refine ⟨as[so ks j+i],List.getElem?_eq_getElem hl,List.getElem_mem hl,?_,?_⟩
   · have:=argB_ok hb _ _ (List.getElem?_eq_getElem hl)
     rw [Nat.zero_add] at this
     rw [cl C i hi,this]
   · rw [cl _ i hi,cellsN_get hlt,List.getElem?_eq_getElem hl];rfl
 cases k with
 | one =>
   obtain ⟨c,_,hm,g1,g2⟩:=get 0 (Nat.lt_succ_self 0)
   have w1:∀ C,prt ks C j<2 ^ 128:=fun C=>by rw [e1];exact fld_lt _ _ _
   rw [cell_one (w1 _)] at g1 g2
   have h2:NR X A α (prt ks C j) (args.getD j undef):=h2
   show NR _ _ _ (prt ks (cellsN as) j) _
   rw [g1] at h2
   rw [g2]
   exact nr_rn hL (allB_iff hc _ hm) h2
 | agg n =>
   cases n with
   | zero =>
     left
     rw [e1]
     show fld _ _ 0=0
     have:=fld_lt (cellsN as) (128*so ks j) 0
     omega
   | succ n =>
     obtain ⟨c,_,hm,g1,_⟩:=get 0 (Nat.succ_pos n)
     have ho:=(code_odd (allB_iff hc _ hm) (Nat.one_le_iff_ne_zero.1 (h1 c hm))).2
     rcases h2 with h2 | ⟨h2,_⟩ | ⟨vs,h2,h3,h4⟩
     · rw [h2] at g1
       have:cell 0 0=0:=cell_one (by decide)
       omega
     · rw [h2] at g1
       have:cell 2 0=2:=cell_one (by decide)
       omega
     · refine .inr (.inr ⟨vs,h2,h3,fun i hi=>?_⟩)
       obtain ⟨c,_,hm,g1,g2⟩:=get i hi
       rw [g2]
       have hk:=(h4 i hi).2
       rw [g1] at hk
       exact ⟨(code_odd (allB_iff hc _ hm) (Nat.one_le_iff_ne_zero.1 (h1 c hm))).1,nr_rn hL (allB_iff hc _ hm) hk⟩
section
variable {c:Cx} {sig:FuncId→Option Sg} {nsg:Nat→Option (FuncId × Sg)}
noncomputable def moW (n:Nat) (d:Mo):Bool:=bAnd (Nat.beq d.as.length n) (bAnd (allB (fun x=>Nat.ble (Nat.succ x) (Nat.pow 2 128)) (List.append d.as d.cs)) (allB (fun x=>Nat.ble 1 x) d.as))
theorem moC_ok {n:Nat} {d:Mo} (h:moC n d=true):moW n d=true∧(tag d.r=23∨tag d.r=3)∧d.r<2 ^ 128:=by
 unfold moC at h
 unfold moW
 simp only [bAnd_eq,bOr_eq,Bool.and_eq_true,Bool.or_eq_true,beq_iff,ble_iff] at h ⊢
 exact ⟨⟨h.1,h.2.1,h.2.2.1⟩,h.2.2.2.1,h.2.2.2.2⟩
noncomputable def cstB (c:Nat):Bool:=bOr (Nat.beq (tag c) 23) (bOr (Nat.beq (tag c) 3) (Nat.beq c 33))
theorem nr_cst {X X':Xs} {A A':Nat→Prop} {α α':Al} {c:Nat} {v:Value} (hb:cstB c=true) (h:NR X A α c v):NR X' A' α' c v:=by
 unfold cstB at hb
 simp only [bOr_eq,Bool.or_eq_true,beq_iff] at hb
 rcases hb with hb | hb | rfl
 · exact nr_res (.inl hb) h
 · exact nr_res (.inr hb) h
 · rw [h.nilS_inv rfl];exact .nilS
noncomputable def cstT (ks:List Sk) (r:Nat):Bool:=allB (fun i=>cstB (fld r (128*i) 128)) (List.range (ws ks))
theorem sr_cst {X X':Xs} {A A':Nat→Prop} {α α':Al} {ks:List Sk} {r:Nat} {v:Value} (hb:cstT ks r=true) (h0:ws ks≠0) (h:SR X A α (.tup ks) r v):SR X' A' α' (.tup ks) r v:=by
 have hc:∀ i,i<ws ks→cstB (fld r (128*i) 128)=true:=fun i hi=>allB_iff hb i (List.mem_range.2 hi)
 rcases h with h | ⟨h,_⟩ | ⟨vs,e,h1,h2⟩
 · exact .inl h
 · have:=hc 0 (by omega)
   rw [h] at this
   exact absurd this (by decide)
 · refine .inr (.inr ⟨vs,e,h1,fun j k hj=>?_⟩)
   have h3:=h2 j k hj
   have hle:=so_le hj
   have e1:prt ks r j=fld r (128*so ks j) (128*k.w):=by unfold prt;rw [hj];rfl
   have cl:∀ i,i<k.w→cell (prt ks r j) i=fld r (128*(so ks j+i)) 128:=fun i hi=>by
     rw [e1,cell_fld hi,Nat.mul_add]
   cases k with
   | one =>
     have hlt:prt ks r j<2 ^ 128:=by rw [e1];exact fld_lt _ _ _
     have hk:cstB (prt ks r j)=true:=by
       have:=cl 0 (Nat.lt_succ_self 0)
       rw [cell_one hlt] at this
       rw [this];exact hc _ (by have:Sk.w .one=1:=rfl;omega)
     exact nr_cst hk h3
   | agg n =>
     rcases h3 with h3 | ⟨h3,h4⟩ | ⟨us,h3,h4,h5⟩
     · exact .inl h3
     · exact .inr (.inl ⟨h3,h4⟩)
     · refine .inr (.inr ⟨us,h3,h4,fun i hi=>⟨(h5 i hi).1,?_⟩⟩)
       have hk:cstB (cell (prt ks r j) i)=true:=by
         rw [cl i hi];exact hc _ (by have:Sk.w (.agg n)=n:=rfl;omega)
       exact nr_cst hk (h5 i hi).2
theorem memo_core {f : FuncId} {s : Sg} (hsig : sig f = some s) {lk : Lk} {ns : Nat} {st : Tr Nat} (hns : ns ≤ 549755813888) {v1 : Env} (hv : ∀ B, EnvOk ⟨c.P, lk, B, cxS ns st, false⟩ sig nsg v1)
    {d:Mo} {C:Nat} {m m1:M} (hs:SameM m m1) (hcov:∀ a,a<mB→Cov m1.g a) (hb:moB C m d=true) (k1:moW (ws s.ks) d=true) (hrs:∀ X X' A A' α α' v,SR X A α s.kr d.r v→SR X' A' α' s.kr d.r v) (k2:moT1 v1 f ns st d=true):MStep m m1∧CallS c f s.ks s.kr C m d.r m1:=by
  obtain ⟨L,hb⟩:=moL_ex (hi:=d.hi) hb
  unfold moT at hb
  simp only [bAnd_eq,Bool.and_eq_true] at hb
  obtain ⟨hb1,hb2,hb3,hb4,hb5⟩:=hb
  obtain ⟨mE,hrun⟩:=rsE_ok k2
  unfold moW at k1
  simp only [bAnd_eq,Bool.and_eq_true,beq_iff] at k1
  obtain ⟨hlen,hlt,hpos⟩:=k1
  have hlt:∀ x∈d.as++d.cs,x<2 ^ 128:=fun x hx=>ble_iff.1 (allB_iff hlt x hx)
  have hpos:∀ x∈d.as,1≤x:=fun x hx=>ble_iff.1 (allB_iff hpos x hx)
  have hno:∀ a,¬ News m m1 a:=fun a h=>by unfold News at h;rw [hs.brk,hs.x] at h;omega
  refine ⟨hs.step,?_⟩
  intro F X A α w args hFf hFd hX hL hc hw ha hr hn hB R hR
  have hC1:cellsN d.as<2 ^ (128*ws s.ks):=by
    rw [← hlen]
    exact cellsN_lt fun x hx=>hlt x (List.mem_append.2 (.inl hx))
  obtain ⟨m',hl,hst,g⟩:=run_call (hv w.heap.size) hsig hC1 hrun
  have hX1:XLe m'.x ⟨strS m'.x,cloS m'.x⟩:=⟨fun _ _=>rfl,fun _ _=>rfl⟩
  refine g F ⟨strS m'.x,cloS m'.x⟩ (AP L) (aP L α) w args hFf hFd hX1 hl (fun i hi=>hst.x.str i hi) (wf_mA hns) (argR_mo hb2 hlen (fun x hx=>hlt x (List.mem_append.2 (.inl hx))) hpos hb3 hb1 ha) ?_ (fun x hx hA=>?_) (Nat.le_refl _) R fun u A' α' w' _ hu _ hS=>?_
  · refine rel_mo (cs:=d.cs) hr hcov hb2 hb5 hb4 (hX1.back hst.x) rfl rfl fun a h0 hne=>?_
    rw [memC_mA] at hne ⊢
    by_cases h:a<1048576
    · rw [if_pos h] at hne ⊢
      have hz:∀ x∈(0 :: d.cs),x<2 ^ 128:=fun x hx=>by
        rcases List.mem_cons.1 hx with rfl | hx
        · exact Nat.two_pow_pos _
        · exact hlt x (List.mem_append.2 (.inr hx))
      rw [fld_mix _ (by omega),cellsN_get hz] at hne ⊢
      obtain ⟨i,rfl⟩:∃ i,a=1+i:=⟨a - 1,by omega⟩
      refine ⟨i,rfl,?_⟩
      rw [show 1+i=i+1 by omega,List.getElem?_cons_succ] at hne ⊢
      cases hx:d.cs[i]? with
      | none=>rw [hx] at hne;exact absurd rfl hne
      | some y=>rfl
    · rw [if_neg h] at hne;exact absurd rfl hne
  · have hp:=phN_lt hb2 hA
    have hmB:mB=140737488355328:=rfl
    have hlB:lB=211106232532992:=rfl
    have hrB:rB=246290604621824:=rfl
    have hbrk:(mA ns st (mix (cellsN (0 :: d.cs)))).brk=1048577:=rfl
    unfold News at hx
    rw [hbrk] at hx
    omega
  · have q:Quiet w w':=⟨hS.os,hS.output,hS.size,hS.elder⟩
    exact hR _ A α w' (hs.sem hw) (hrs _ _ _ _ _ _ _ hu) ((hr.log hs).quiet q) (stp_quiet hB hr.lt hno q)
theorem hand_memo2 {f : FuncId} {s : Sg} (ent : EntP c.P f) (hsig : sig f = some s) (hfit : sgFit s.ks) (hkr : s.kr = .s .one) {lk : Lk} {ns : Nat} {st : Tr Nat} (hns : ns ≤ 549755813888)
    {gs:List Gp} (hd:∀ g∈gs,allB (moC (ws s.ks)) g.ds=true∧∀ d∈g.ds,∃ v1,(∀ B,EnvOk ⟨c.P,lk,B,cxS ns st,false⟩ sig nsg v1)∧moT1 v1 f ns st d=true):HandS c sig nsg f s 1 (memG gs):=by
  refine ⟨hfit,by rw [hkr];trivial,ent,fun s' h'=>by rw [hsig] at h';cases h';rfl,fun v n C m _ hC hok=>?_⟩
  have e1:memG gs v n C m hEnd=memN C m (lgK hEnd) gs:=rfl
  rw [e1] at hok
  obtain ⟨gg,hgm,d,hmem,hb,e2⟩:=memN_ok hok
  obtain ⟨k1,k2⟩:=hd gg hgm
  obtain ⟨v1,hv,k2⟩:=k2 d hmem
  obtain ⟨q1,q2,q3⟩:=moC_ok (allB_iff k1 d hmem)
  obtain ⟨m1,e3,hs,hcov⟩:=rlog_eq m (a:=0) (n:=m.g.wm) (by decide) (hEnd d.r)
  have hcov:∀ a,a<mB→Cov m1.g a:=fun a ha=>by
    by_cases h:a<m.g.wm
    · have:=hcov a h (by omega)
      rwa [Nat.zero_add] at this
    · exact .inr (.inl ⟨by rw [hs.g.wm];omega,ha⟩)
  obtain ⟨r2,r3⟩:=memo_core hsig hns hv hs hcov hb q1 (fun _ _ _ _ _ _ _ h=>by rw [hkr] at h ⊢;exact nr_res q2 h) k2
  exact ⟨d.r,m1,e1.trans (e2.trans e3),q3,r2,r3⟩
theorem memY_or (h:Hf) (ds:List Mo) (v:Env) (n C:Nat) (m:M):(∃ d∈ds,moB C m d=true∧memY h ds v n C m hEnd=hEnd d.r m)∨memY h ds v n C m hEnd=h v n C m hEnd:=by
 induction ds with
 | nil=>exact .inr rfl
 | cons d ds ih =>
   have e:memY h (d :: ds) v n C m hEnd=Bool.rec (motive:=fun _=>Rs) (memY h ds v n C m hEnd) (hEnd d.r m) (moB C m d):=rfl
   cases hb:moB C m d with
   | true=>rw [hb] at e;exact .inl ⟨d,List.mem_cons_self ..,hb,e⟩
   | false =>
     rw [hb] at e
     rcases ih with ⟨d',h1,h2,h3⟩ | h3
     · exact .inl ⟨d',List.mem_cons_of_mem _ h1,h2,e.trans h3⟩
     · exact .inr (e.trans h3)
theorem hand_memof {f : FuncId} {s : Sg} {W : Nat} {h : Hf} (hh : HandS c sig nsg f s W h) (hsig : sig f = some s) {lk : Lk} {ns : Nat} {st : Tr Nat} (hns : ns ≤ 549755813888) {v1 : Env} (hv : ∀ B, EnvOk ⟨c.P, lk, B, cxS ns st, false⟩ sig nsg v1)
    {ds:List Mo} (hd:∀ d∈ds,moW (ws s.ks) d=true∧d.r<2 ^ (128*W)∧∀ X X' A A' α α' v,SR X A α s.kr d.r v→SR X' A' α' s.kr d.r v) (hd2:allB (moT1 v1 f ns st) ds=true):HandS c sig nsg f s W (memF h ds):=by
  refine ⟨hh.fit,hh.rfit,hh.ent,hh.hsg,fun v n C m hvv hC hok=>?_⟩
  have e1:memF h ds v n C m hEnd=Bool.rec (motive:=fun _=>Rs) (h v n C m hEnd) (memY h ds v n C m hEnd) (Nat.beq m.g.wm 0):=rfl
  rw [e1] at hok ⊢
  cases hw:Nat.beq m.g.wm 0 with
  | false=>rw [hw] at hok;exact hh.run v n C m hvv hC hok
  | true =>
    rw [hw] at hok
    have hok:Ok (memY h ds v n C m hEnd):=hok
    show ∃ r m',memY h ds v n C m hEnd=hEnd r m'∧_
    have hx:=memY_or h ds v n C m
    rcases hx with ⟨d,hmem,hb,e2⟩ | e2
    · obtain ⟨q1,q2,q3⟩:=hd d hmem
      obtain ⟨r2,r3⟩:=memo_core hsig hns hv (SameM.refl m) (fun _ _=>.inl (beq_iff.1 hw)) hb q1 q3 (allB_iff hd2 d hmem)
      exact ⟨d.r,m,e2,q2,r2,r3⟩
    · rw [e2] at hok ⊢
      exact hh.run v n C m hvv hC hok
theorem hd_one {s:Sg} (hkr:s.kr=.s .one) {n:Nat} {ds:List Mo} (hd:allB (moC n) ds=true):∀ d∈ds,moW n d=true∧d.r<2 ^ (128*1)∧∀ X X' A A' α α' v,SR X A α s.kr d.r v→SR X' A' α' s.kr d.r v:=fun d hm=>by
 obtain ⟨q1,q2,q3⟩:=moC_ok (allB_iff hd d hm)
 exact ⟨q1,q3,fun _ _ _ _ _ _ _ h=>by rw [hkr] at h ⊢;exact nr_res q2 h⟩
theorem hd_tup {s:Sg} {ks:List Sk} (hkr:s.kr=.tup ks) (h0:ws ks≠0) {n W:Nat} {ds:List Mo} (hd:allB (fun d=>bAnd (moW n d) (bAnd (cstT ks d.r) (Nat.ble (Nat.succ d.r) (Nat.pow 2 (128*W))))) ds=true):∀ d∈ds,moW n d=true∧d.r<2 ^ (128*W)∧∀ X X' A A' α α' v,SR X A α s.kr d.r v→SR X' A' α' s.kr d.r v:=fun d hm=>by
 have h:=allB_iff hd d hm
 simp only [bAnd_eq,Bool.and_eq_true,ble_iff] at h
 exact ⟨h.1,h.2.2,fun _ _ _ _ _ _ _ h'=>by rw [hkr] at h' ⊢;exact sr_cst h.2.1 h0 h'⟩
end
end Go.Proofs.YtceaohiahajolaaGreatDoor.VM
