/-
  The machine against the model, part 4. No conditions.
-/
import Derived.Test.YtfkcmflhiccmkaaGreatDoorS3
set_option linter.all false
set_option linter.unusedVariables false
set_option linter.unusedSimpArgs false
namespace Go.Proofs.YtfkcmflhiccmkaaGreatDoor.VM
open Go Go.RowKit
noncomputable section
theorem allB_cons {α:Type} (p:α→Bool) (x:α) (l:List α):allB p (x :: l) = bAnd (p x) (allB p l):=rfl
theorem anyB_cons {α:Type} (p:α→Bool) (x:α) (l:List α):anyB p (x :: l) = bOr (p x) (anyB p l):=rfl
theorem allB_iff {α:Type} {p:α→Bool}:∀ {l:List α},allB p l = true→∀ x ∈ l,p x = true
  | [],_=>fun x h=>by cases h
  | y :: l,h=>fun x hx=>by
    rw [allB_cons,bAnd_eq,Bool.and_eq_true] at h
    rcases List.mem_cons.1 hx with rfl | hx
    · exact h.1
    · exact allB_iff h.2 x hx
theorem anyB_iff {α:Type} {p:α→Bool}:∀ {l:List α},anyB p l = true→∃ x ∈ l,p x = true
  | [],h=>by cases h
  | y :: l,h=>by
    rw [anyB_cons,bOr_eq,Bool.or_eq_true] at h
    rcases h with h | h
    · exact ⟨y,List.mem_cons_self ..,h⟩
    · obtain ⟨x,h1,h2⟩:=anyB_iff h
      exact ⟨x,List.mem_cons_of_mem _ h1,h2⟩
theorem rd1 (m:M) (a:Nat):rd m a 1 = memC m a:=rfl
theorem cellB_cons (L:List Rg) (m:M) (c:Nat) (cs:List Nat) (a:Nat):cellB L m (c :: cs) a = bAnd (bOr (Nat.beq c 0) (bAnd (Nat.ble 1 (phN L a)) (Nat.beq (rd m (phN L a) 1) (rnC L c)))) (cellB L m cs (a + 1)):=rfl
theorem cellB_ok {L:List Rg} {m:M}:∀ {cs:List Nat} {a:Nat},cellB L m cs a = true→∀ i c,cs[i]? = some c→c = 0 ∨ (1 ≤ phN L (a + i)∧memC m (phN L (a + i)) = rnC L c)
  | [],_,_=>fun i c h=>by simp at h
  | x :: cs,a,h=>fun i c hc=>by
    rw [cellB_cons,bAnd_eq,Bool.and_eq_true] at h
    cases i with
    | zero =>
      obtain rfl:x = c:=by simpa using hc
      have h:=h.1
      rw [bOr_eq,Bool.or_eq_true,bAnd_eq,Bool.and_eq_true,beq_iff,beq_iff,ble_iff,rd1] at h
      exact h
    | succ i =>
      have:=cellB_ok h.2 i c (by simpa using hc)
      rw [show a + 1 + i = a + (i + 1) by omega] at this
      exact this
theorem argB_cons (L:List Rg) (C c:Nat) (cs:List Nat) (j:Nat):argB L C (c :: cs) j = bAnd (Nat.beq (fld C j 128) (rnC L c)) (argB L C cs (j + 128)):=rfl
theorem argB_ok {L:List Rg} {C:Nat}:∀ {cs:List Nat} {j:Nat},argB L C cs j = true→∀ i c,cs[i]? = some c→fld C (j + 128 * i) 128 = rnC L c
  | [],_,_=>fun i c h=>by simp at h
  | x :: cs,j,h=>fun i c hc=>by
    rw [argB_cons,bAnd_eq,Bool.and_eq_true] at h
    cases i with
    | zero =>
      obtain rfl:x = c:=by simpa using hc
      exact beq_iff.1 h.1
    | succ i =>
      have:=argB_ok h.2 i c (by simpa using hc)
      rw [show j + 128 + 128 * i = j + 128 * (i + 1) by omega] at this
      exact this
theorem moL_ex {C:Nat} {m:M} {k:List Rg→Bool}:∀ {hi:List Rg} {L0:List Rg},moL C m hi k L0 = true→∃ L,k L = true
  | [],L0,h=>⟨L0,h⟩
  | e :: hi,L0,h=>by
    have e1:moL C m (e :: hi) k L0 = natK (slA (cnd (Nat.ble e.q 63) (fld C (Nat.shiftLeft e.q 7) 128) (rd m (phN L0 (Nat.sub e.q 64)) 1))) (moA e L0 (moL C m hi k)):=rfl
    rw [e1,natK_eq] at h
    exact moL_ex (hi:=hi) h
structure RgOk (e:Rg):Prop where
  p:1 ≤ e.p
  n:1 ≤ e.n
  pn:e.p + e.n ≤ 1048576
  q:1 ≤ e.q % 1048576
  qn:e.q % 1048576 + e.n ≤ 1048576
  qb:e.q + e.n ≤ mB
theorem rgB_ok {e:Rg} (h:rgB e = true):RgOk e:=by
  unfold rgB at h
  simp only [bAnd_eq,Bool.and_eq_true,ble_iff] at h
  exact ⟨h.1,h.2.1,h.2.2.1,h.2.2.2.1,h.2.2.2.2.1,h.2.2.2.2.2⟩
theorem apB_cons (e:Rg) (L:List Rg):apB (e :: L) = bAnd (rgB e) (bAnd (allB (fun d=>bAnd (Nat.ble (Nat.add e.p e.n) d.p) (bOr (Nat.ble (Nat.add e.q e.n) d.q) (Nat.ble (Nat.add d.q d.n) e.q))) L) (apB L)):=rfl
theorem apB_ok {e:Rg} {L:List Rg} (h:apB (e :: L) = true):RgOk e∧(∀ d ∈ L,e.p + e.n ≤ d.p∧(e.q + e.n ≤ d.q ∨ d.q + d.n ≤ e.q))∧apB L = true:=by
  rw [apB_cons,bAnd_eq,Bool.and_eq_true,bAnd_eq,Bool.and_eq_true] at h
  refine ⟨rgB_ok h.1,fun d hd=>?_,h.2.2⟩
  have:=allB_iff h.2.1 d hd
  simp only [bAnd_eq,bOr_eq,Bool.and_eq_true,Bool.or_eq_true,ble_iff] at this
  exact this
theorem apB_mem:∀ {L:List Rg},apB L = true→∀ e ∈ L,RgOk e
  | [],_=>fun e h=>by cases h
  | d :: L,h=>fun e he=>by
    obtain ⟨h1,h2,h3⟩:=apB_ok h
    rcases List.mem_cons.1 he with rfl | he
    · exact h1
    · exact apB_mem h3 e he
theorem phN_cons (e:Rg) (L:List Rg) (a:Nat):phN (e :: L) a = if e.p ≤ a∧a < e.p + e.n then e.q + (a - e.p) else phN L a:=by
  have e1:phN (e :: L) a = cnd (bAnd (Nat.ble e.p a) (Nat.ble (Nat.succ a) (Nat.add e.p e.n))) (Nat.add e.q (Nat.sub a e.p)) (phN L a):=rfl
  rw [e1]
  by_cases h:e.p ≤ a∧a < e.p + e.n
  · have hb : bAnd (Nat.ble e.p a) (Nat.ble (Nat.succ a) (Nat.add e.p e.n)) = true := by
      rw [bAnd_eq,Bool.and_eq_true,ble_iff,ble_iff]; exact ⟨h.1,h.2⟩
    rw [if_pos h,hb]; rfl
  · have hb : bAnd (Nat.ble e.p a) (Nat.ble (Nat.succ a) (Nat.add e.p e.n)) = false := by
      rw [Bool.eq_false_iff]
      intro hb
      rw [bAnd_eq,Bool.and_eq_true,ble_iff,ble_iff] at hb
      exact h ⟨hb.1,hb.2⟩
    rw [if_neg h,hb]; rfl
theorem phN_some:∀ {L:List Rg} {a:Nat},phN L a ≠ 0→∃ e ∈ L,e.p ≤ a∧a < e.p + e.n∧phN L a = e.q + (a - e.p)
  | [],a,h=>absurd rfl h
  | e :: L,a,h=>by
    rw [phN_cons] at h ⊢
    split
    · rename_i hc
      exact ⟨e,List.mem_cons_self ..,hc.1,hc.2,rfl⟩
    · rename_i hc
      rw [if_neg hc] at h
      obtain ⟨d,h1,h2,h3,h4⟩:=phN_some h
      exact ⟨d,List.mem_cons_of_mem _ h1,h2,h3,h4⟩
theorem phN_at:∀ {L:List Rg},apB L = true→∀ e ∈ L,∀ j,j < e.n→phN L (e.p + j) = e.q + j
  | [],_=>fun e h=>by cases h
  | d :: L,h=>fun e he j hj=>by
    obtain ⟨h1,h2,h3⟩:=apB_ok h
    rw [phN_cons]
    rcases List.mem_cons.1 he with rfl | he
    · rw [if_pos (by omega)]; omega
    · have:=(h2 e he).1
      rw [if_neg (by omega)]
      exact phN_at h3 e he j hj
theorem rg_two:∀ {L:List Rg},apB L = true→∀ e ∈ L,∀ d ∈ L,e = d ∨ e.q + e.n ≤ d.q ∨ d.q + d.n ≤ e.q
  | [],_=>fun e h=>by cases h
  | x :: L,h=>fun e he d hd=>by
    obtain ⟨h1,h2,h3⟩:=apB_ok h
    rcases List.mem_cons.1 he with rfl | he
    · rcases List.mem_cons.1 hd with rfl | hd
      · exact .inl rfl
      · exact .inr (h2 d hd).2
    · rcases List.mem_cons.1 hd with rfl | hd
      · exact .inr ((h2 e (by assumption)).2.symm)
      · exact rg_two h3 e he d hd
theorem phN_inj {L:List Rg} (hL:apB L = true) {a a':Nat} (h:phN L a ≠ 0) (e:phN L a = phN L a'):a = a':=by
  obtain ⟨x,h1,h2,h3,h4⟩:=phN_some h
  obtain ⟨y,k1,k2,k3,k4⟩:=phN_some (L:=L) (a:=a') (by rw [← e]; exact h)
  rcases rg_two hL x h1 y k1 with rfl | h5
  · omega
  · omega
theorem phN_lt {L:List Rg} (hL:apB L = true) {a:Nat} (h:phN L a ≠ 0):1 ≤ a∧a < 1048576∧phN L a < mB∧0 < phN L a % 1048576:=by
  obtain ⟨x,h1,h2,h3,h4⟩:=phN_some h
  have ho:=apB_mem hL x h1
  have:=ho.p; have:=ho.pn; have:=ho.q; have:=ho.qn; have:=ho.qb
  omega
def aP (L:List Rg) (α:Al):Al:=fun a=>if phN L a = 0 then none else α (phN L a)
def AP (L:List Rg) (a:Nat):Prop:=phN L a ≠ 0
theorem aP_some {L:List Rg} {α:Al} {a:Nat} {z:Nat × Nat × Nat} (h:aP L α a = some z):phN L a ≠ 0∧α (phN L a) = some z:=by
  unfold aP at h
  split at h
  · cases h
  · rename_i h0; exact ⟨h0,h⟩
theorem slK_pay (c:Nat):pay c = c / 32:=pay_eq c
theorem nr_rn {X X1:Xs} {A:Nat→Prop} {α:Al} {L:List Rg} (hL:apB L = true) {c:Nat} {v:Value} (hc:codeB L c = true) (h:NR X A α (rnC L c) v):NR X1 (AP L) (aP L α) c v:=by
  unfold codeB at hc
  simp only [bOr_eq,bAnd_eq,Bool.or_eq_true,Bool.and_eq_true,beq_iff] at hc
  have hn:tag c ≠ 7→rnC L c = c:=fun h7=>by
    unfold rnC
    have:Nat.beq (tag c) 7 = false:=by
      rw [Bool.eq_false_iff]; intro hb; exact h7 (beq_iff.1 hb)
    rw [this]; rfl
  rcases hc with rfl | h25 | h23 | ⟨h7,he,hg⟩
  · exact .junk v
  · rw [hn (by omega)] at h
    obtain ⟨p,hp,e1,e2⟩:=h.int_inv (k:=.u8) h25
    rw [e1,e2]; exact .int hp
  · rw [hn (by omega)] at h
    obtain ⟨p,hp,e1,e2⟩:=h.int_inv (k:=.i64) h23
    rw [e1,e2]; exact .int hp
  · obtain ⟨e,hm,hg⟩:=anyB_iff hg
    simp only [bAnd_eq,Bool.and_eq_true,beq_iff] at hg
    obtain ⟨g1,g2⟩:=hg
    have g2:e.n = slCap c * (pay c % 256):=g2
    have ho:=apB_mem hL e hm
    have hph:phN L (slA c) = e.q:=by
      have:=phN_at hL e hm 0 ho.n
      rw [Nat.add_zero,Nat.add_zero,g1] at this
      exact this
    have hrn:rnC L c = mkSl (pay c % 256) (slEx c) e.q (slLen c) (slCap c):=by
      unfold rnC
      rw [beq_iff.2 h7]
      show mkSl _ _ (phN L (slA c)) _ _ = _
      rw [hph]; rfl
    rw [hrn] at h
    have hk:pay c % 256 < 256:=Nat.mod_lt _ (by decide)
    have hex:slEx c < 2:=Nat.mod_lt _ (by decide)
    have hln:slLen c < 2 ^ 24:=Nat.mod_lt _ (by decide)
    have hqb:=ho.qb
    have hmB:mB = 140737488355328:=rfl
    have hq:e.q < 2 ^ 48:=by omega
    have ht:tag (mkSl (pay c % 256) (slEx c) e.q (slLen c) (slCap c)) = 7:=by rw [tag_eq,mkSl_eq]; omega
    obtain ⟨k,ex,a,len,cap,b,o,c0,e1,e2,i1,i2,i3,i4,i5,i6,i7,i8,i9,i10,i11,i12⟩:=h.sl_inv ht
    have ha48:a < 2 ^ 48:=by omega
    have hl24:len < 2 ^ 24:=by omega
    have q1:=congrArg slA e1; rw [slA_mk hk hex hq hln,slA_mk i3 i4 ha48 hl24] at q1
    have q2:=congrArg slLen e1; rw [slLen_mk hk hex hq hln,slLen_mk i3 i4 ha48 hl24] at q2
    have q3:=congrArg slCap e1; rw [slCap_mk hk hex hq hln,slCap_mk i3 i4 ha48 hl24] at q3
    have q4:=congrArg slEx e1; rw [slEx_mk hk hex,slEx_mk i3 i4] at q4
    have q5:=congrArg (fun x=>x / 32 % 256) e1
    simp only [slK_mk hk,slK_mk i3] at q5
    subst q1 q2 q3 q4 q5
    have hat:∀ j,j < slCap c * (pay c % 256)→phN L (slA c + j) = e.q + j:=fun j hj=>by
      rw [← g1]; exact phN_at hL e hm j (by rw [g2]; exact hj)
    have hpos:0 < e.q:=by have:=ho.q; omega
    have hv:v = .slice (some ⟨b,o,none⟩) (slLen c) c0:=e2
    rw [hv]
    have he:c = mkSl (pay c % 256) (slEx c) (slA c) (slLen c) (slCap c):=he
    have h1:=ho.p; have h2:=ho.pn
    rw [g1,g2] at h2
    rw [g1] at h1
    have hp:slA c % 1048576 = slA c:=Nat.mod_eq_of_lt (by have:=ho.n; omega)
    refine (fun key:NR X1 (AP L) (aP L α) (mkSl (pay c % 256) (slEx c) (slA c) (slLen c) (slCap c)) (.slice (some ⟨b,o,none⟩) (slLen c) c0)=>?_) ?_
    · rw [← he] at key; exact key
    refine .sl (by rw [hp]; exact h2) (fun _=>by rw [hp]; exact h1) hk hex (by omega) i6 i7 i8 i9 (fun j hj=>?_) (fun j hj z hz=>?_) (fun e0 z h0 hz=>?_)
    · show phN L (slA c + j) ≠ 0
      rw [hat j hj]; omega
    · have:=(aP_some hz).2
      rw [hat j hj] at this
      exact i11 j hj z this
    · have:=(aP_some hz).2
      rw [hat _ (by omega)] at this
      exact i12 e0 z h0 this
theorem code_odd {L:List Rg} {c:Nat} (hc:codeB L c = true) (h0:c ≠ 0):c % 2 = 1∧rnC L c % 2 = 1:=by
  unfold codeB at hc
  simp only [bOr_eq,bAnd_eq,Bool.or_eq_true,Bool.and_eq_true,beq_iff] at hc
  have hn:tag c ≠ 7→rnC L c = c:=fun h7=>by
    unfold rnC
    have:Nat.beq (tag c) 7 = false:=by
      rw [Bool.eq_false_iff]; intro hb; exact h7 (beq_iff.1 hb)
    rw [this]; rfl
  rcases hc with h | h | h | ⟨h,_⟩
  · exact absurd h h0
  · rw [hn (by omega)]; rw [tag_eq] at h; omega
  · rw [hn (by omega)]; rw [tag_eq] at h; omega
  · have : rnC L c = mkSl (Nat.mod (pay c) 256) (slEx c) (phN L (slA c)) (slLen c) (slCap c) := by
      unfold rnC
      rw [beq_iff.2 h]; rfl
    rw [this,mkSl_eq]; rw [tag_eq] at h; omega
theorem rel_mo {lk lk1 : Lk} {X X1 : Xs} {E B B1 : Nat} {D D1 A : Nat → Prop} {α : Al} {m m1 : M} {w : World} {L : List Rg} {cs : List Nat} (hr : Rel lk X E B D A α m w) (hD : ∀ a, D a) (hL : apB L = true) (hcs : cellB L m cs 1 = true) (hco : allB (codeB L) cs = true)
    (hx:XLe m1.x X1) (hnm:m1.x.nm = 0) (hnl:m1.x.nl = 0) (hm:∀ a,0 < a % 1048576→memC m1 a ≠ 0→∃ i,a = 1 + i∧cs[i]? = some (memC m1 a)):Rel lk1 X1 1048576 B1 D1 (AP L) (aP L α) m1 w:=by
  refine ⟨hx,fun a _ _ h3 h4=>?_,fun i hi=>by omega,fun i hi=>by omega,fun a z h=>(aP_some h).1,fun a a' b o l l' h h'=>?_,fun a b o l h=>hr.lt _ b o l (aP_some h).2,fun a b o r h a' o' l' h'=>hr.last _ b o r (aP_some h).2 _ o' l' (aP_some h').2,fun a b o r h=>hr.room _ b o r (aP_some h).2,fun a b o l h hE=>?_,fun a b o l h=>?_⟩
  · obtain ⟨i,rfl,hi⟩:=hm a h3 h4
    have hmem:=List.mem_of_getElem? hi
    have hc:=allB_iff hco _ hmem
    obtain ⟨o1,o2⟩:=code_odd hc h4
    rcases cellB_ok hcs i _ hi with h0 | ⟨g1,g2⟩
    · exact absurd h0 h4
    · have hne:phN L (1 + i) ≠ 0:=by omega
      obtain ⟨k1,k2,k3,k4⟩:=phN_lt hL hne
      obtain ⟨b,o,l,v,e1,e2,e3,_,e5⟩:=hr.cell (phN L (1 + i)) (hD _) k3 k4 (by rw [g2]; omega)
      rw [g2] at e5
      exact ⟨b,o,l,v,by unfold aP; rw [if_neg hne]; exact e1,e2,e3,o1,nr_rn hL hc e5⟩
  · exact phN_inj hL (aP_some h).1 (hr.inj _ _ b o l l' (aP_some h).2 (aP_some h').2)
  · have:=phN_lt hL (aP_some h).1
    omega
  · have hp:=phN_lt hL (aP_some h).1
    have hk:=hr.kd _ b o l (aP_some h).2
    have hmB:mB = 140737488355328:=rfl
    exact ⟨fun _=>hk.1 hp.2.2.1,fun h2=>by omega⟩
theorem cellsN_get:∀ {l:List Nat},(∀ x ∈ l,x < 2 ^ 128)→∀ i,fld (cellsN l) (128 * i) 128 = (l[i]?).getD 0
  | [],_=>fun i=>by
    show fld 0 (128 * i) 128 = _
    rw [fld_eq]; simp
  | c :: l,h=>fun i=>by
    have hc:=h c (List.mem_cons_self ..)
    have e:cellsN (c :: l) = c + cellsN l * 2 ^ 128:=by
      show c + Nat.shiftLeft (cellsN l) 128 = _
      rw [shl_eq]
    rw [e,fld_eq]
    cases i with
    | zero =>
      rw [Nat.mul_zero,Nat.pow_zero,Nat.div_one,Nat.add_mul_mod_self_right,Nat.mod_eq_of_lt hc]; rfl
    | succ i =>
      have:=cellsN_get (fun x hx=>h x (List.mem_cons_of_mem _ hx)) i
      rw [fld_eq] at this
      rw [show 128 * (i + 1) = 128 + 128 * i by omega,Nat.pow_add,← Nat.div_div_eq_div_mul,Nat.add_mul_div_right _ _ (Nat.two_pow_pos 128),Nat.div_eq_of_lt hc,Nat.zero_add,this]
      rfl
theorem memC_mA (ns:Nat) (st:Tr Nat) (p a:Nat):memC (mA ns st p) a = if a < 1048576 then fld p (128 * a) 128 else 0:=by
  have hb:pgOf (mA ns st p).brk = 1:=by rw [pgOf_eq]; show 1048577 / 1048576 = 1; decide
  by_cases h1:pgOf a = 1
  · rw [memC_brk (h1.trans hb.symm)]
    rw [pgOf_eq] at h1
    rw [if_neg (by omega)]
    exact fld_big (Nat.two_pow_pos _)
  · rw [memC_old (by rw [hb]; exact h1)]
    rw [pgOf_eq] at h1 ⊢
    by_cases h:a < 1048576
    · rw [if_pos h,Nat.div_eq_of_lt h]
      have:pOff a = 128 * a:=by
        show Nat.shiftLeft (Nat.mod a 1048576) 7 = _
        rw [shl_eq,show Nat.mod a 1048576 = a from Nat.mod_eq_of_lt h]; omega
      rw [this]; rfl
    · rw [if_neg h]
      obtain ⟨j,hj⟩:∃ j,a / 1048576 = j + 1:=⟨a / 1048576 - 1,by omega⟩
      rw [hj]
      have:tget 0 (mA ns st p).pg (j + 1) = 0:=by
        show tget 0 (.node .nil p .nil) (j + 1) = 0
        rw [tget_succ]; split <;> rfl
      rw [this]
      exact fld_big (Nat.two_pow_pos _)
theorem wf_mA {ns:Nat} {st:Tr Nat} {p:Nat} (h:ns ≤ 549755813888):Wf (mA ns st p):=by
  refine ⟨Nat.two_pow_pos _,show 0 < 1048577 % 1048576 by decide,show 1048577 ≤ 140737488355328 by decide,fun b hb _=>?_,⟨fun i hi=>?_,fun i hi=>?_,fun i _=>rfl,fun i hi=>?_,h,Nat.zero_le _,Nat.zero_le _,Nat.zero_le _⟩,Nat.zero_le _⟩
  · have hb:1048577 ≤ b:=hb
    rw [memC_mA,if_neg (by omega)]
  all_goals exact absurd hi (Nat.not_lt_zero i)
theorem so_one:∀ {ks:List Sk} {j:Nat},(∀ k ∈ ks,k = .one)→j ≤ ks.length→so ks j = j
  | [], j, _, h => by obtain rfl : j = 0 := by simpa using h
                      rfl
  | k :: ks,0,_,_=>rfl
  | k :: ks,j + 1,h,hj=>by
    show k.w + so ks j = j + 1
    rw [h k (List.mem_cons_self ..),so_one (fun x hx=>h x (List.mem_cons_of_mem _ hx)) (by simpa using hj)]
    show 1 + j = j + 1
    omega
theorem prt_ones {ks:List Sk} {C j:Nat} {k:Sk} (h:∀ k ∈ ks,k = .one) (hj:ks[j]? = some k):prt ks C j = fld C (128 * j) 128:=by
  have hlt:=(List.getElem?_eq_some_iff.1 hj).1
  have hk:=h k (List.mem_of_getElem? hj)
  unfold prt
  rw [hj,so_one h (Nat.le_of_lt hlt),hk]; rfl
structure MoR (v:Env) (f n ns:Nat) (st:Tr Nat) (d:Mo):Prop where
  len:d.as.length = n
  lt:allB (fun x=>Nat.ble (Nat.succ x) (Nat.pow 2 128)) (d.as ++ d.cs) = true
  run:∃ mE,v.call f (cellsN d.as) (mA ns st (cellsN (0 :: d.cs))) endK = .ok .nrm 35 mE
section
variable {c:Cx} {sig:FuncId→Option Sg} {nsg:Nat→Option (FuncId × Sg)}
theorem hand_memo {f : FuncId} {s : Sg} (ent : EntP c.P f) (hsig : sig f = some s) (h1 : ∀ k ∈ s.ks, k = .one) (hkr : s.kr = .s .one) {lk : Lk} {ns : Nat} {st : Tr Nat} (hns : ns ≤ 549755813888) {v1 : Env} (hv : ∀ B, EnvOk ⟨c.P, lk, B, cxS ns st, false⟩ sig nsg v1)
    {ds:List Mo} (hd:∀ d ∈ ds,MoR v1 f s.ks.length ns st d):HandS c sig nsg f s 1 (memS ds):=by
  refine ⟨fun k hk=>by rw [h1 k hk]; decide,by rw [hkr]; trivial,ent,fun s' h'=>by rw [hsig] at h'; cases h'; rfl,fun v n C m _ hC hok=>?_⟩
  obtain ⟨hb,_,e1⟩:=ok_if (r:=hEnd 35 m) hok
  rw [bAnd_eq,Bool.and_eq_true,beq_iff] at hb
  obtain ⟨hwm,hb⟩:=hb
  obtain ⟨d,hmem,hb⟩:=anyB_iff hb
  obtain ⟨L,hb⟩:=moL_ex (hi:=d.hi) hb
  unfold moT at hb
  simp only [bAnd_eq,Bool.and_eq_true] at hb
  obtain ⟨hb1,hb2,hb3,hb4,hb5⟩:=hb
  obtain ⟨hlen,hlt,mE,hrun⟩:=hd d hmem
  have hlt:∀ x ∈ d.as ++ d.cs,x < 2 ^ 128:=fun x hx=>ble_iff.1 (allB_iff hlt x hx)
  refine ⟨35,m,e1,by decide,⟨GLe.refl _,Nat.le_refl _,XtLe.refl _⟩,?_⟩
  intro F X A α w args hFf hFd hX hL hc hw ha hr hn hB R hR
  have hC1:cellsN d.as < 2 ^ (128 * ws s.ks):=by
    have hws:∀ {ks:List Sk},(∀ k ∈ ks,k = .one)→ws ks = ks.length:=by
      intro ks
      induction ks with
      | nil=>intro _; rfl
      | cons k ks ih =>
        intro h
        show k.w + ws ks = ks.length + 1
        rw [h k (List.mem_cons_self ..),ih fun x hx=>h x (List.mem_cons_of_mem _ hx)]
        show 1 + ks.length = _; omega
    have hcl:∀ {l:List Nat},(∀ x ∈ l,x < 2 ^ 128)→cellsN l < 2 ^ (128 * l.length):=by
      intro l
      induction l with
      | nil=>intro _; exact Nat.two_pow_pos _
      | cons x l ih =>
        intro h
        have h1:=h x (List.mem_cons_self ..)
        have h2:=ih fun y hy=>h y (List.mem_cons_of_mem _ hy)
        have e:cellsN (x :: l) = x + cellsN l * 2 ^ 128:=by
          show x + Nat.shiftLeft (cellsN l) 128 = _
          rw [shl_eq]
        rw [e,List.length_cons,show 128 * (l.length + 1) = 128 * l.length + 128 by omega,Nat.pow_add]
        have:=Nat.mul_le_mul_right (2 ^ 128) (Nat.succ_le_of_lt h2)
        rw [Nat.succ_mul] at this
        omega
    rw [hws h1,← hlen]
    exact hcl fun x hx=>hlt x (List.mem_append.2 (.inl hx))
  obtain ⟨m',hl,hst,g⟩:=run_call (hv w.heap.size) hsig hC1 hrun
  have hX1:XLe m'.x ⟨strS m'.x,cloS m'.x⟩:=⟨fun _ _=>rfl,fun _ _=>rfl⟩
  rw [hkr] at g
  refine g F ⟨strS m'.x,cloS m'.x⟩ (AP L) (aP L α) w args hFf hFd hX1 hl (fun i hi=>hst.x.str i hi) (wf_mA hns) ⟨ha.1,fun j k hj=>?_⟩ ?_ (fun x hx hA=>?_) (Nat.le_refl _) R fun u A' α' w' _ hu _ hS=>?_
  · have hk:=h1 k (List.mem_of_getElem? hj)
    have h2:=ha.2 j k hj
    rw [prt_ones h1 hj] at h2 ⊢
    subst hk
    have h2:NR X A α (fld C (128 * j) 128) (args.getD j undef):=h2
    have hlj:j < d.as.length:=by rw [hlen]; exact (List.getElem?_eq_some_iff.1 hj).1
    have hj2:d.as[j]? = some d.as[j]:=List.getElem?_eq_getElem hlj
    have h3:=argB_ok hb1 j _ hj2
    rw [Nat.zero_add] at h3
    rw [h3] at h2
    show NR _ _ _ (fld (cellsN d.as) (128 * j) 128) _
    rw [cellsN_get (fun x hx=>hlt x (List.mem_append.2 (.inl hx))),hj2]
    exact nr_rn hb2 (allB_iff hb3 _ (List.getElem_mem hlj)) h2
  · refine rel_mo (cs:=d.cs) hr (fun a=>.inl hwm) hb2 hb5 hb4 (hX1.back hst.x) rfl rfl fun a h0 hne=>?_
    rw [memC_mA] at hne ⊢
    by_cases h:a < 1048576
    · rw [if_pos h] at hne ⊢
      have hz:∀ x ∈ (0 :: d.cs),x < 2 ^ 128:=fun x hx=>by
        rcases List.mem_cons.1 hx with rfl | hx
        · exact Nat.two_pow_pos _
        · exact hlt x (List.mem_append.2 (.inr hx))
      rw [cellsN_get hz] at hne ⊢
      obtain ⟨i,rfl⟩:∃ i,a = 1 + i:=⟨a - 1,by omega⟩
      refine ⟨i,rfl,?_⟩
      rw [show 1 + i = i + 1 by omega,List.getElem?_cons_succ] at hne ⊢
      cases hx:d.cs[i]? with
      | none=>rw [hx] at hne; exact absurd rfl hne
      | some y=>rfl
    · rw [if_neg h] at hne; exact absurd rfl hne
  · have hp:=phN_lt hb2 hA
    have hmB:mB = 140737488355328:=rfl
    have hlB:lB = 211106232532992:=rfl
    have hrB:rB = 246290604621824:=rfl
    have hbrk:(mA ns st (cellsN (0 :: d.cs))).brk = 1048577:=rfl
    unfold News at hx
    rw [hbrk] at hx
    omega
  · have hu:NR ⟨strS m'.x,cloS m'.x⟩ A' α' 35 u:=hu
    have q:Quiet w w':=⟨hS.os,hS.output,hS.size,hS.elder⟩
    rw [hu.true_inv]
    refine hR _ A α w' ⟨hw,fun _ _ _ _=>rfl,fun _ _ _=>rfl,fun _ _ _=>rfl,fun a h _=>absurd h (news_self m a)⟩ ?_ (hr.quiet q) (stp_quiet hB hr.lt (news_self m) q)
    rw [hkr]
    exact NR.bool true
end
end
end Go.Proofs.YtfkcmflhiccmkaaGreatDoor.VM
