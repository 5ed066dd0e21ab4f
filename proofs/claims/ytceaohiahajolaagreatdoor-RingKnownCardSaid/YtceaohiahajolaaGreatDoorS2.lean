/-
  The machine against the model, part 2. No conditions.
-/
import Derived.Test.YtceaohiahajolaaGreatDoorS1
import Derived.Lib.ConvBytes
import Derived.Lib.SliceRun
import Derived.RangeFuncRecord
import Derived.ChangeKeysEq
set_option linter.all false
set_option linter.unusedVariables false
set_option linter.unusedSimpArgs false
namespace Go.Proofs.YtceaohiahajolaaGreatDoor.VM
open Go Go.RowKit
variable {c:Cx}
section
variable {w:World} {b n:Nat}
theorem freeze_heap (ad : Nat) : (w.freeze ⟨b, n, none⟩ 1).heap[ad]? = if ad = b then (w.heap[b]?).map fun
      | .cells c elem (lo,hi)=>.cells c elem (if lo == hi then (n,n+1) else (min lo n,max hi (n+1)))
      | o=>o else w.heap[ad]?:=by
  unfold World.freeze
  rw [if_neg (by decide)]
  show (w.heap.modify b _)[ad]?=_
  rw [Array.getElem?_modify]
  by_cases h:b=ad
  · subst h;rw [if_pos rfl,if_pos rfl];rfl
  · rw [if_neg h,if_neg (Ne.symm h)]
theorem freeze_size:(w.freeze ⟨b,n,none⟩ 1).heap.size=w.heap.size:=by
 unfold World.freeze
 rw [if_neg (by decide)]
 exact Array.size_modify ..
theorem freeze_os:(w.freeze ⟨b,n,none⟩ 1).os=w.os∧(w.freeze ⟨b,n,none⟩ 1).output=w.output:=by
 unfold World.freeze
 rw [if_neg (by decide)]
 exact ⟨rfl,rfl⟩
theorem freeze_cell? (ad:Addr):(w.freeze ⟨b,n,none⟩ 1).cell? ad=w.cell? ad:=by
 unfold World.cell?
 rw [freeze_heap]
 by_cases h:ad.block=b
 · rw [if_pos h,h]
   cases hx:w.heap[b]? with
   | none=>rfl
   | some ob=>cases ob <;> rfl
 · rw [if_neg h]
theorem freeze_fz {cs:Array Value} {t:TypeId} {f:Nat × Nat} (hb:w.heap[b]?=some (.cells cs t f)) (hn:cs.size=n) (hz:fz w ⟨b,0,none⟩=false) (ad:Addr):fz (w.freeze ⟨b,n,none⟩ 1) ad=fz w ad:=by
 by_cases h:ad.block=b
 · have e1 : fz w ad = false := by
     unfold fz at hz ⊢
     rw [h];exact hz
   rw [e1]
   unfold fz at hz ⊢
   rw [freeze_heap,if_pos h,hb]
   obtain ⟨lo,hi⟩:=f
   simp only [hb,Bool.not_eq_false',Bool.or_eq_true,beq_iff_eq,decide_eq_true_eq] at hz
   simp only [Option.map_some]
   subst hn
   by_cases he:lo=hi
   · simp [he]
   · have hlo:cs.size≤lo:=by omega
     simp [he]
     omega
 · unfold fz
   rw [freeze_heap,if_neg h]
theorem freeze_isC (k:Nat):isC (w.freeze ⟨b,n,none⟩ 1) k↔isC w k:=by
 unfold isC
 rw [freeze_heap]
 by_cases h:k=b
 · subst h
   rw [if_pos rfl]
   cases hx:w.heap[k]? with
   | none=>simp
   | some ob=>cases ob <;> simp
 · rw [if_neg h]
variable {lk:Lk} {X:Xs} {E B:Nat} {D A:Nat→Prop} {α:Al} {m m':M}
theorem rel_mark (h : Rel lk X E B D A α m w) {cs : Array Value} {t : TypeId} {f : Nat × Nat} (hb : w.heap[b]? = some (.cells cs t f)) (hn : cs.size = n) (hz : fz w ⟨b, 0, none⟩ = false) (hB : B ≤ b) :
    Rel lk X E B D A α m (w.freeze ⟨b,n,none⟩ 1)∧Stp B (fun _=>False) (fun _=>False) A α w A α (w.freeze ⟨b,n,none⟩ 1):=by
  have hc:=fun ad=>freeze_cell? (w:=w) (b:=b) (n:=n) ad
  have hf:=freeze_fz hb hn hz
  have hh:∀ k,k≠b→(w.freeze ⟨b,n,none⟩ 1).heap[k]?=w.heap[k]?:=fun k hk=>by rw [freeze_heap,if_neg hk]
  have hnc:∀ k,(∀ c t f,w.heap[k]?≠some (.cells c t f))→k≠b:=fun k hk e=>by subst e;exact hk _ _ _ hb
  have hs:=freeze_size (w:=w) (b:=b) (n:=n)
  refine ⟨⟨h.x,fun a h1 h2 h3 h4=>(h.cell a h1 h2 h3 h4).keep (AStep.refl _ _) rfl fun b0 o0 _ _=>⟨hc _,hf _⟩,fun i hi hd=>(h.map i hi hd).keep (AStep.refl _ _) rfl fun b0 _ hk=>hh _ (hnc b0 hk),fun i hi hd=>(h.loop i hi hd).keep (AStep.refl _ _) rfl fun b0 _ hk=>hh _ (hnc b0 hk),h.dom,h.inj,fun a b0 o0 l0 ha=>by rw [hs];exact h.lt a b0 o0 l0 ha,h.last,fun a b0 o0 r0 ha j hj=>by rw [hc,hf];exact h.room a b0 o0 r0 ha j hj,h.own,fun a b0 o0 l0 ha=>by rw [freeze_isC];exact h.kd a b0 o0 l0 ha⟩,
    ⟨freeze_os.1,freeze_os.2,Nat.le_of_eq hs.symm,fun a=>by simp,fun a _=>.inl rfl,fun a b0 o0 l0 _ _ _=>⟨hc _,hf _,fun hk=>hh _ (hnc b0 hk)⟩,fun k hk=>hh _ (by omega),fun b0 o0 hk=>by rw [hc,hf];exact ⟨hk,rfl⟩,fun a0 b0 o0 l0 h1 _ h3=>⟨h3,hh b0 (hnc b0 fun x t f e=>((h.kd a0 b0 o0 l0 h3).2 (by unfold rB at h1;unfold mB;omega)).2.2 ⟨x,t,f,e⟩)⟩⟩⟩
end
section
variable {d:Option Tmp} {ty:TypeId} {pos:String} {af:Array Edge} {g:Option (Nat × Bool)} {v:Env} {x y:Operand} {a b:O}
theorem run_mark {P : Program} {w : World} {t e : TypeId} {bb o l cc : Nat} {cs : Array Value} {t' : TypeId} {f : Nat × Nat} (ht : P.underlying t = some (.slice e)) (he : P.underlying e = some (.int .u8)) (hb : w.heap[bb]? = some (.cells cs t' f)) :
    (convert t t (.slice (some ⟨bb,o,none⟩) l cc)).run P w=.ok (.slice (some ⟨bb,o,none⟩) l cc) (w.freeze ⟨bb,cs.size,none⟩ 1):=by
  have hsh:w.shape? bb=some (t',cs.size):=by unfold World.shape?;rw [hb]
  simp [convert,run_underlying ht,run_underlying he,markStringish,hsh]
theorem st_mrk {t e:TypeId} (ht:c.P.underlying t=some (.slice e)) (he:c.P.underlying e=some (.int .u8)):StOk c ⟨d,.convert t t x,ty,pos,af,g⟩ (R1 x a) (.s .one) v (s_mrk a):=by
 intro F m kk hok
 obtain ⟨hsl,hok,e1⟩:=ok_if (r:=mrk0 (a F) m kk) hok
 obtain ⟨m',e2,hs,hcv⟩:=rlog_eq m (a:=slA (a F)) (n:=1) (Nat.mod_lt _ (by decide)) (mrk1 (a F) kk)
 have e2:mrk0 (a F) m kk=mrk1 (a F) kk m':=e2
 rw [e2] at hok
 obtain ⟨hl,_,e3⟩:=ok_if (r:=kk (a F) m') hok
 simp only [bAnd_eq,Bool.and_eq_true,ble_iff] at hl
 refine ⟨_,m',Eq.trans e1 (Eq.trans e2 e3),hs.step,?_⟩
 intro zc X A α act w hX hL hc hw hR hr hnew hB K Q hK
 obtain ⟨b0,o,c0,r⟩:=slR_of (by decide) hR hsl
 have hqp:=r.pg
 have hqb:=r.hb
 have hq0:=r.h0
 obtain ⟨f,hf⟩:=rd_cells (hr.log hs) (a:=slA (a F)) (n:=1) (b:=b0) (o:=o) (by unfold InPg;omega) (fun h=>hq0 (by omega)) (by omega) (fun j hj=>r.ha j (by omega)) hl.1 (fun j hj hlt=>hcv j hj hlt)
 obtain ⟨⟨l0,hα⟩,hcell,hfz,_⟩:=hf 0 (by decide)
 obtain ⟨cs,t',f',hb⟩:=cells_of (w:=w) (b:=b0) (o:=o) (by rw [Nat.add_zero] at hcell;rw [hcell];rfl)
 have hB0:c.B≤b0:=hr.own _ _ _ _ hα (by have:=hl.2.1;omega)
 obtain ⟨hr',hst⟩:=rel_mark (n:=cs.size) (hr.log hs) hb rfl hfz hB0
 refine ⟨fun f _=>zc.hF f,?_⟩
 rw [Oper.semAt_eq _ _ _ (fun _ h=>by cases h)]
 have hrun:=run_mark (P:=c.P) (o:=o) (l:=slLen (a F)) (cc:=c0) ht he hb
 unfold execOp
 simp only [Sem.run_bind,r.val,hrun]
 refine hK _ A α _ (hs.sem hw) (by have:=hR;exact (by rw [← r.val];exact hR)) hr' (hst.weak (fun _ h=>h.elim) fun y=>⟨fun h=>h.elim,fun h=>News.same hs.brk hs.x y h⟩)
theorem st_s2b {s t e:TypeId} (hs:c.P.underlying s=some .string) (ht:c.P.underlying t=some (.slice e)) (he:c.P.underlying e=some (.int .u8)):StOk c ⟨d,.convert s t x,ty,pos,af,g⟩ (R1 x a) (.s .one) v (s_s2b a):=by
 intro F m kk hok
 obtain ⟨hst,hok,e1⟩:=ok_if (r:=sb0 (a F) m kk) hok
 have e2:sb0 (a F) m kk=alc m (stLen (a F)) (cellsOf (strB m (a F)) (stLen (a F))) (slK 1 0 (stLen (a F)) (stLen (a F)) kk):=natK_eq _ _
 rw [e2] at hok
 obtain ⟨p,m',e3,hx,hg,hbk,hm⟩:=alc_eq _ hok
 have e4:slK 1 0 (stLen (a F)) (stLen (a F)) kk p m'=kk (mkSl 1 0 p (stLen (a F)) (stLen (a F))) m':=natK_eq _ _
 refine ⟨_,m',Eq.trans e1 (Eq.trans e2 (Eq.trans e3 e4)),mstep_alc (SameM.refl m) hx hg hbk,?_⟩
 intro zc X A α act w hX hL hc hw hR hr hnew hB K Q hK
 obtain ⟨a1,a2⟩:=str_of hR hst (by rw [← hx];exact hX)
 generalize hlen:stLen (a F)=len at *
 generalize hby:strB m (a F)=by' at *
 have hal:=hm hw (cellsOf_lt _ _)
 have hcs:=cellsOf_cs (X:=X) (A:=A) (α:=α) by' len
 have hsz:=size_strOf by' len
 have hge:=grownCap_ge w len 0 e
 have hbrk:∀ x,(m.brk≤x∧x<m'.brk)↔News m m' x:=fun x=>by unfold News;rw [hx];omega
 have hle:p+len≤mB:=by have:=hal.brk;have:m'.brk≤mB:=hal.wf.brk;omega
 obtain ⟨h1,h2⟩:=rel_alloc (h:=hr.drew) hw (t:=e) (more:=Array.replicate (grownCap w len 0 e - len) (Value.int .u8 0)) (lst:=(grownCap w len 0 e - len)*1+1) (.inr (by rw [Array.size_replicate];omega)) hal hB hle (fun x h1 h2=>hnew x ((hbrk x).1 ⟨h1,h2⟩)) hcs
 have hnb:(w.drew.alloc (.cells (u8s (strOf by' len)++Array.replicate (grownCap w len 0 e - len) (Value.int .u8 0)) e)).heap[w.heap.size]?=some (.cells (u8s (strOf by' len)++Array.replicate (grownCap w len 0 e - len) (Value.int .u8 0)) e):=(MapKept.heap_alloc w.drew _).1
 obtain ⟨h3,h4⟩:=rel_mark h1 hnb rfl (by unfold fz;rw [hnb];rfl) hB
 have hms:MSem m m':=⟨hal.wf,fun x h0 h1 _=>by rw [hal.mem x h0,if_neg (by have:=hal.ge;omega)],fun i _ _=>by rw [hx],fun i _ _=>by rw [hx],fun a hn _=>.inr (.inl ⟨by have h1:=((hbrk a).2 hn).1;have h2:=hw.wm;rw [hg];omega,((hbrk a).2 hn).2⟩)⟩
 refine ⟨fun f _=>zc.hF f,?_⟩
 rw [Oper.semAt_eq _ _ _ (fun _ h=>by cases h)]
 have hrun:=Lib.run_convert_string_bytes (P:=c.P) w s t e (strOf by' len) hs ht he
 rw [hsz] at hrun
 unfold execOp
 simp only [Sem.run_bind,a1,hrun]
 have hw2:Lib.bytesWorld w e (strOf by' len)=(w.drew.alloc (.cells (u8s (strOf by' len)++Array.replicate (grownCap w len 0 e - len) (Value.int .u8 0)) e)).freeze ⟨w.heap.size,(u8s (strOf by' len)++Array.replicate (grownCap w len 0 e - len) (Value.int .u8 0)).size,none⟩ 1:=by
   unfold Lib.bytesWorld Lib.bytesCells
   rw [hsz];rfl
 rw [hw2]
 have hst2:=h2.trans h4
 refine hK _ (fun x=>A x∨(m.brk≤x∧x<m'.brk)) (alP α p len w.heap.size ((grownCap w len 0 e - len)*1+1)) _ hms ?_ h3 ⟨hst2.os,hst2.output,hst2.size,fun x=>?_,fun x hx=>.inl ((hst2.keep x hx).elim id fun h=>(h.1.elim id id).elim),fun x b o l k1 k2 _=>hst2.cells x b o l k1 k2 (fun h=>(h.elim id id).elim),hst2.elder,hst2.shape,hst2.fix⟩
 rotate_left
 · rw [← hbrk]
 have h24:len<2 ^ 24:=by have h5:=hal.pg;unfold InPg at h5;omega
 have hal1:AlM m (len*1) (cellsOf by' len) p m':=by rw [Nat.mul_one];exact hal
 have:=nr_newSl (X:=X) (A:=A) (α:=α) (b:=w.heap.size) (c0:=grownCap w len 0 e) (ex:=0) (lst:=(grownCap w len 0 e - len)*1+1) (len:=len) hal1 (by decide) (Nat.le_refl _) hge h24 (by decide) (fun h=>by cases h) (fun _=>rfl)
 rw [Nat.mul_one len] at this
 exact this
theorem zc_cells {zs:Array Value} {n k:Nat} (hk:zs.size=k):Builtin.zeroCells zs n=madeCells zs (n*k):=by
 unfold Builtin.zeroCells madeCells
 rw [hk]
theorem st_clr {t e : TypeId} {n z : Nat} {i : TypeInfo} {u : Value} (ht : c.P.underlying t = some (.slice e)) (hz : ZC c e n z i u) (hn : n < 256) (h0 : 0 < n) :
    StOk c ⟨d,.call { callee:=.builtin .clear,args:=#[x],argTypes:=#[t] },ty,pos,af,g⟩ (R1 x a) (.s .one) v (s_clr n z a):=by
  intro F m kk hok
  have hres:∀ (act:Act) (w:World) (w':World),(Builtin.clear_ #[t] ty #[act.eval x]).run c.P w=.ok (.tuple #[]) w'→(execOp act.eval ⟨d,.call { callee:=.builtin .clear,args:=#[x],argTypes:=#[t] },ty,pos,af,g⟩).run c.P w=.ok (.value undef) w':=fun act w w' h=>by
    unfold execOp
    simp only [resolve,invoke,builtin,Sem.run_bind,Sem.run_pure,Result.andThen_ok,List.map_toArray,List.map_cons,List.map_nil,h]
    rfl
  by_cases h33:a F=33
  · have e1 : s_clr n z a v F m kk = kk 2 m := by
      show Bool.rec (motive:=fun _=>Rs) _ _ (Nat.beq (a F) 33)=_
      rw [h33];rfl
    rw [e1] at hok ⊢
    refine ⟨_,m,rfl,MStep.refl m,ops_value (SameM.refl m) fun X A α act w _ hc hR _=>⟨noDefer rfl,undef,hres act w w ?_,NR.und⟩⟩
    rw [hR.nilS_inv h33]
    simp [Builtin.clear_,run_underlying ht]
  · have e1 : s_clr n z a v F m kk = cl0 n z (a F) m kk := by
      show Bool.rec (motive:=fun _=>Rs) _ _ (Nat.beq (a F) 33)=_
      rw [beq_ff h33]
    rw [e1] at hok ⊢
    obtain ⟨hsl,hok,e2⟩:=ok_if (r:=cl1 n z (a F) m kk) hok
    cases hlen:slLen (a F) with
    | zero =>
      have e3:cl1 n z (a F) m kk=kk 2 m:=by unfold cl1;rw [hlen];rfl
      rw [e3] at hok
      refine ⟨_,m,Eq.trans e2 e3,MStep.refl m,ops_value (SameM.refl m) fun X A α act w _ hc hR _=>⟨noDefer rfl,undef,hres act w w ?_,NR.und⟩⟩
      obtain ⟨b0,o,c0,r⟩:=slR_of hn hR hsl
      rw [r.val,hlen]
      simp [Builtin.clear_,run_underlying ht]
    | succ l =>
      have e3:cl1 n z (a F) m kk=stS (slLen (a F)*n) (rep z (128*n) (slLen (a F))) m kk (mkPtr (slA (a F)) (slLen (a F)*n)):=by
        have:cl1 n z (a F) m kk=natK (rep z (Nat.shiftLeft n 7) (slLen (a F))) (cl3 n (a F) m kk):=by
          unfold cl1;rw [hlen];show cl2 n z (a F) m kk=_;unfold cl2;rw [hlen]
        rw [this,natK_eq,shl7];rfl
      rw [e3] at hok
      obtain ⟨m1,m',e4,hs,hbrk,hx,hg,hcv,h5,hpn,hlz,hl,hE,hwr⟩:=stS_eq hok
      have hgle:GLe m.g m'.g:=by rw [hg];exact hs.g
      have hptA:ptA (mkPtr (slA (a F)) (slLen (a F)*n))=slA (a F):=ptA_mk (Nat.mod_lt _ (by decide))
      rw [hptA] at hcv hl hE hwr
      refine ⟨2,m',Eq.trans e2 (Eq.trans e3 e4),⟨hgle,Nat.le_of_eq hbrk.symm,by rw [hx];exact XtLe.refl _⟩,?_⟩
      intro zc X A α act w hX hL hc hw hR hr hnew hB K Q hK
      obtain ⟨b0,o,c0,r⟩:=slR_of hn hR hsl
      have hl0:0<slLen (a F):=by omega
      have hmul:slLen (a F)*n≤slCap (a F)*n:=Nat.mul_le_mul_right _ r.hl
      have hpos:0<slLen (a F)*n:=Nat.mul_pos hl0 h0
      have hpg:=r.pg
      have hip:InPg (slA (a F)) (slLen (a F)*n):=by unfold InPg;omega
      have hcs:=rep_cs (n:=slLen (a F)) hz.lt (hz.cs X A α hc)
      obtain ⟨h1,h2,h3,h4⟩:=stS_sem hs hbrk hx hg hcv hlz hl hE (hwr (rep_lt hz.lt _) hip) hw hr hip (r.h0 (by omega)) hpos (fun j hj=>r.ha j (by omega)) hcs
      refine ⟨fun f _=>zc.hF f,?_⟩
      rw [Oper.semAt_eq _ _ _ (noDefer rfl)]
      have hzc:Builtin.zeroCells u.cells (slLen (a F))=madeCells u.cells (slLen (a F)*n):=zc_cells (hz.cs X A α hc).1
      have hst:=run_storeCells_cells (P:=c.P) b0 o (madeCells u.cells (slLen (a F)*n)).toList 0 w (fun j hj=>by simpa using (h4 j (by simpa [size_madeCells] using hj)).1) (fun j hj=>by have:=h4 j (by simpa [size_madeCells] using hj);simpa using thaw this.2 this.1) (Cs.one hcs)
      simp only [Nat.add_zero] at hst
      have hrun:(Builtin.clear_ #[t] ty #[act.eval x]).run c.P w=.ok (.tuple #[]) (w.setCells b0 o (madeCells u.cells (slLen (a F)*n)).toList):=by
        rw [r.val]
        rw [hlen] at hst hzc ⊢
        simp [Builtin.clear_,run_underlying ht,run_z hz.info hz.zero,hzc,hst]
      rw [hres act w _ hrun]
      exact hK undef A α _ h1 NR.und h2 h3
end
end Go.Proofs.YtceaohiahajolaaGreatDoor.VM
namespace Go.Proofs.YtceaohiahajolaaGreatDoor.VM
open Go Go.RowKit
variable {c:Cx}
theorem tags_of {Z:Nat} {l:List Nat} (hl:∀ q∈l,q<32) (hz:Nat.land Z (flags l.length*31)=chL l):TagsL Z 0 l:=fun j q hj=>by
 have hlt:=(List.getElem?_eq_some_iff.1 hj).1
 have h5:=congrArg (fun z=>cell z j) hz
 have h6:cell (Z &&& (flags l.length*31)) j=cell Z j &&& cell (flags l.length*31) j:=fld_land ..
 have h5:cell (Z &&& (flags l.length*31)) j=cell (chL l) j:=h5
 rw [h6,pats_cell (by decide) _ _ hlt,land31,chL_cell l j q (fun x hx=>Nat.lt_trans (hl x hx) (by decide)) hj] at h5
 rw [Nat.zero_add];exact h5
theorem flags_one:flags 1=1:=by decide
theorem tag_of {Z t:Nat} (hz:Nat.land Z (flags [t].length*31)=chL [t]):tag Z=t:=by
 have e1:flags [t].length*31=31:=by show flags 1*31=31;rw [flags_one]
 have e2:chL [t]=t:=by show t ||| 0 <<< 128=t;simp
 rw [e1,e2] at hz
 have h:Z &&& 31=t:=hz
 rw [land31] at h
 exact h
inductive KeyT (P:Program) (k:TypeId):Sk→Bool→List Nat→Prop
 | str (h:P.underlying k=some .string):KeyT P k .one true [9]
 | int {ik:IntKind} (h:P.underlying k=some (.int ik)):KeyT P k .one false [kt ik]
 | deep {n:Nat} {l:List Nat} {fs:Array Field} (hn:n≤9999) (h:eqPat P n k=some l) (hk:skOf P k=some (.agg l.length)) (hu:P.underlying k=some (.struct fs)):KeyT P k (.agg l.length) false l
 | arr {n:Nat} {e:TypeId} {ik:IntKind} (h0:0<n) (hu:P.underlying k=some (.array n e)) (he:P.underlying e=some (.int ik)) (hse:skOf P e=some .one) (hk:skOf P k=some (.agg n)):KeyT P k (.agg n) false (List.replicate n (kt ik))
theorem eqPat_bits {P:Program} {X:Xs} {A:Nat→Prop} {α:Al} {n N C:Nat} {t:TypeId} {l:List Nat} (h:eqPat P n t=some l) (hN:N=l.length) {vs:Array Value} (hc:Cs X A α N C vs) (ht:TagsL C 0 l):∀ v∈vs.toList,(∃ k x,v=.int k x)∨∃ b,v=.bool b:=by
 have hall:∀ (n:Nat) (t:TypeId) (l:List Nat),eqPat P n t=some l→∀ q∈l,(∃ k,q=kt k)∨q=3:=by
   intro n
   induction n with
   | zero=>intro t l h;simp [eqPat] at h
   | succ n ih =>
     intro t l h
     unfold eqPat at h
     split at h
     · obtain ⟨_,rfl⟩:=one_iff h
       intro q hq;simp at hq;exact .inl ⟨_,hq⟩
     · obtain ⟨_,rfl⟩:=one_iff h
       intro q hq;simp at hq;exact .inr hq
     · obtain ⟨_,hf,_⟩:=st_iff h
       have key:∀ (fs:List Field) (acc l:List Nat),fs.foldlM (fun (acc:List Nat) f=>if f.name= "_" || f.offset != acc.length then none else (eqPat P n f.type).map fun l=>acc++l) acc=some l→(∀ q∈acc,(∃ k,q=kt k)∨q=3)→∀ q∈l,(∃ k,q=kt k)∨q=3:=by
         intro fs
         induction fs with
         | nil=>intro acc l h ha;simp at h;subst h;exact ha
         | cons f fs ih2 =>
           intro acc l h ha
           rw [List.foldlM_cons] at h
           split at h
           · simp at h
           · cases hp:eqPat P n f.type with
             | none=>rw [hp] at h;simp at h
             | some lf =>
               rw [hp] at h
               simp only [Option.map_some,Option.bind_eq_bind,Option.bind_some] at h
               refine ih2 _ _ h fun q hq=>?_
               rcases List.mem_append.1 hq with hq | hq
               · exact ha q hq
               · exact ih _ _ hp q hq
       exact key _ _ _ hf (by simp)
     · cases h
 intro v hv
 obtain ⟨j,hj,rfl⟩:=List.mem_iff_getElem.1 hv
 rw [Array.length_toList,hc.1,hN] at hj
 have h1:=(hc.2 j (by omega)).2
 have h2:=ht j _ (List.getElem?_eq_getElem hj)
 rw [Nat.zero_add] at h2
 have e:vs.toList[j]=vs.getD j undef:=by
   have:j<vs.size:=by rw [hc.1,hN];exact hj
   simp [Array.getD_eq_getD_getElem?,this]
 rw [e]
 rcases hall n t l h _ (List.getElem_mem hj) with ⟨k,hk⟩ | h3
 · obtain ⟨p,_,_,ev⟩:=h1.int_inv (h2.trans hk)
   exact .inl ⟨_,_,ev⟩
 · obtain ⟨b,_,ev⟩:=h1.bool_inv (h2.trans h3)
   exact .inr ⟨_,ev⟩
theorem run_checkFields {P : Program} {n : Nat} (d : Nat) (e : Bool) {X : Xs} {A : Nat → Prop} {α : Al} {N C : Nat} {vs : Array Value} (w : World) (hc : Cs X A α N C vs)
    (IH:∀ t l off k,eqPat P n t=some l→skOf P t=some k→k.w=l.length→off+l.length≤N→TagsL C off l→(Instr.checkKey e (d+n) t (partV k vs off)).run P w=.ok () w) :
    ∀ (fs:List Field) (acc l:List Nat),fs.foldlM (fun (acc:List Nat) f=>if f.name= "_" || f.offset != acc.length then none else (eqPat P n f.type).map fun l=>acc++l) acc=some l→l.length≤N→TagsL C 0 l →
      acc <+: l∧(do for f in fs do if f.name≠ "_" then Instr.checkKey e (d+n) f.type (← part f.type vs f.offset):Sem Unit).run P w=.ok () w
  | [],acc,l,h,_,_=>by
    simp at h;subst h
    exact ⟨List.prefix_refl _,by simp⟩
  | f :: fs,acc,l,h,hN,ht=>by
    rw [List.foldlM_cons] at h
    by_cases hn:(f.name= "_" || f.offset != acc.length)=true
    · rw [if_pos hn] at h;simp at h
    · rw [if_neg hn] at h
      simp only [Bool.or_eq_true,decide_eq_true_eq,bne_iff_ne,ne_eq,not_or,Decidable.not_not] at hn
      cases hp:eqPat P n f.type with
      | none=>rw [hp] at h;simp at h
      | some lf =>
        rw [hp] at h
        simp only [Option.map_some,Option.bind_eq_bind,Option.bind_some] at h
        obtain ⟨hle,hr⟩:=run_checkFields d e w hc IH fs (acc++lf) l h hN ht
        obtain ⟨k,hk,hkw⟩:=eqPat_sk _ _ _ hp
        obtain ⟨tl,etl⟩:=hle
        have hll:acc.length+lf.length≤l.length:=by rw [← etl];simp
        have h1:TagsL C acc.length lf:=fun j q hj=>by
          have:=ht (acc.length+j) q (by
            rw [← etl,List.append_assoc,List.getElem?_append_right (by omega),List.getElem?_append_left (by have:=(List.getElem?_eq_some_iff.1 hj).1;omega)]
            rw [show acc.length+j - acc.length=j by omega];exact hj)
          rwa [Nat.zero_add] at this
        have p1:=run_part (P:=P) hk (vs:=vs) (off:=f.offset) (by rw [hc.1,hn.2,hkw];omega) w
        rw [hn.2] at p1
        have hck:=IH f.type lf acc.length k hp hk hkw (by omega) h1
        refine ⟨⟨lf++tl,by rw [← etl,List.append_assoc]⟩,?_⟩
        rw [List.forIn_cons]
        simp only [ne_eq,hn.1,not_false_eq_true,if_true,Sem.run_bind,hn.2,p1,hck,Result.andThen_ok,Sem.run_pure]
        simpa only [ne_eq,Sem.run_bind,Sem.run_pure] using hr
theorem run_checkKey {P:Program} (e:Bool) {X:Xs} {A:Nat→Prop} {α:Al} (w:World):∀ (n:Nat) (t:TypeId) (l:List Nat),eqPat P n t=some l→∀ (d N C off:Nat) (vs:Array Value) (k:Sk),skOf P t=some k→k.w=l.length→Cs X A α N C vs→off+l.length≤N→TagsL C off l→(Instr.checkKey e (d+n) t (partV k vs off)).run P w=.ok () w
 | 0,_,_,h=>by simp [eqPat] at h
 | n+1,t,l,h=>by
   intro d N C off vs k hk hkw hc hle ht
   unfold eqPat at h
   split at h
   · rename_i ik hu
     obtain ⟨h1,rfl⟩:=one_iff h
     rw [h1] at hk;cases hk
     have t1:=ht 0 _ rfl
     rw [Nat.add_zero] at t1
     obtain ⟨p,hp,e1,v1⟩:=(hc.2 off (by simp at hle;omega)).2.int_inv t1
     have v1:partV .one vs off=.int ik (val ik p):=v1
     rw [v1]
     exact MapKept.run_checkKey hu (by simp [MapKept.IsKey]) e (d+n)
   · rename_i hu
     obtain ⟨h1,rfl⟩:=one_iff h
     rw [h1] at hk;cases hk
     have t1:=ht 0 _ rfl
     rw [Nat.add_zero] at t1
     obtain ⟨p,e1,v1⟩:=(hc.2 off (by simp at hle;omega)).2.bool_inv t1
     have v1:partV .one vs off=.bool p:=v1
     rw [v1]
     exact MapKept.run_checkKey hu (by simp [MapKept.IsKey]) e (d+n)
   · rename_i fs hu
     obtain ⟨hst,hf,hsk⟩:=st_iff h
     rw [hsk] at hk
     cases hk
     have hcs:=cs_sub hc hle
     have hT:TagsL (fld C (128*off) (128*l.length)) 0 l:=fun j q hj=>by
       have hlt:=(List.getElem?_eq_some_iff.1 hj).1
       rw [Nat.zero_add,cell_sub hlt];exact ht j q hj
     obtain ⟨_,hr⟩:=run_checkFields d e w hcs (fun t l off k h1 h2 h3 h4 h5=>run_checkKey e w n t l h1 d _ _ off _ k h2 h3 hcs h4 h5) fs.toList [] l hf (Nat.le_refl _) hT
     show (Instr.checkKey e (d+n+1) t (.agg (vs.extract off (off+l.length)))).run P w=_
     unfold Instr.checkKey
     simp only [Sem.run_bind,run_underlying hu,Result.andThen_ok]
     rw [← Array.forIn_toList]
     simpa only [ne_eq,Sem.run_bind,Sem.run_pure] using hr
   · cases h
end Go.Proofs.YtceaohiahajolaaGreatDoor.VM
namespace Go.Proofs.YtceaohiahajolaaGreatDoor.VM
open Go Go.RowKit
variable {c:Cx}
theorem land_comm {Z n t:Nat} (h:Nat.land Z (31*flags n)=t):Nat.land Z (flags n*31)=t:=by rw [Nat.mul_comm];exact h
theorem KeyT.lt {P:Program} {k:TypeId} {kk:Sk} {str:Bool} {l:List Nat} (h:KeyT P k kk str l):∀ q∈l,q<32:=by
 cases h with
 | str=>intro q hq;simp at hq;omega
 | int=>intro q hq;simp at hq;subst hq;exact kt_lt _
 | deep _ h=>exact eqPat_lt _ _ _ h
 | arr=>intro q hq;rw [List.eq_of_mem_replicate hq];exact kt_lt _
theorem KeyT.len {P:Program} {k:TypeId} {kk:Sk} {str:Bool} {l:List Nat} (h:KeyT P k kk str l):kk.w=l.length:=by
 cases h with
 | arr=>exact List.length_replicate.symm
 | _=>rfl
def KeyE (P:Program) (k:TypeId) (kk:Sk) (u u':Value) (b:Bool):Prop:=match kk with
 | .one=>∃ d,P.underlying k=some d∧Instr.sameNow d u u'=some b
 | .agg _=>(∀ d,P.underlying k=some d→Instr.sameNow d u u'=none)∧∀ w,(Op.equal k u u').run P w=.ok b w
section
variable {P:Program} {k:TypeId} {kk:Sk} {str:Bool} {l:List Nat} {X:Xs} {A:Nat→Prop} {α:Al} {C C':Nat} {u u':Value}
theorem agg_of_tags {n N:Nat} {t:TypeId} (h:eqPat P n t=some l) (h0:0<l.length) (hu:SK X A α (.agg l.length) C u) (hp:TagsL C 0 l):∃ vs,u=.agg vs∧Cs X A α l.length C vs:=by
 obtain ⟨q0,hq0⟩:∃ q,l[0]?=some q:=⟨_,List.getElem?_eq_getElem h0⟩
 have hodd:q0 % 2=1:=eqPat_odd n t l h q0 (List.mem_of_getElem? hq0)
 have:=hp 0 q0 hq0
 rw [Nat.add_zero] at this
 refine SK.agg_of hu (odd_iff.2 ?_)
 have e1:tag (cell C 0) % 2=C % 2:=by
   rw [tag_eq]
   show (C >>> (128*0) % 2 ^ 128) % 32 % 2=C % 2
   rw [Nat.mul_zero,Nat.shiftRight_zero];omega
 rw [← e1,this];exact hodd
theorem arr_vals {n:Nat} {ik:IntKind} (h0:0<n) (hu:SK X A α (.agg n) C u) (hp:TagsL C 0 (List.replicate n (kt ik))):∃ vs,u=.agg vs∧vs.size=n∧tag C=kt ik∧∀ j,j<n→∃ p,p<2 ^ bits ik∧cell C j=mkI (kt ik) p∧vs.getD j undef=.int ik (val ik p):=by
 have hget:∀ j,j<n→tag (cell C j)=kt ik:=fun j hj=>by
   have:=hp j (kt ik) (by rw [List.getElem?_replicate,if_pos hj])
   rwa [Nat.zero_add] at this
 have e1:tag (cell C 0)=tag C:=by
   rw [tag_eq,tag_eq]
   show (C >>> (128*0) % 2 ^ 128) % 32=C % 32
   rw [Nat.mul_zero,Nat.shiftRight_zero];omega
 have ht:tag C=kt ik:=by rw [← e1];exact hget 0 h0
 obtain ⟨vs,rfl,hc⟩:=SK.agg_of hu (odd_iff.2 (by have:=kt_odd ik;rw [tag_eq] at ht;omega))
 exact ⟨vs,rfl,hc.1,ht,fun j hj=>(hc.2 j hj).2.int_inv (hget j hj)⟩
theorem run_chkItems {e : TypeId} {ik : IntKind} (he : P.underlying e = some (.int ik)) (hse : skOf P e = some .one) {vs : Array Value} (em : Bool) (d : Nat) (w : World) : ∀ (is : List Nat), (∀ i ∈ is, i < vs.size ∧ ∃ z, vs.getD i undef = .int ik z) →
    (forIn (m:=Sem) is PUnit.unit fun i _=>do Instr.checkKey em (d+1) e (← part e vs (i*(← sizeOf e)));pure (ForInStep.yield PUnit.unit)).run P w=.ok PUnit.unit w
  | [],_=>by simp
  | i :: is,h=>by
    obtain ⟨hi,z,hz⟩:=h i (by simp)
    obtain ⟨ti,hti,hts⟩:=Option.map_eq_some_iff.1 (show (P.info? e).map (·.size)=some 1 from (sk_split hse).1)
    have ih:=run_chkItems he hse em d w is fun x hx=>h x (by simp [hx])
    have hsz':∀ w,(sizeOf e).run P w=.ok 1 w:=fun w=>by simp [sizeOf,typeInfo,hti,hts]
    have hpt:(part e vs (i*1)).run P w=.ok (.int ik z) w:=by
      rw [Nat.mul_one,run_part hse (by show i+1≤_;omega)]
      show Result.ok (vs.getD i undef) w=_
      rw [hz]
    have hck:=MapKept.run_checkKey (w:=w) he (k:=.int ik z) (by simp [MapKept.IsKey]) em d
    simp only [List.forIn_cons,Sem.run_bind,hsz',hpt,hck,Result.andThen_ok,Sem.run_pure]
    exact ih
theorem run_chkArr {e:TypeId} {n:Nat} (hk:P.underlying k=some (.array n e)) {vs:Array Value} (em:Bool) (d:Nat) (w:World) (h:(forIn (m:=Sem) (List.range' 0 n) PUnit.unit fun i _=>do Instr.checkKey em d e (← part e vs (i*(← sizeOf e)));pure (ForInStep.yield PUnit.unit)).run P w=.ok PUnit.unit w):(Instr.checkKey em (d+1) k (.agg vs)).run P w=.ok () w:=by
 simp only [Instr.checkKey,Sem.run_bind,run_underlying hk,Result.andThen_ok]
 simp only [Std.Legacy.Range.forIn_eq_forIn_range',Std.Legacy.Range.size,Nat.sub_zero,Nat.add_one_sub_one,Nat.div_one]
 rw [h];simp
theorem run_eqItems {e : TypeId} {ik : IntKind} (he : P.underlying e = some (.int ik)) (hse : skOf P e = some .one) {vs vs' : Array Value} (d : Nat) (w : World) : ∀ (is : List Nat), (∀ i ∈ is, i < vs.size ∧ i < vs'.size ∧ (∃ z, vs.getD i undef = .int ik z) ∧ ∃ z, vs'.getD i undef = .int ik z) →
    ∃ r:Bool,(Op.eqItems (d+1) e 1 vs vs' is).run P w=.ok r w∧(r=true↔∀ i∈is,vs.getD i undef=vs'.getD i undef)
  | [],_=>⟨true,by simp [Op.eqItems],by simp⟩
  | i :: is,h=>by
    obtain ⟨hi,hi',⟨z,hz⟩,z',hz'⟩:=h i (by simp)
    obtain ⟨r,hr,hri⟩:=run_eqItems he hse d w is fun x hx=>h x (by simp [hx])
    have hpt:(part e vs (i*1)).run P w=.ok (.int ik z) w:=by
      rw [Nat.mul_one,run_part hse (by show i+1≤_;omega)]
      show Result.ok (vs.getD i undef) w=_
      rw [hz]
    have hpt':(part e vs' (i*1)).run P w=.ok (.int ik z') w:=by
      rw [Nat.mul_one,run_part hse (by show i+1≤_;omega)]
      show Result.ok (vs'.getD i undef) w=_
      rw [hz']
    by_cases hzz:z=z'
    · subst hzz
      refine ⟨r,?_,?_⟩
      · simp only [Op.eqItems,Sem.run_bind,hpt,hpt',Result.andThen_ok,run_equalIn_int w d e ik ik _ _ he]
        simpa using hr
      · rw [hri]
        refine ⟨fun h x hx=>?_,fun h x hx=>h x (List.mem_cons_of_mem _ hx)⟩
        rcases List.mem_cons.1 hx with rfl | hx
        · rw [hz,hz']
        · exact h x hx
    · refine ⟨false,?_,?_⟩
      · simp only [Op.eqItems,Sem.run_bind,hpt,hpt',Result.andThen_ok,run_equalIn_int w d e ik ik _ _ he]
        simp [hzz]
      · refine ⟨(fun h=>by cases h),fun h=>?_⟩
        have:=h i (List.mem_cons_self ..)
        rw [hz,hz'] at this
        injection this with _ e
        exact absurd e hzz
theorem KeyT.chk (h:KeyT P k kk str l) (hu:SK X A α kk C u) (hp:Nat.land C (31*flags l.length)=chL l) (e:Bool) (w:World):(Instr.checkKey e 10000 k u).run P w=.ok () w∧Instr.sameBits 10000 u u=true:=by
 have hp:=land_comm hp
 cases h with
 | str h =>
   obtain ⟨sid,len,_,rfl,_⟩:=NR.str_inv hu (tag_of hp)
   exact ⟨MapKept.run_checkKey h (by simp [MapKept.IsKey]) e 9999,MapKept.sameBits_self (d:=.string) (by simp [MapKept.IsKey]) _⟩
 | int h =>
   obtain ⟨p,_,_,rfl⟩:=NR.int_inv hu (tag_of hp)
   exact ⟨MapKept.run_checkKey h (by simp [MapKept.IsKey]) e 9999,MapKept.sameBits_self (d:=.int ‹_›) (by simp [MapKept.IsKey]) _⟩
 | @deep n l fs hn h hk hu' =>
   have ht:=tags_of (eqPat_lt _ _ _ h) hp
   have h0:0<l.length:=(sk_split hk).2.1
   obtain ⟨vs,rfl,hc⟩:=agg_of_tags (N:=0) h h0 hu ht
   have ex:partV (.agg l.length) vs 0=.agg vs:=by
     show Value.agg (vs.extract 0 (0+l.length))=_
     congr 1
     rw [Nat.zero_add];exact Array.extract_eq_self_of_le (by rw [hc.1];exact Nat.le_refl _)
   refine ⟨?_,?_⟩
   · have:=VM.run_checkKey e w n k l h (10000 - n) l.length C 0 vs (.agg l.length) hk rfl hc (by omega) ht
     rw [ex,Nat.sub_add_cancel (by omega)] at this
     exact this
   · have hb:=eqPat_bits h rfl hc ht
     show Instr.sameBits (9999+1) (.agg vs) (.agg vs)=true
     unfold Instr.sameBits
     simp only [beq_self_eq_true,Bool.true_and,List.all_eq_true]
     rintro ⟨x,y⟩ hxy
     have e1:x=y:=by
       obtain ⟨j,hj,e⟩:=List.mem_iff_getElem.1 hxy
       rw [List.getElem_zip] at e
       simp only [Prod.mk.injEq] at e
       rw [← e.1,← e.2]
     subst e1
     rcases hb x (List.of_mem_zip hxy).1 with ⟨ik,z,rfl⟩ | ⟨z,rfl⟩ <;> simp [Instr.sameBits]
 | @arr n e' ik h0 hk hee hse hsk =>
   have ht:=tags_of (KeyT.lt (P:=P) (.arr h0 hk hee hse hsk)) hp
   obtain ⟨vs,rfl,hsz,_,hv⟩:=arr_vals h0 hu ht
   refine ⟨?_,?_⟩
   · have hw1 := run_chkItems (P := P) hee hse (vs := vs) e 9998 w (List.range' 0 n) fun i hi => by
       have hi:i<n:=by simpa using hi
       obtain ⟨p,_,_,hp⟩:=hv i hi
       exact ⟨by omega,_,hp⟩
     exact run_chkArr hk e 9999 w hw1
   · show Instr.sameBits (9999+1) (.agg vs) (.agg vs)=true
     unfold Instr.sameBits
     simp only [beq_self_eq_true,Bool.true_and,List.all_eq_true]
     rintro ⟨x,y⟩ hxy
     obtain ⟨j,hj,ej⟩:=List.mem_iff_getElem.1 hxy
     rw [List.getElem_zip] at ej
     simp only [Prod.mk.injEq] at ej
     have hjn:j<n:=by rw [← hsz];simpa using hj
     obtain ⟨p,_,_,hp⟩:=hv j hjn
     have hx:x=.int ik (val ik p):=by
       rw [← ej.1,← hp];simp [Array.getD_eq_getD_getElem?,show j<vs.size by omega]
     have hy:y=.int ik (val ik p):=by
       rw [← ej.2,← hp];simp [Array.getD_eq_getD_getElem?,show j<vs.size by omega]
     rw [hx,hy]
     simp [Instr.sameBits]
theorem KeyT.eq (h : KeyT P k kk str l) {m : M} (hX : XLe m.x X) (hu : SK X A α kk C u) (hu' : SK X A α kk C' u') (hp : Nat.land C (31 * flags l.length) = chL l) (hp' : Nat.land C' (31 * flags l.length) = chL l) (hs : str = true → tag C = 9 → stId C < m.x.ns) (hs' : str = true → tag C' = 9 → stId C' < m.x.ns)
    (hb:C<2 ^ (128*l.length)) (hb':C'<2 ^ (128*l.length)):(mKey m str C C'=true→u'=u)∧(SameKy m.x C C'↔mKey m str C C'=true)∧KeyE P k kk u u' (mKey m str C C'):=by
  have hp:=land_comm hp
  have hp':=land_comm hp'
  cases h with
  | str h =>
    have t1:=tag_of hp
    have t2:=tag_of hp'
    have e1:mKey m true C C'=sEq m C C':=rfl
    obtain ⟨v1,b1⟩:=str_of (NR.mono (AStep.refl _ _) hu) (isSt_iff.2 ⟨t1,hs rfl t1⟩) hX
    obtain ⟨v2,b2⟩:=str_of (NR.mono (AStep.refl _ _) hu') (isSt_iff.2 ⟨t2,hs' rfl t2⟩) hX
    have e2:=sEq_eq b1 b2
    have e3:sEq m C C'=true↔strOf (strB m C') (stLen C')=strOf (strB m C) (stLen C):=by
      rw [e2,beq_iff_eq,ByteArray.toList_eq,ByteArray.toList_eq]
      exact ⟨fun h=>ByteArray.ext (Array.toList_inj.1 h.symm),fun h=>by rw [h]⟩
    refine ⟨fun hk=>by rw [e1] at hk;rw [v1,v2,e3.1 hk],?_,.string,h,?_⟩
    · rw [e1]
      unfold SameKy
      rw [if_pos t1]
      show _↔bAnd (Nat.beq (stLen C) (stLen C')) (Nat.beq (strB m C) (strB m C'))=true
      rw [bAnd_eq,Bool.and_eq_true,beq_iff,beq_iff]
      exact ⟨fun ⟨_,a,b⟩=>⟨a,b⟩,fun ⟨a,b⟩=>⟨t2,a,b⟩⟩
    · rw [v1,v2,e1]
      show some _=some _
      congr 1
      refine bool_beq ?_
      rw [e3,MapKept.bytes_beq]
      exact ⟨fun h=>h.symm,fun h=>h.symm⟩
  | @int ik h =>
    have t1:=tag_of hp
    have t2:=tag_of hp'
    obtain ⟨p,hpp,e1,v1⟩:=NR.int_inv hu t1
    obtain ⟨q,hq,e2,v2⟩:=NR.int_inv hu' t2
    have e3:mKey m false C C'=Nat.beq C C':=rfl
    have e4:Nat.beq C C'=true↔val ik p=val ik q:=by
      rw [beq_iff,e1,e2]
      exact ⟨fun h=>by rw [mkI_inj h],fun h=>by rw [val_inj hpp hq h]⟩
    refine ⟨fun hk=>by rw [v1,v2,e4.1 hk],?_,.int ik,h,?_⟩
    · rw [e3]
      unfold SameKy
      rw [if_neg (by rw [t1];have:=kt_odd ik;omega),beq_iff]
    · rw [v1,v2,e3]
      have:Instr.sameNow (.int ik) (.int ik (val ik p)) (.int ik (val ik q))=some (val ik p == val ik q):=by simp [Instr.sameNow]
      rw [this]
      congr 1
      refine bool_beq ?_
      rw [e4,beq_iff_eq]
  | @deep n l fs hn h hk hud =>
    have ht:=tags_of (eqPat_lt _ _ _ h) hp
    have ht':=tags_of (eqPat_lt _ _ _ h) hp'
    have h0:0<l.length:=(sk_split hk).2.1
    obtain ⟨vs,rfl,hc⟩:=agg_of_tags (N:=0) h h0 hu ht
    obtain ⟨vs',rfl,hc'⟩:=agg_of_tags (N:=0) h h0 hu' ht'
    have ex:∀ (z:Array Value),z.size=l.length→partV (.agg l.length) z 0=.agg z:=fun z hz=>by
      show Value.agg (z.extract 0 (0+l.length))=_
      congr 1
      rw [Nat.zero_add];exact Array.extract_eq_self_of_le (by omega)
    have e3:mKey m false C C'=Nat.beq C C':=rfl
    have hqt:∀ q∈l,q≠9:=by
      have hall:∀ (n:Nat) (t:TypeId) (l:List Nat),eqPat P n t=some l→∀ q∈l,q≠9:=by
        intro n
        induction n with
        | zero=>intro t l h;simp [eqPat] at h
        | succ n ih =>
          intro t l h
          unfold eqPat at h
          split at h
          · obtain ⟨_,rfl⟩:=one_iff h
            intro q hq;simp at hq;subst hq;have:=kt_odd ‹_›;omega
          · obtain ⟨_,rfl⟩:=one_iff h
            intro q hq;simp at hq;omega
          · obtain ⟨_,hf,_⟩:=st_iff h
            have key:∀ (fs:List Field) (acc l:List Nat),fs.foldlM (fun (acc:List Nat) f=>if f.name= "_" || f.offset != acc.length then none else (eqPat P n f.type).map fun l=>acc++l) acc=some l→(∀ q∈acc,q≠9)→∀ q∈l,q≠9:=by
              intro fs
              induction fs with
              | nil=>intro acc l h ha;simp at h;subst h;exact ha
              | cons f fs ih2 =>
                intro acc l h ha
                rw [List.foldlM_cons] at h
                split at h
                · simp at h
                · cases hp:eqPat P n f.type with
                  | none=>rw [hp] at h;simp at h
                  | some lf =>
                    rw [hp] at h
                    simp only [Option.map_some,Option.bind_eq_bind,Option.bind_some] at h
                    refine ih2 _ _ h fun q hq=>?_
                    rcases List.mem_append.1 hq with hq | hq
                    · exact ha q hq
                    · exact ih _ _ hp q hq
            exact key _ _ _ hf (by simp)
          · cases h
      exact hall n k l h
    have ht9:tag C≠9:=by
      have h1:=ht 0 _ (List.getElem?_eq_getElem h0)
      rw [Nat.add_zero] at h1
      have e1:tag (cell C 0)=tag C:=by
        rw [tag_eq,tag_eq]
        show (C >>> (128*0) % 2 ^ 128) % 32=C % 32
        rw [Nat.mul_zero,Nat.shiftRight_zero];omega
      rw [← e1,h1]
      exact hqt _ (List.getElem_mem h0)
    refine ⟨fun hk=>?_,?_,?_,fun w=>?_⟩
    · rw [e3,beq_iff] at hk
      subst hk
      have hb1:=eqPat_bits h rfl hc ht
      congr 1
      refine Array.ext (by rw [hc.1,hc'.1]) fun j h1 h2=>?_
      have hj:j<l.length:=by rw [← hc'.1];exact h1
      have a1:=(hc.2 j hj).2
      have a2:=(hc'.2 j hj).2
      have g1:vs.getD j undef=vs[j]:=by simp [Array.getD_eq_getD_getElem?,h2]
      have g2:vs'.getD j undef=vs'[j]:=by simp [Array.getD_eq_getD_getElem?,h1]
      rw [g1] at a1
      rw [g2] at a2
      have ht2:=ht j _ (List.getElem?_eq_getElem hj)
      rw [Nat.zero_add] at ht2
      have hcase:=hb1 vs[j] (by simp)
      have hkt:(∃ ik,l[j]=kt ik)∨l[j]=3:=by
        have hodd:=eqPat_odd n k l h _ (List.getElem_mem hj)
        clear a2
        rw [← ht2] at hodd ⊢
        clear ht2
        generalize cell C j=Z at a1 hodd ⊢
        rcases hcase with ⟨ik,z,e⟩ | ⟨z,e⟩
        · rw [e] at a1
          left
          generalize hvv:Value.int ik z=vv at a1
          cases a1 <;> cases hvv
          · exact absurd hodd (by decide)
          · exact ⟨ik,tag_mk (kt_lt ik)⟩
        · rw [e] at a1
          right
          generalize hvv:Value.bool z=vv at a1
          cases a1 <;> cases hvv
          · exact absurd hodd (by decide)
          · cases z <;> rfl
      rcases hkt with ⟨ik,e⟩ | e
      · obtain ⟨p,_,e1,v1⟩:=a1.int_inv (ht2.trans e)
        obtain ⟨q,_,e2,v2⟩:=a2.int_inv (ht2.trans e)
        rw [v1,v2]
        rw [e1] at e2
        rw [mkI_inj e2]
      · obtain ⟨p,e1,v1⟩:=a1.bool_inv (ht2.trans e)
        obtain ⟨q,e2,v2⟩:=a2.bool_inv (ht2.trans e)
        rw [v1,v2]
        rw [e1] at e2
        rw [bN_inj e2]
    · rw [e3]
      unfold SameKy
      rw [if_neg ht9,beq_iff]
    · intro d hd
      rw [hud] at hd;cases hd
      rfl
    · obtain ⟨r0,hr,hi⟩:=eqPat_ok n k l h (10000 - n) X A α l.length C C' 0 vs vs' (.agg l.length) w hk rfl hc hc' (by omega) ht ht'
      rw [Nat.sub_add_cancel (by omega),ex vs hc.1,ex vs' hc'.1] at hr
      show (Op.equalIn 10000 k (.agg vs) (.agg vs')).run P w=_
      rw [hr,e3]
      congr 1
      refine bool_beq ?_
      rw [hi,beq_iff]
      exact ⟨fun h=>cells_ext hb hb' fun j hj=>by have:=h j hj;rwa [Nat.zero_add] at this,fun h=>by subst h;exact fun _ _=>rfl⟩
  | @arr n e' ik h0 hk hee hse hsk =>
    have hl:=KeyT.lt (P:=P) (.arr h0 hk hee hse hsk)
    have ht:=tags_of hl hp
    have ht':=tags_of hl hp'
    obtain ⟨vs,rfl,hsz,htc,hv⟩:=arr_vals h0 hu ht
    obtain ⟨vs',rfl,hsz',_,hv'⟩:=arr_vals h0 hu' ht'
    rw [List.length_replicate] at hb hb'
    have e3:mKey m false C C'=Nat.beq C C':=rfl
    refine ⟨fun hkk=>?_,?_,?_,fun w=>?_⟩
    · rw [e3,beq_iff] at hkk
      subst hkk
      congr 1
      refine Array.ext (by rw [hsz,hsz']) fun j h1 h2=>?_
      obtain ⟨p,_,c1,v1⟩:=hv j (by omega)
      obtain ⟨q,_,c2,v2⟩:=hv' j (by omega)
      rw [c1] at c2
      have:=mkI_inj c2
      subst this
      have g1:vs.getD j undef=vs[j]:=by simp [Array.getD_eq_getD_getElem?,h2]
      have g2:vs'.getD j undef=vs'[j]:=by simp [Array.getD_eq_getD_getElem?,h1]
      rw [← g1,← g2,v1,v2]
    · rw [e3]
      unfold SameKy
      rw [if_neg (by rw [htc];have:=kt_odd ik;omega),beq_iff]
    · intro d hd
      rw [hk] at hd;cases hd
      rfl
    · obtain ⟨ti,hti,hts'⟩:=Option.map_eq_some_iff.1 (show (P.info? e').map (·.size)=some 1 from (sk_split hse).1)
      have hts:P.cellsOf e'=1:=by unfold Program.cellsOf;rw [hti];simp [hts']
      obtain ⟨r,hr,hri⟩:=run_eqItems (P:=P) hee hse (vs:=vs) (vs':=vs') 9998 w (List.range n) fun i hi=>by
        have hi:i<n:=by simpa using hi
        obtain ⟨p,_,_,hp⟩:=hv i hi
        obtain ⟨q,_,_,hq⟩:=hv' i hi
        exact ⟨by omega,by omega,⟨_,hp⟩,_,hq⟩
      show (Op.equalIn (9999+1) k (.agg vs) (.agg vs')).run P w=_
      rw [Go.run_equalIn_array w 9999 vs vs' hk hti,hts,hr,e3]
      congr 1
      refine bool_beq ?_
      rw [hri,beq_iff]
      refine ⟨fun h=>cells_ext hb hb' fun j hj=>?_,fun h=>by
        subst h
        intro i hi
        have hi:i<n:=by simpa using hi
        obtain ⟨p,_,c1,v1⟩:=hv i hi
        obtain ⟨q,_,c2,v2⟩:=hv' i hi
        rw [c1] at c2
        rw [v1,v2,mkI_inj c2]⟩
      obtain ⟨p,hp,c1,v1⟩:=hv j hj
      obtain ⟨q,hq,c2,v2⟩:=hv' j hj
      have:=h j (by simpa using hj)
      rw [v1,v2] at this
      have hval:val ik p=val ik q:=by injection this
      rw [c1,c2,val_inj hp hq hval]
end
end Go.Proofs.YtceaohiahajolaaGreatDoor.VM
namespace Go.Proofs.YtceaohiahajolaaGreatDoor.VM
open Go Go.RowKit
variable {c:Cx}
def fnd:List MapEntry→List Bool→Nat→Option (Nat × Value)
 | [],_,_=>none
 | _ :: _,[],_=>none
 | e :: es,b :: bs,i=>if b then some (i,e.val) else fnd es bs (i+1)
theorem run_find {P : Program} {k : TypeId} {kk : Sk} {u : Value} {d : TypeDesc} (hd : P.underlying k = some d) (w : World) (es : List MapEntry) (bs : List Bool) (hl : es.length = bs.length) (h : ∀ (j : Nat) (e : MapEntry) (b : Bool), es[j]? = some e → bs[j]? = some b → KeyE P k kk u e.key b) :
    (Instr.findKey k u es).run P w=.ok (fnd es bs 0) w:=by
  cases kk with
  | one =>
    have key:∀ (es:List MapEntry) (bs:List Bool) (i:Nat),es.length=bs.length→(∀ (j:Nat) (e:MapEntry) (b:Bool),es[j]?=some e→bs[j]?=some b→KeyE P k .one u e.key b)→Instr.findNow d u es i=some (fnd es bs i):=by
      intro es
      induction es with
      | nil=>intro bs i _ _;rfl
      | cons e es ih =>
        intro bs i hl h
        cases bs with
        | nil=>simp at hl
        | cons b bs =>
          obtain ⟨d',hd',hs⟩:=h 0 e b rfl rfl
          rw [hd] at hd'
          cases hd'
          cases b with
          | true=>simp [Instr.findNow,hs,fnd]
          | false=>simp [Instr.findNow,hs,fnd,ih bs (i+1) (by simpa using hl) fun j e b h1 h2=>h (j+1) e b (by simpa using h1) (by simpa using h2)]
    unfold Instr.findKey
    simp only [Sem.run_bind,run_underlying hd,Result.andThen_ok,key es bs 0 hl h,Sem.run_pure]
  | agg n =>
    cases es with
    | nil =>
      unfold Instr.findKey
      simp only [Sem.run_bind,run_underlying hd,Result.andThen_ok,Instr.findNow,Sem.run_pure]
      rfl
    | cons e es =>
      cases bs with
      | nil=>simp at hl
      | cons b bs =>
        have hn:=(h 0 e b rfl rfl).1 d hd
        have key:∀ (es:List MapEntry) (bs:List Bool) (i:Nat),es.length=bs.length→(∀ (j:Nat) (e:MapEntry) (b:Bool),es[j]?=some e→bs[j]?=some b→KeyE P k (.agg n) u e.key b)→(Instr.findAsking k u es i).run P w=.ok (fnd es bs i) w:=by
          intro es
          induction es with
          | nil=>intro bs i _ _;rfl
          | cons e es ih =>
            intro bs i hl h
            cases bs with
            | nil=>simp at hl
            | cons b bs =>
              have hs:=(h 0 e b rfl rfl).2 w
              unfold Instr.findAsking
              simp only [Sem.run_bind,hs,Result.andThen_ok]
              cases b with
              | true=>simp [fnd]
              | false =>
                simp only [Bool.false_eq_true,if_false,fnd]
                exact ih bs (i+1) (by simpa using hl) fun j e b h1 h2=>h (j+1) e b (by simpa using h1) (by simpa using h2)
        unfold Instr.findKey
        simp only [Sem.run_bind,run_underlying hd,Result.andThen_ok,Instr.findNow,hn]
        exact key (e :: es) (b :: bs) 0 hl h
theorem fnd_none:∀ (es:List MapEntry) (bs:List Bool) (i:Nat),(∀ b∈bs,b=false)→fnd es bs i=none
 | [],_,_,_=>rfl
 | _ :: _,[],_,_=>rfl
 | e :: es,b :: bs,i,h=>by
   have:=h b (by simp)
   subst this
   exact fnd_none es bs (i+1) fun b hb=>h b (by simp [hb])
theorem fnd_some:∀ (es:List MapEntry) (bs:List Bool) (i j:Nat) (e:MapEntry),es[j]?=some e→bs[j]?=some true→(∀ k,k<j→bs[k]?≠some true)→es.length=bs.length→fnd es bs i=some (i+j,e.val)
 | [],_,_,_,_,h,_,_,_=>by simp at h
 | _ :: _,[],_,_,_,_,h,_,_=>by simp at h
 | e :: es,b :: bs,i,0,e',h1,h2,_,_=>by
   cases h1;cases h2;rfl
 | e :: es,b :: bs,i,j+1,e',h1,h2,h3,hl=>by
   have hb:b=false:=by
     cases b with
     | true=>exact absurd rfl (h3 0 (Nat.succ_pos _))
     | false=>rfl
   subst hb
   have:=fnd_some es bs (i+1) j e' (by simpa using h1) (by simpa using h2) (fun k hk=>by have:=h3 (k+1) (by omega);simpa using this) (by simpa using hl)
   show fnd es bs (i+1)=_
   rw [this];congr 2;omega
theorem mfind_eq (m:M) (str:Bool) (key:Nat) (no:Rs) (yes:Nat→Nat→Rs):∀ es:Ml,((∀ q∈Ml.toL es,mKey m str key q.1=false)∧mfind m str key no yes es=no)∨∃ (j:Nat) (q:Nat × Nat × Nat),(Ml.toL es)[j]?=some q∧mKey m str key q.1=true∧mfind m str key no yes es=yes q.2.1 q.2.2
 | .nil=>.inl ⟨fun q hq=>by simp [Ml.toL] at hq,rfl⟩
 | .cons k v b r=>by
   have e:mfind m str key no yes (.cons k v b r)=Bool.rec (motive:=fun _=>Rs) (mfind m str key no yes r) (yes v b) (mKey m str key k):=rfl
   rw [e]
   cases hk:mKey m str key k with
   | true=>exact .inr ⟨(Ml.toL r).length,(k,v,b),by simp [Ml.toL],hk,rfl⟩
   | false =>
     rcases mfind_eq m str key no yes r with ⟨h1,h2⟩ | ⟨j,q,h1,h2,h3⟩
     · refine .inl ⟨fun q hq=>?_,h2⟩
       simp only [Ml.toL,List.mem_append,List.mem_singleton] at hq
       rcases hq with hq | rfl
       · exact h1 q hq
       · exact hk
     · refine .inr ⟨j,q,?_,h2,h3⟩
       have hlt:=(List.getElem?_eq_some_iff.1 h1).1
       simp only [Ml.toL]
       rw [List.getElem?_append_left hlt];exact h1
def setV (born v:Nat) (q:Nat × Nat × Nat):Nat × Nat × Nat:=if q.2.2=born then (q.1,v,q.2.2) else q
theorem mset_eq (born v:Nat):∀ (es:Ml) (k:Ml→Rs),∃ es',mset born v es k=k es'∧((Ml.toL es).Pairwise (fun q q'=>q.2.2≠q'.2.2)→Ml.toL es'=(Ml.toL es).map (setV born v))
 | .nil,k=>⟨.nil,rfl,fun _=>rfl⟩
 | .cons key v' b r,k=>by
   have e:mset born v (.cons key v' b r) k=Bool.rec (motive:=fun _=>Rs) (mset born v r fun r=>k (.cons key v' b r)) (k (.cons key v b r)) (Nat.beq b born):=rfl
   rw [e]
   by_cases hb:b=born
   · rw [beq_iff.2 hb]
     refine ⟨.cons key v b r,rfl,fun hp=>?_⟩
     simp only [Ml.toL,List.map_append,List.map_cons,List.map_nil] at hp ⊢
     rw [List.pairwise_append] at hp
     congr 1
     · symm
       refine (List.map_congr_left fun q hq=>?_).trans (List.map_id _)
       have:=hp.2.2 q hq (key,v',b) (by simp)
       unfold setV
       rw [if_neg (by rw [← hb];exact this)];rfl
     · unfold setV
       simp [hb]
   · rw [beq_ff hb]
     obtain ⟨r',e1,h1⟩:=mset_eq born v r fun r=>k (.cons key v' b r)
     refine ⟨.cons key v' b r',e1,fun hp=>?_⟩
     simp only [Ml.toL,List.map_append,List.map_cons,List.map_nil] at hp ⊢
     rw [List.pairwise_append] at hp
     rw [h1 hp.1]
     unfold setV
     simp [hb]
theorem tput_any {α β:Type} (d v:α):∀ (f n:Nat) (t:Tr α) (k:Tr α→β),∃ t',tput d v f n t k=k t'∧(n+1<2 ^ f→∀ i,tget d t' i=if i=n then v else tget d t i):=by
 intro f n t k
 by_cases h:n+1<2 ^ f
 · obtain ⟨t',e,ht⟩:=tput_get d v f n t k h
   exact ⟨t',e,fun _=>ht⟩
 · have key : ∀ (f n : Nat) (t : Tr α) (k : Tr α → β), ∃ t', tput d v f n t k = k t' := by
     intro f
     induction f with
     | zero=>intro n t k;exact ⟨t,rfl⟩
     | succ f ih =>
       intro n t k
       cases n with
       | zero=>cases t with
         | nil=>exact ⟨_,tput_nil0 d v f k⟩
         | node l x r=>exact ⟨_,tput_node0 d v f l x r k⟩
       | succ n=>cases t with
         | nil =>
           rw [tput_nilS]
           split
           · obtain ⟨t',e⟩:=ih (n / 2) .nil fun l=>k (.node l d .nil)
             exact ⟨_,e⟩
           · obtain ⟨t',e⟩:=ih (n / 2) .nil fun r=>k (.node .nil d r)
             exact ⟨_,e⟩
         | node l x r =>
           rw [tput_nodeS]
           split
           · obtain ⟨t',e⟩:=ih (n / 2) l fun l=>k (.node l x r)
             exact ⟨_,e⟩
           · obtain ⟨t',e⟩:=ih (n / 2) r fun r=>k (.node l x r)
             exact ⟨_,e⟩
   obtain ⟨t',e⟩:=key f n t k
   exact ⟨t',e,fun h'=>absurd h' h⟩
structure MpM (m:M) (i:Nat) (p:Mp) (n:Nat) (m':M):Prop where
 brk:m'.brk=m.brk
 cur:m'.cur=m.cur
 pg:m'.pg=m.pg
 g:m'.g=m.g
 ns:m'.x.ns=m.x.ns
 str:m'.x.str=m.x.str
 nc:m'.x.nc=m.x.nc
 clo:m'.x.clo=m.x.clo
 nl:m'.x.nl=m.x.nl
 lp:m'.x.lp=m.x.lp
 nm:m'.x.nm=n
 mp:i+1<2 ^ 40→∀ j,mpS m'.x j=if j=i then p else mpS m.x j
theorem mput_eq (m:M) (kd i clk:Nat) (k:M→Rs) (es:Ml):∃ m',mput m kd i clk k es=k m'∧MpM m i ⟨kd,es,clk⟩ m.x.nm m':=by
 obtain ⟨brk,cur,pg,⟨ns,str,nc,clo,nm,mp,nl,lp⟩,g⟩:=m
 obtain ⟨t,e,ht⟩:=tput_any ⟨0,.nil,0⟩ (⟨kd,es,clk⟩:Mp) 40 i mp (mpu2 ⟨brk,cur,pg,⟨ns,str,nc,clo,nm,mp,nl,lp⟩,g⟩ k)
 exact ⟨⟨brk,cur,pg,⟨ns,str,nc,clo,nm,t,nl,lp⟩,g⟩,e,rfl,rfl,rfl,rfl,rfl,rfl,rfl,rfl,rfl,rfl,rfl,ht⟩
section
variable {m m':M} {i n:Nat} {p:Mp}
theorem MpM.xt (h:MpM m i p n m') (hn:m.x.nm≤n):XtLe m.x m'.x :=
 ⟨Nat.le_of_eq h.ns.symm,fun j _=>by show tget _ m'.x.str j=tget _ m.x.str j;rw [h.str],Nat.le_of_eq h.nc.symm,fun j _=>by show tget _ m'.x.clo j=tget _ m.x.clo j;rw [h.clo],by rw [h.nm];exact hn,Nat.le_of_eq h.nl.symm⟩
theorem MpM.step (h:MpM m i p n m') (hn:m.x.nm≤n):MStep m m':=⟨by rw [h.g];exact .refl _,Nat.le_of_eq h.brk.symm,h.xt hn⟩
theorem MpM.memC (h:MpM m i p n m') (a:Nat):memC m' a=memC m a:=by
 have:page m' a=page m a:=by
   show cnd (Nat.beq (pgOf a) (pgOf m'.brk)) m'.cur (tget 0 m'.pg (pgOf a))=_
   rw [h.brk,h.cur,h.pg];rfl
 show fld (page m' a) _ _=fld (page m a) _ _
 rw [this]
theorem MpM.strS (h:MpM m i p n m') (j:Nat):strS m'.x j=strS m.x j:=by show tget _ m'.x.str j=tget _ m.x.str j;rw [h.str]
theorem MpM.cloS (h:MpM m i p n m') (j:Nat):cloS m'.x j=cloS m.x j:=by show tget _ m'.x.clo j=tget _ m.x.clo j;rw [h.clo]
theorem MpM.lpS (h:MpM m i p n m') (j:Nat):lpS m'.x j=lpS m.x j:=by show tget _ m'.x.lp j=tget _ m.x.lp j;rw [h.lp]
theorem MpM.same (h:MpM m i p n m') (k k':Nat):SameKy m'.x k k'↔SameKy m.x k k':=by unfold SameKy;rw [h.strS,h.strS]
theorem MpM.xle (h:MpM m i p n m') {X:Xs} (hX:XLe m'.x X):XLe m.x X :=
 ⟨fun j hj=>by rw [← h.strS];exact hX.str j (by rw [h.ns];exact hj),fun j hj=>by rw [← h.cloS];exact hX.clo j (by rw [h.nc];exact hj)⟩
theorem MpM.wf (h : MpM m i p n m') (hi : i + 1 < 2 ^ 40) (hw : Wf m) (hn : n ≤ 549755813888) (hin : i < n) (hnn : n = m.x.nm ∨ (i = m.x.nm ∧ n = m.x.nm + 1))
    (h1:(Ml.toL p.es).Pairwise fun q q'=>¬ SameKy m.x q.1 q'.1∧q.2.2≠q'.2.2) (h2:∀ q∈Ml.toL p.es,q.2.2<p.clock)
    (h3:∀ q∈Ml.toL p.es,Nat.land q.1 (31*flags (kdW p.kd))=p.kd / 65536∧(tag q.1=9→stId q.1<m.x.ns)∧q.1<2 ^ (128*kdW p.kd)∧q.2.1<2 ^ (128*kdV p.kd)):Wf m':=by
  have hmp:=h.mp hi
  refine ⟨by rw [h.cur,h.brk];exact hw.cur,by rw [h.brk];exact hw.off,by rw [h.brk];exact hw.brk,fun b hb h0=>by rw [h.memC];rw [h.brk] at hb;exact hw.zero b hb h0,⟨fun j hj=>?_,fun j hj=>?_,fun j hj=>?_,fun j hj=>?_,by rw [h.ns];exact hw.x.ns,by rw [h.nc];exact hw.x.nc,by rw [h.nm];exact hn,by rw [h.nl];exact hw.x.nl⟩,by rw [h.g,h.brk];exact hw.wm⟩
  · rw [hmp]
    rw [h.nm] at hj
    split
    · exact h1.imp fun ⟨a,b⟩=>⟨fun hs=>a ((h.same _ _).1 hs),b⟩
    · exact (hw.x.uniq j (by omega)).imp fun ⟨a,b⟩=>⟨fun hs=>a ((h.same _ _).1 hs),b⟩
  · rw [hmp]
    rw [h.nm] at hj
    split
    · exact h2
    · exact hw.x.born j (by omega)
  · rw [hmp,if_neg (by rw [h.nm] at hj;omega)]
    exact hw.x.mz j (by rw [h.nm] at hj;omega)
  · rw [hmp]
    rw [h.nm] at hj
    rw [h.ns]
    split
    · exact h3
    · exact hw.x.keys j (by omega)
variable {lk:Lk} {X:Xs} {E B:Nat} {D A:Nat→Prop} {α:Al} {w:World}
theorem put_isC {b:Nat} {es es0:Array MapEntry} {clk clk0:Nat} (hb:w.heap[b]?=some (.map es0 clk0)) (k:Nat):isC (w.putObj b (.map es clk)) k↔isC w k:=by
 have hlt:b<w.heap.size:=(Array.getElem?_eq_some_iff.1 hb).1
 unfold isC
 by_cases h:k=b
 · subst h
   rw [World.putObj_heap_same hlt,hb];simp
 · rw [World.putObj_heap_other h]
theorem put_cell {b:Nat} {es es0:Array MapEntry} {clk clk0:Nat} (hb:w.heap[b]?=some (.map es0 clk0)) (ad:Addr):(w.putObj b (.map es clk)).cell? ad=w.cell? ad∧fz (w.putObj b (.map es clk)) ad=fz w ad:=by
 have hlt:b<w.heap.size:=(Array.getElem?_eq_some_iff.1 hb).1
 unfold World.cell? fz
 by_cases h:ad.block=b
 · rw [h,World.putObj_heap_same hlt,hb];exact ⟨rfl,rfl⟩
 · rw [World.putObj_heap_other h];exact ⟨rfl,rfl⟩
theorem rel_setmap (h : Rel lk X E B D A α m w) (hi : i + 1 < 2 ^ 40) (him : i < m.x.nm) {b : Nat} {es es0 : Array MapEntry} {clk0 : Nat} (hm : MpM m i p m.x.nm m') (hα : α (mB + i) = some (b, 0, 0)) (hE : E ≤ mB) (hb : w.heap[b]? = some (.map es0 clk0))
    (hp:MpR X A α (w.putObj b (.map es p.clock)) i p):Rel lk X E B D A α m' (w.putObj b (.map es p.clock))∧Stp B (fun x=>x=mB+i) (fun _=>False) A α w A α (w.putObj b (.map es p.clock)):=by
  have hmp:=hm.mp hi
  have hlt:b<w.heap.size:=(Array.getElem?_eq_some_iff.1 hb).1
  have hnC:¬ isC w b:=fun ⟨_,_,_,e⟩=>by rw [hb] at e;cases e
  have hB:B≤b:=h.own _ _ _ _ hα (by omega)
  have hoth:∀ x b0 o0 l0,α x=some (b0,o0,l0)→x≠mB+i→b0≠b∨False:=fun x b0 o0 l0 hx hne=>by
    left
    intro e
    subst e
    have hk:=h.kd x b0 o0 l0 hx
    by_cases hxm:x<mB
    · exact hnC (hk.1 hxm)
    · obtain ⟨rfl,rfl,_⟩:=hk.2 (by omega)
      exact hne (h.inj x (mB+i) b0 0 0 0 hx hα)
  have hheap:∀ x b0 o0 l0,α x=some (b0,o0,l0)→x≠mB+i→(w.putObj b (.map es p.clock)).heap[b0]?=w.heap[b0]?:=fun x b0 o0 l0 hx hne=>World.putObj_heap_other ((hoth x b0 o0 l0 hx hne).resolve_right id)
  have hc:=fun ad=>(put_cell (es:=es) (clk:=p.clock) hb ad).1
  have hf:=fun ad=>(put_cell (es:=es) (clk:=p.clock) hb ad).2
  refine ⟨⟨by
      refine ⟨fun j hj=>?_,fun j hj=>?_⟩
      · rw [hm.strS];exact h.x.str j (by rw [← hm.ns];exact hj)
      · rw [hm.cloS];exact h.x.clo j (by rw [← hm.nc];exact hj),fun a h1 h2 h3 h4=>?_,fun j hj hd=>?_,fun j hj hd=>?_,h.dom,h.inj,fun a b0 o0 l0 ha=>by rw [World.putObj_size];exact h.lt a b0 o0 l0 ha,h.last,fun a b0 o0 r0 ha j hj=>by rw [hc,hf];exact h.room a b0 o0 r0 ha j hj,h.own,fun a b0 o0 l0 ha=>by rw [put_isC hb];exact h.kd a b0 o0 l0 ha⟩,
    ⟨rfl,rfl,Nat.le_of_eq World.putObj_size.symm,fun a=>by simp,fun a _=>.inl rfl,fun a b0 o0 l0 _ ha hn=>⟨hc _,hf _,fun _=>hheap a b0 o0 l0 ha hn⟩,fun k hk=>World.putObj_heap_other (by omega),fun b0 o0 hk=>by rw [hc,hf];exact ⟨hk,rfl⟩,fun a0 b0 o0 l0 h1 _ h3=>⟨h3,hheap a0 b0 o0 l0 h3 (by unfold rB at h1;unfold mB;omega)⟩⟩⟩
  · rw [hm.memC] at h4 ⊢
    exact (h.cell a h1 h2 h3 h4).keep (AStep.refl _ _) rfl fun b0 o0 _ _=>⟨hc _,hf _⟩
  · rw [hm.nm] at hj
    rw [hmp]
    split
    · rename_i e;subst e;exact hp
    · rename_i hne
      exact (h.map j hj hd).keep (AStep.refl _ _) rfl fun b0 ha _=>hheap _ b0 _ _ ha (by omega)
  · rw [hm.nl] at hj
    rw [hm.lpS]
    have hr:=h.loop j hj hd
    obtain ⟨b0,r,hb0,hr0,_⟩:=hr
    exact (h.loop j hj hd).keep (AStep.refl _ _) rfl fun b0 ha _=>hheap _ b0 _ _ ha (by
      intro e
      have:b0=b:=by rw [e,hα] at ha;cases ha;rfl
      obtain ⟨b1,r1,hb1,hr1,_⟩:=h.loop j hj hd
      rw [ha] at hb1
      cases hb1
      rw [this,hb] at hr1
      cases hr1)
def mnP (α:Al) (i b:Nat):Al:=fun x=>if x=mB+i then some (b,0,0) else α x
theorem rel_newmap (h : Rel lk X E B D A α m w) {kd : Nat} {kk kv : Sk} (hkd : kd % 65536 = kk.c + 256 * kv.c) (hk1 : kk.w < 255) (hk2 : kv.w < 255) (hi : m.x.nm + 1 < 2 ^ 40) (hm : MpM m m.x.nm ⟨kd, .nil, 0⟩ (m.x.nm + 1) m') (hB : B ≤ w.heap.size) (hfr : ¬ A (mB + m.x.nm)) :
    Rel lk X E B D (fun x=>A x∨x=mB+m.x.nm) (mnP α m.x.nm w.heap.size) m' (w.alloc (.map #[] 0))∧Stp B (fun _=>False) (fun x=>x=mB+m.x.nm) A α w (fun x=>A x∨x=mB+m.x.nm) (mnP α m.x.nm w.heap.size) (w.alloc (.map #[] 0)):=by
  have hmp:=hm.mp hi
  have hαn:∀ x,A x→mnP α m.x.nm w.heap.size x=α x:=fun x hx=>by unfold mnP;rw [if_neg fun e=>hfr (by rw [← e];exact hx)]
  have hs:AStep A α (fun x=>A x∨x=mB+m.x.nm) (mnP α m.x.nm w.heap.size):=⟨fun x hx=>.inl hx,fun x hx z hz=>by rw [hαn x hx] at hz;exact hz⟩
  have hcase:∀ x z,mnP α m.x.nm w.heap.size x=some z→(x=mB+m.x.nm∧z=(w.heap.size,0,0))∨(x≠mB+m.x.nm∧α x=some z):=fun x z hz=>by
    unfold mnP at hz
    split at hz
    · rename_i e;cases hz;exact .inl ⟨e,rfl⟩
    · rename_i e;exact .inr ⟨e,hz⟩
  have hold:∀ k,k<w.heap.size→(w.alloc (.map #[] 0)).heap[k]?=w.heap[k]?:=fun k hk=>heap_alloc_old _ _ hk
  have hcell:∀ b0 o0,b0<w.heap.size→(w.alloc (.map #[] 0)).cell? ⟨b0,o0,none⟩=w.cell? ⟨b0,o0,none⟩:=fun b0 o0 hlt=>World.cell?_alloc_lt _ _ _ hlt
  have hfz:∀ b0 o0,b0<w.heap.size→fz (w.alloc (.map #[] 0)) ⟨b0,o0,none⟩=fz w ⟨b0,o0,none⟩:=fun b0 o0 hlt=>by unfold fz;rw [hold _ hlt]
  have hisC:∀ b0,b0<w.heap.size→(isC (w.alloc (.map #[] 0)) b0↔isC w b0):=fun b0 hlt=>by unfold isC;rw [hold _ hlt]
  have hnew:(w.alloc (.map #[] 0)).heap[w.heap.size]?=some (.map #[] 0):=(MapKept.heap_alloc w _).1
  have hsz:(w.alloc (.map #[] 0)).heap.size=w.heap.size+1:=by simp
  have hnC:¬ isC (w.alloc (.map #[] 0)) w.heap.size:=fun ⟨_,_,_,e⟩=>by rw [hnew] at e;cases e
  refine ⟨⟨by
      refine ⟨fun j hj=>?_,fun j hj=>?_⟩
      · rw [hm.strS];exact h.x.str j (by rw [← hm.ns];exact hj)
      · rw [hm.cloS];exact h.x.clo j (by rw [← hm.nc];exact hj),fun a h1 h2 h3 h4=>?_,fun j hj hd=>?_,fun j hj hd=>?_,fun x z hz=>?_,fun x x' b0 o0 l l' h1 h2=>?_,fun x b0 o0 l h1=>?_,fun x b0 o0 r h1 x' o' l' h2=>?_,fun x b0 o0 r h1 j hj=>?_,fun x b0 o0 l h1 hE=>?_,fun x b0 o0 l h1=>?_⟩,
    ⟨rfl,rfl,by rw [hsz];omega,fun x=>Iff.rfl,fun x hx=>.inl (hαn x hx),fun x b0 o0 l hA ha _=>⟨hcell b0 o0 (h.lt x b0 o0 l ha),hfz b0 o0 (h.lt x b0 o0 l ha),fun _=>hold _ (h.lt x b0 o0 l ha)⟩,fun b hb=>hold _ (by omega),fun b o hc=>?_,fun a0 b0 o0 l0 _ h2 h3=>⟨(hαn a0 h2).trans h3,hold _ (h.lt a0 b0 o0 l0 h3)⟩⟩⟩
  · rw [hm.memC] at h4 ⊢
    have hA:A a:=by
      obtain ⟨b0,o0,l0,v0,k,_⟩:=h.cell a h1 h2 h3 h4
      exact h.dom a _ k
    exact (h.cell a h1 h2 h3 h4).keep hs (hαn a hA) fun b0 o0 l0 ha=>⟨hcell b0 o0 (h.lt a b0 o0 l0 ha),hfz b0 o0 (h.lt a b0 o0 l0 ha)⟩
  · rw [hm.nm] at hj
    rw [hmp]
    split
    · rename_i e
      subst e
      exact ⟨kk,kv,w.heap.size,#[],hkd,hk1,hk2,by unfold mnP;rw [if_pos rfl],hnew,rfl,fun j q hq=>by simp [Ml.toL] at hq⟩
    · have hr:=h.map j (by omega) hd
      have hA:A (mB+j):=by obtain ⟨_,_,b,_,_,_,_,k,_⟩:=hr;exact h.dom _ _ k
      exact hr.keep hs (hαn _ hA) fun b0 ha _=>hold _ (h.lt _ b0 _ _ ha)
  · rw [hm.nl] at hj
    rw [hm.lpS]
    have hr:=h.loop j hj hd
    have hA:A (lB+j):=by obtain ⟨b,_,k,_⟩:=hr;exact h.dom _ _ k
    exact hr.keep hs (hαn _ hA) fun b0 ha _=>hold _ (h.lt _ b0 _ _ ha)
  · rcases hcase x z hz with ⟨e,_⟩ | ⟨_,h1⟩
    · exact .inr e
    · exact .inl (h.dom x z h1)
  · rcases hcase x _ h1 with ⟨e1,e2⟩ | ⟨n1,k1⟩ <;> rcases hcase x' _ h2 with ⟨e3,e4⟩ | ⟨n2,k2⟩
    · omega
    · simp only [Prod.mk.injEq] at e2;have:=h.lt _ _ _ _ k2;omega
    · simp only [Prod.mk.injEq] at e4;have:=h.lt _ _ _ _ k1;omega
    · exact h.inj x x' b0 o0 l l' k1 k2
  · rw [hsz]
    rcases hcase x _ h1 with ⟨_,e1⟩ | ⟨_,k1⟩
    · simp only [Prod.mk.injEq] at e1;omega
    · have:=h.lt _ _ _ _ k1;omega
  · rcases hcase x _ h1 with ⟨_,e1⟩ | ⟨n1,k1⟩ <;> rcases hcase x' _ h2 with ⟨_,e2⟩ | ⟨n2,k2⟩
    · simp only [Prod.mk.injEq] at e1;omega
    · simp only [Prod.mk.injEq] at e1;omega
    · simp only [Prod.mk.injEq] at e2;have:=h.lt _ _ _ _ k1;omega
    · exact h.last x b0 o0 r k1 x' o' l' k2
  · rcases hcase x _ h1 with ⟨_,e1⟩ | ⟨_,k1⟩
    · simp only [Prod.mk.injEq] at e1;omega
    · obtain ⟨h3,h4⟩:=h.room x b0 o0 r k1 j hj
      rw [hcell _ _ (h.lt _ _ _ _ k1),hfz _ _ (h.lt _ _ _ _ k1)];exact ⟨h3,h4⟩
  · rcases hcase x _ h1 with ⟨_,e1⟩ | ⟨_,k1⟩
    · simp only [Prod.mk.injEq] at e1;omega
    · exact h.own x b0 o0 l k1 hE
  · rcases hcase x _ h1 with ⟨e,e1⟩ | ⟨_,k1⟩
    · simp only [Prod.mk.injEq] at e1
      obtain ⟨rfl,rfl,rfl⟩:=e1
      exact ⟨fun hx=>by omega,fun _=>⟨rfl,rfl,hnC⟩⟩
    · rw [hisC _ (h.lt _ _ _ _ k1)];exact h.kd x b0 o0 l k1
  · have hlt:b<w.heap.size:=cell?_lt hc
    rw [hcell _ _ hlt,hfz _ _ hlt];exact ⟨hc,rfl⟩
end
end Go.Proofs.YtceaohiahajolaaGreatDoor.VM
namespace Go.Proofs.YtceaohiahajolaaGreatDoor.VM
open Go Go.RowKit
variable {c:Cx}
theorem skc_inj {k k':Sk} (h1:k.w<255) (h2:k'.w<255):k.c=k'.c→k=k':=by
 cases k <;> cases k' <;> simp [Sk.c]
theorem skc_lt {k:Sk} (h:k.w<255):k.c<256:=by
 cases k with
 | one=>show 0<256;decide
 | agg n=>have h:n<255:=h;show n+1<256;omega
def kdN (kk kv:Sk) (l:List Nat):Nat:=kk.c+256*kv.c+65536*chL l
theorem kdN_parts {kk kv:Sk} {l:List Nat} (h1:kk.w<255) (h2:kv.w<255):kdN kk kv l % 65536=kk.c+256*kv.c∧kdN kk kv l / 65536=chL l∧kdW (kdN kk kv l)=kk.w∧kdV (kdN kk kv l)=kv.w:=by
 have:=skc_lt h1
 have:=skc_lt h2
 have e1:kdN kk kv l % 256=kk.c:=by unfold kdN;omega
 have e2:kdN kk kv l / 256 % 256=kv.c:=by unfold kdN;omega
 refine ⟨by unfold kdN;omega,by unfold kdN;omega,?_,?_⟩
 · unfold kdW
   rw [e1]
   cases kk with
   | one=>rfl
   | agg n=>show (if n+1=0 then 1 else n+1 - 1)=n;simp
 · unfold kdV
   rw [e2]
   cases kv with
   | one=>rfl
   | agg n=>show (if n+1=0 then 1 else n+1 - 1)=n;simp
theorem getM_eq {m:M} {kd C:Nat} {k:Ml→Nat→Rs} (hok:Ok (getM m kd C k)):tag C=13∧(mpS m.x (pay C)).kd=kd∧getM m kd C k=k (mpS m.x (pay C)).es (mpS m.x (pay C)).clock:=by
 obtain ⟨h1,hok,e1⟩:=ok_if (r:=Mp.rec (motive:=fun _=>Rs) (getM1 kd k) (mpS m.x (pay C))) hok
 cases hp:mpS m.x (pay C) with
 | mk kd' es clk =>
   rw [hp] at hok e1
   obtain ⟨h2,_,e2⟩:=ok_if (r:=k es clk) hok
   refine ⟨beq_iff.1 h1,beq_iff.1 h2,?_⟩
   have e0:getM m kd C k=Bool.rec (motive:=fun _=>Rs) .bad (Mp.rec (motive:=fun _=>Rs) (getM1 kd k) (mpS m.x (pay C))) (Nat.beq (tag C) 13):=rfl
   rw [e0,hp]
   exact Eq.trans e1 e2
theorem ent_map {i:Nat} (hi:i<2 ^ 46):eA (mlog i)=mB+i∧eN (mlog i)=1:=by
 have e:mlog i=140737488355328+i+281474976710656:=rfl
 constructor
 · show mlog i % 281474976710656=_
   rw [e];unfold mB;omega
 · show mlog i >>> 48=_
   rw [e,Nat.shiftRight_eq_div_pow];omega
theorem mlogR_eq (m:M) (i:Nat) (k:M→Rs):∃ m',mlogR m i k=k m'∧SameM m m'∧(i<2 ^ 46→Cov m'.g (mB+i)):=by
 obtain ⟨brk,cur,pg,x,⟨wm,rl,wl⟩⟩:=m
 cases wm with
 | zero=>exact ⟨_,rfl,.refl _,fun _=>.inl rfl⟩
 | succ n =>
   refine ⟨⟨brk,cur,pg,x,⟨n+1,mlog i :: rl,wl⟩⟩,rfl,⟨rfl,rfl,rfl,rfl,rfl,fun e he=>List.mem_cons_of_mem _ he,fun e he=>he⟩,fun hi=>.inr (.inr (.inl ⟨mlog i,List.mem_cons_self ..,?_⟩))⟩
   obtain ⟨e1,e2⟩:=ent_map hi
   rw [e1,e2];omega
theorem mlogW_eq (m:M) (i:Nat) (k:M→Rs):∃ m',mlogW m i k=k m'∧SameM m m'∧(i<2 ^ 46→CovC m'.g m'.brk (mB+i)):=by
 obtain ⟨brk,cur,pg,x,⟨wm,rl,wl⟩⟩:=m
 cases wm with
 | zero=>exact ⟨_,rfl,.refl _,fun _=>.inl rfl⟩
 | succ n =>
   refine ⟨⟨brk,cur,pg,x,⟨n+1,rl,mlog i :: wl⟩⟩,rfl,⟨rfl,rfl,rfl,rfl,rfl,fun e he=>he,fun e he=>List.mem_cons_of_mem _ he⟩,fun hi=>.inr (.inr ⟨mlog i,List.mem_cons_self ..,?_⟩)⟩
   obtain ⟨e1,e2⟩:=ent_map hi
   rw [e1,e2];omega
structure MapT (P:Program) (t:TypeId) (kt vt:TypeId) (kk kv:Sk) (str:Bool) (l:List Nat):Prop where
 un:P.underlying t=some (.map kt vt)
 key:KeyT P kt kk str l
 wk:kk.w<255
 wv:kv.w<255
 v0:0<kv.w
 ne:chL l≠0
section
variable {X:Xs} {A:Nat→Prop} {α:Al} {m m':M} {w:World} {D:Nat→Prop} {lk:Lk} {E B C:Nat} {v u:Value} {t kt vt:TypeId} {kk kv:Sk} {str:Bool} {l:List Nat} {key:Nat}
structure MapIs (X:Xs) (A:Nat→Prop) (α:Al) (w:World) (m:M) (C b:Nat) (es:Array MapEntry) (kk kv:Sk):Prop where
 lt:pay C<m.x.nm
 al:α (mB+pay C)=some (b,0,0)
 heap:w.heap[b]?=some (.map es (mpS m.x (pay C)).clock)
 size:es.size=(Ml.toL (mpS m.x (pay C)).es).length
 ent:∀ (j:Nat) (q:Nat × Nat × Nat),(Ml.toL (mpS m.x (pay C)).es)[j]?=some q→∃ e,es[j]?=some e∧q.1≠0∧q.1≠2∧q.2.1≠0∧q.2.1≠2∧SK X A α kk q.1 e.key∧SK X A α kv q.2.1 e.val∧e.born=q.2.2∧q.2.2<(mpS m.x (pay C)).clock
theorem map_get (hT:MapT c.P t kt vt kk kv str l) (hR:NR X A α C v) (ht:tag C=13) (hkd:(mpS m.x (pay C)).kd=kdN kk kv l) (hw:Wf m) (hr:Rel lk X E B D A α m w) (hD:pay C<2 ^ 46→D (mB+pay C)):∃ b es,v=.map (some b)∧MapIs X A α w m C b es kk kv:=by
 obtain ⟨mi,b,e1,ev,hA,hb⟩:=hR.map_inv ht
 have hp:pay C=mi:=by rw [e1];exact pay_mk (by decide)
 have hlt:pay C<m.x.nm:=by
   refine Nat.lt_of_not_le fun hge=>?_
   have h0:=hw.x.mz _ hge
   rw [hkd] at h0
   have:=(kdN_parts (l:=l) hT.wk hT.wv).2.1
   rw [h0] at this
   exact hT.ne (by omega)
 have hnm:=hw.x.nm
 obtain ⟨kk',kv',b',es,h0,h1,h2,h3,h4,h5,h6⟩:=hr.map (pay C) hlt (hD (by omega))
 rw [hkd,(kdN_parts hT.wk hT.wv).1] at h0
 have hk1:=skc_lt h1
 have hk2:=skc_lt h2
 have hk3:=skc_lt hT.wk
 have hk4:=skc_lt hT.wv
 have ek:kk=kk':=skc_inj hT.wk h1 (by omega)
 have ev':kv=kv':=skc_inj hT.wv h2 (by omega)
 subst ek;subst ev'
 have hbb:b'=b:=by have:=hb _ (by rw [← hp];exact h3);exact this
 subst hbb
 exact ⟨b',es,ev,hlt,h3,h4,h5,h6⟩
structure KeyIs (X:Xs) (A:Nat→Prop) (α:Al) (m:M) (kk:Sk) (str:Bool) (l:List Nat) (key:Nat) (u:Value):Prop where
 sk:SK X A α kk key u
 pat:Nat.land key (31*flags l.length)=chL l
 st:str=true→stId key<m.x.ns
 lt:key<2 ^ (128*l.length)
theorem kOk_iff (h1:kk.w<255) (h2:kv.w<255) (h:kOk m str (31*flags l.length) (kdN kk kv l) key=true):Nat.land key (31*flags l.length)=chL l∧(str=true→stId key<m.x.ns):=by
 have h:bAnd (Nat.beq (Nat.land key (31*flags l.length)) (kdN kk kv l >>> 16)) (Bool.rec true (isSt m key) str)=true:=h
 rw [bAnd_eq,Bool.and_eq_true,beq_iff,Nat.shiftRight_eq_div_pow] at h
 have e:kdN kk kv l / 2 ^ 16=chL l:=(kdN_parts h1 h2).2.1
 rw [e] at h
 refine ⟨h.1,fun hs=>?_⟩
 subst hs
 exact (isSt_iff.1 h.2).2
theorem keys_pat (hT : MapT c.P t kt vt kk kv str l) (hkd : (mpS m.x (pay C)).kd = kdN kk kv l) (hw : Wf m) (hlt : pay C < m.x.nm) {q : Nat × Nat × Nat} (hq : q ∈ Ml.toL (mpS m.x (pay C)).es) :
    Nat.land q.1 (31*flags l.length)=chL l∧(tag q.1=9→stId q.1<m.x.ns)∧q.1<2 ^ (128*l.length)∧q.2.1<2 ^ (128*kv.w):=by
  have h:=hw.x.keys _ hlt q hq
  rw [hkd,(kdN_parts hT.wk hT.wv).2.1,(kdN_parts hT.wk hT.wv).2.2.1,(kdN_parts hT.wk hT.wv).2.2.2,hT.key.len] at h
  exact h
theorem find_both (hT : MapT c.P t kt vt kk kv str l) (hkd : (mpS m.x (pay C)).kd = kdN kk kv l) (hw : Wf m) (hX : XLe m.x X) {b : Nat} {es : Array MapEntry} (hI : MapIs X A α w m C b es kk kv) (hK : KeyIs X A α m kk str l key u) :
    ((∀ q∈Ml.toL (mpS m.x (pay C)).es,mKey m str key q.1=false)→(∀ w,(Instr.findKey kt u es.toList).run c.P w=.ok none w)∧∀ q∈Ml.toL (mpS m.x (pay C)).es,¬ SameKy m.x key q.1) ∧
    (∀ (j:Nat) (q:Nat × Nat × Nat),(Ml.toL (mpS m.x (pay C)).es)[j]?=some q→mKey m str key q.1=true→∃ e,es[j]?=some e∧(∀ w,(Instr.findKey kt u es.toList).run c.P w=.ok (some (j,e.val)) w)∧e.key=u):=by
  obtain ⟨d,hd⟩:∃ d,c.P.underlying kt=some d:=by
    cases hT.key with
    | str h=>exact ⟨_,h⟩
    | int h=>exact ⟨_,h⟩
    | deep _ _ _ h=>exact ⟨_,h⟩
    | arr _ h=>exact ⟨_,h⟩
  have hcmp:∀ (j:Nat) (q:Nat × Nat × Nat) (e:MapEntry),(Ml.toL (mpS m.x (pay C)).es)[j]?=some q→es[j]?=some e→(mKey m str key q.1=true→e.key=u)∧(SameKy m.x key q.1↔mKey m str key q.1=true)∧KeyE c.P kt kk u e.key (mKey m str key q.1):=fun j q e hq he=>by
    obtain ⟨e',he',_,_,_,_,hsk,_⟩:=hI.ent j q hq
    rw [he] at he';cases he'
    obtain ⟨k1,k2,k3,_⟩:=keys_pat hT hkd hw hI.lt (List.mem_of_getElem? hq)
    exact hT.key.eq hX hK.sk hsk hK.pat k1 (fun h _=>hK.st h) (fun _ h9=>k2 h9) hK.lt k3
  have hfind:∀ w,(Instr.findKey kt u es.toList).run c.P w=.ok (fnd es.toList ((Ml.toL (mpS m.x (pay C)).es).map fun q=>mKey m str key q.1) 0) w:=fun w=>by
    refine run_find (kk:=kk) hd w _ _ (by simp [hI.size]) fun j e b' he hb=>?_
    rw [List.getElem?_map] at hb
    obtain ⟨q,hq,rfl⟩:=Option.map_eq_some_iff.1 hb
    exact (hcmp j q e hq (by simpa using he)).2.2
  refine ⟨fun hno=>⟨fun w=>?_,fun q hq=>?_⟩,fun j q hq hk=>?_⟩
  · rw [hfind, fnd_none _ _ _ (fun b hb => by
      obtain ⟨q,hq,rfl⟩:=List.mem_map.1 hb
      exact hno q hq)]
  · obtain ⟨j,hj⟩:=List.mem_iff_getElem?.1 hq
    have hlt:=(List.getElem?_eq_some_iff.1 hj).1
    obtain ⟨e,he,_⟩:=hI.ent j q hj
    intro hs
    have:=(hcmp j q e hj he).2.1.1 hs
    rw [hno q hq] at this;cases this
  · obtain ⟨e,he,_⟩:=hI.ent j q hq
    refine ⟨e,he,fun w=>?_,(hcmp j q e hq he).1 hk⟩
    rw [hfind,fnd_some _ _ 0 j e (by simpa using he) (by rw [List.getElem?_map,hq];simp [hk]) (fun i hi hb=>?_) (by simp [hI.size])]
    · simp
    · rw [List.getElem?_map] at hb
      obtain ⟨q',hq',hk'⟩:=Option.map_eq_some_iff.1 hb
      obtain ⟨e',he',_⟩:=hI.ent i q' hq'
      have s1:=(hcmp j q e hq he).2.1.2 hk
      have s2:=(hcmp i q' e' hq' he').2.1.2 hk'
      have hu:=(List.pairwise_iff_getElem.1 (hw.x.uniq _ hI.lt)) i j (List.getElem?_eq_some_iff.1 hq').1 (List.getElem?_eq_some_iff.1 hq).1 hi
      rw [(List.getElem?_eq_some_iff.1 hq').2,(List.getElem?_eq_some_iff.1 hq).2] at hu
      refine hu.1 ?_
      unfold SameKy at s1 s2 ⊢
      by_cases h9:tag key=9
      · rw [if_pos h9] at s1 s2
        rw [if_pos s2.1]
        exact ⟨s1.1,s2.2.1.symm.trans s1.2.1,s2.2.2.symm.trans s1.2.2⟩
      · rw [if_neg h9] at s1 s2
        rw [if_neg (by rw [← s2];exact h9),← s2,← s1]
end
section
variable {d:Option Tmp} {ty:TypeId} {pos:String} {af:Array Edge} {g:Option (Nat × Bool)} {v:Env} {x y z:Operand} {a b q:O}
theorem mm_eq {kd:Nat} {m:M} {kk:Kn} (hok:Ok (low m.x.nm (mlogW m m.x.nm (mm0 kd kk)))):∃ m1 m',low m.x.nm (mlogW m m.x.nm (mm0 kd kk))=kk (mkI 13 m.x.nm) m'∧m.x.nm≤549755813887∧SameM m m1∧CovC m1.g m1.brk (mB+m.x.nm)∧MpM m1 m1.x.nm ⟨kd,.nil,0⟩ (m1.x.nm+1) m':=by
 obtain ⟨h1,_,e1⟩:=ok_if (r:=mlogW m m.x.nm (mm0 kd kk)) hok
 have h1:m.x.nm≤549755813887:=ble_iff.1 h1
 obtain ⟨m1,e2,hs,hcv⟩:=mlogW_eq m m.x.nm (mm0 kd kk)
 have hcv:=hcv (by omega)
 have hx:=hs.x
 obtain ⟨brk,cur,pg,⟨ns,str,nc,clo,nm,mp,nl,lp⟩,gg⟩:=m1
 obtain ⟨t,e,ht⟩:=tput_any ⟨0,.nil,0⟩ (⟨kd,.nil,0⟩:Mp) 40 nm mp (mm1 ⟨brk,cur,pg,⟨ns,str,nc,clo,nm,mp,nl,lp⟩,gg⟩ kk)
 refine ⟨⟨brk,cur,pg,⟨ns,str,nc,clo,nm,mp,nl,lp⟩,gg⟩,⟨brk,cur,pg,⟨ns,str,nc,clo,nm+1,t,nl,lp⟩,gg⟩,?_,h1,hs,hcv,rfl,rfl,rfl,rfl,rfl,rfl,rfl,rfl,rfl,rfl,rfl,ht⟩
 refine Eq.trans e1 (Eq.trans e2 (Eq.trans e ?_))
 rw [← hx]
 refine (natK_eq _ _).trans ?_
 exact natK_eq _ _
theorem run_mm {P:Program} {w:World} {t kt vt:TypeId} {r:Option Value} (ht:P.underlying t=some (.map kt vt)) (hr:r=none∨∃ k n,r=some (.int k n)):(Instr.makeMap t r).run P w=.ok (.map (some w.heap.size)) (w.alloc (.map #[] 0)):=by
 rcases hr with rfl | ⟨k,n,rfl⟩
 · simp [Instr.makeMap]
 · simp [Instr.makeMap,run_underlying ht,asInt,asIntOf]
theorem st_mm {t kt vt:TypeId} {kk kv:Sk} {str:Bool} {l:List Nat} (hT:MapT c.P t kt vt kk kv str l) {r:Option Operand} (hr:r=none∨∃ k n,r=some (.const (.int k n))):StOk c ⟨d,.makeMap t r,ty,pos,af,g⟩ (fun _ _ _ _ _=>True) (.s .one) v (s_mm (kdN kk kv l)):=by
 intro F m kk' hok
 obtain ⟨m1,m',e,h1,hs,hcv,h2⟩:=mm_eq hok
 have hstep:MStep m m':=hs.step.trans (h2.step (Nat.le_succ _))
 refine ⟨_,m',e,hstep,?_⟩
 intro zc X A α act w hX hL hc hw hR hrel hnew hB K Q hK
 have hnm1:m1.x.nm=m.x.nm:=by rw [hs.x]
 have hN:News m m' (mB+m.x.nm):=by unfold News;rw [h2.nm,hnm1];omega
 obtain ⟨k1,k2⟩:=rel_newmap (hrel.log hs) (kdN_parts (l:=l) hT.wk hT.wv).1 hT.wk hT.wv (by omega) h2 hB (by rw [hnm1];exact hnew _ hN)
 rw [hnm1] at k1 k2
 refine ⟨fun f _=>zc.hF f,?_⟩
 rw [Oper.semAt_eq _ _ _ (fun _ h=>by cases h)]
 have hrun:=run_mm (P:=c.P) (w:=w) (r:=r.map act.eval) hT.un (by
   rcases hr with rfl | ⟨k,n,rfl⟩
   · exact .inl rfl
   · exact .inr ⟨k,n,rfl⟩)
 have hms1:MSem m1 m':=⟨h2.wf (by omega) (hs.wf hw) (by omega) (by omega) (.inr ⟨rfl,rfl⟩) (by simp [Ml.toL]) (by simp [Ml.toL]) (by simp [Ml.toL]),fun a _ _ _=>h2.memC a,fun i hi _=>by rw [h2.mp (by omega),if_neg (by omega)],fun i _ _=>h2.lpS i,fun a hn _=>by
   unfold News at hn
   rw [h2.brk,h2.nm,h2.nl] at hn
   have ha:a=mB+m.x.nm:=by omega
   rw [ha,h2.g,h2.brk];exact hcv⟩
 unfold execOp
 simp only [Sem.run_bind,hrun]
 refine hK _ _ _ _ (MSem.trans hs.step (h2.step (Nat.le_succ _)) (hs.sem hw) hms1) ?_ k1 (k2.weak (fun _ h=>h.elim) fun x=>?_)
 · refine NR.map (.inr rfl) fun z hz=>?_
   unfold mnP at hz
   rw [if_pos rfl] at hz
   cases hz;rfl
 · unfold News
   rw [h2.brk,h2.nm,h2.nl,hs.brk,hs.x];omega
def tupK (kv:Sk) (ok:Nat):Kd:=match ok with
 | 0=>.s kv | _+1=>.tup [kv,.one]
theorem okv_sr {X:Xs} {A:Nat→Prop} {α:Al} {kv:Sk} {C ok:Nat} {u:Value} (hC:C<2 ^ (128*kv.w)) (h0:C≠0) (h:SK X A α kv C u) (b:Bool):SR X A α (tupK kv ok) (okv C (128*kv.w) (bN b) ok) (if ok=0 then u else .tuple #[u,.bool b]):=by
 cases ok with
 | zero=>exact h
 | succ n =>
   rw [if_neg (by omega)]
   have e:okv C (128*kv.w) (bN b) (n+1)=C ||| (bN b) <<< (128*kv.w):=rfl
   rw [e]
   have hb:bN b<2 ^ 128:=by cases b <;> decide
   refine .inr (.inr ⟨_,rfl,rfl,fun j k hj=>?_⟩)
   match j,hj with
   | 0,hj =>
     cases hj
     have e2:prt [kv,.one] (C ||| (bN b) <<< (128*kv.w)) 0=C:=by
       show fld _ (128*0) (128*kv.w)=C
       rw [fld_lor,fld_shl_low (by omega),Nat.or_zero];exact fld_all hC
     rw [e2];exact h
   | 1,hj =>
     cases hj
     have e2:prt [kv,.one] (C ||| (bN b) <<< (128*kv.w)) 1=bN b:=by
       show fld _ (128*(kv.w+0)) (128*1)=_
       rw [fld_lor,show 128*(kv.w+0)=128*kv.w+0 by omega,fld_shl,fld_big (by rw [Nat.add_zero];exact hC),Nat.zero_or];exact fld_all hb
     rw [e2];exact NR.bool b
   | j+2,hj=>simp at hj
structure ZV (c:Cx) (vt:TypeId) (kv:Sk) (z:Nat) (i:TypeInfo) (u:Value):Prop where
 info:c.P.info? vt=some i
 zero:i.zero=some u
 sk:∀ X A α,c.cx X→SK X A α kv z u
 lt:z<2 ^ (128*kv.w)
 ne:z≠0
 n2:z≠2
def RM (kk:Sk) (x y:Operand) (a b:O) (F:Nat) (X:Xs) (A:Nat→Prop) (α:Al) (act:Act):Prop:=NR X A α (a F) (act.eval x)∧SK X A α kk (b F) (act.eval y)
theorem st_mlk {t kt vt : TypeId} {kk kv : Sk} {str : Bool} {l : List Nat} {zc ok : Nat} {i : TypeInfo} {uz : Value} (hT : MapT c.P t kt vt kk kv str l) (hz : ZV c vt kv zc i uz) (hb : ∀ F, b F < 2 ^ (128 * l.length)) (hok : ok ≤ 1) :
    StOk c ⟨d,.lookup t x y (ok == 1),ty,pos,af,g⟩ (RM kk x y a b) (tupK kv ok) v (s_mlk str (31*flags l.length) (kdN kk kv l) zc (128*kv.w) ok a b):=by
  have hres:∀ (u:Value) (bb:Bool),(if (ok == 1)=true then Value.tuple #[u,.bool bb] else u)=if ok=0 then u else .tuple #[u,.bool bb]:=fun u bb=>by
    have:ok=0∨ok=1:=by omega
    rcases this with rfl | rfl <;> rfl
  have hzv:∀ w,(zeroValue vt).run c.P w=.ok uz w:=fun w=>by simp [zeroValue,typeInfo,hz.info,hz.zero,Sem.run_bind,go_sem]
  obtain ⟨dk,hdk⟩:∃ d,c.P.underlying kt=some d:=by
    cases hT.key with
    | str h=>exact ⟨_,h⟩
    | int h=>exact ⟨_,h⟩
    | deep _ _ _ h=>exact ⟨_,h⟩
    | arr _ h=>exact ⟨_,h⟩
  intro F m kk' hok'
  obtain ⟨hkey,hok',e2⟩:=ok_if (r:=lk0 str (kdN kk kv l) zc (128*kv.w) ok (a F) (b F) m kk') hok'
  obtain ⟨hk1,hk2⟩:=kOk_iff hT.wk hT.wv hkey
  by_cases h65:a F=65
  · have e1 : lk0 str (kdN kk kv l) zc (128 * kv.w) ok (a F) (b F) m kk' = kk' (okv zc (128 * kv.w) (bN false) ok) m := by
      show Bool.rec (motive:=fun _=>Rs) _ _ (Nat.beq (a F) 65)=_
      rw [h65];exact natK_eq _ _
    rw [e1] at hok'
    refine ⟨_,m,Eq.trans e2 e1,MStep.refl m,ops_value (SameM.refl m) fun X A α act w _ hc hR _=>⟨(fun _ h=>by cases h),_,?_,okv_sr hz.lt hz.ne (hz.sk X A α hc) false⟩⟩
    have hck:=(hT.key.chk hR.2 hk1 true w).1
    unfold execOp
    have hf:(Instr.findKey kt (act.eval y) []).run c.P w=.ok none w:=by
      unfold Instr.findKey
      simp only [Sem.run_bind,run_underlying hdk,Result.andThen_ok,Instr.findNow,Sem.run_pure]
    simp only [Sem.run_bind,Instr.lookup,run_underlying hT.un,Result.andThen_ok,hR.1.nilM_inv h65,Sem.run_pure,Array.isEmpty_empty,hck,hf,hzv,hres]
  · have e1 : lk0 str (kdN kk kv l) zc (128 * kv.w) ok (a F) (b F) m kk' = getM m (kdN kk kv l) (a F) (lk1 str zc (128 * kv.w) ok (a F) (b F) m kk') := by
      show Bool.rec (motive:=fun _=>Rs) _ _ (Nat.beq (a F) 65)=_
      rw [beq_ff h65]
    rw [e1] at hok'
    have e2:=Eq.trans e2 e1
    obtain ⟨ht,hkd,e3⟩:=getM_eq hok'
    obtain ⟨m',e4,hs,hcv⟩:=mlogR_eq m (pay (a F)) (lk2 str zc (128*kv.w) ok (b F) kk' (mpS m.x (pay (a F))).es)
    have e4:lk1 str zc (128*kv.w) ok (a F) (b F) m kk' (mpS m.x (pay (a F))).es (mpS m.x (pay (a F))).clock=mfind m' str (b F) (lkN zc (128*kv.w) ok m' kk') (lkY (128*kv.w) ok m' kk') (mpS m.x (pay (a F))).es:=e4
    have hmk:∀ k k',mKey m' str k k'=mKey m str k k':=fun k k'=>by unfold mKey sEq strB;rw [hs.x]
    rcases mfind_eq m' str (b F) (lkN zc (128*kv.w) ok m' kk') (lkY (128*kv.w) ok m' kk') (mpS m.x (pay (a F))).es with ⟨f1,f2⟩ | ⟨j,q,f1,f2,f3⟩
    · have e5:lkN zc (128*kv.w) ok m' kk'=kk' (okv zc (128*kv.w) (bN false) ok) m':=natK_eq _ _
      refine ⟨_,m',Eq.trans e2 (Eq.trans e3 (Eq.trans e4 (Eq.trans f2 e5))),hs.step,?_⟩
      intro zc X A α act w hX hL hc hw hR hr hnew hB K Q hK
      have hXm:XLe m.x X:=by rw [← hs.x];exact hX
      obtain ⟨bb,es,ev,hI⟩:=map_get hT hR.1 ht hkd hw hr (fun h=>hcv h)
      have hKI:KeyIs X A α m kk str l (b F) (act.eval y):=⟨hR.2,hk1,hk2,hb F⟩
      obtain ⟨g1,_⟩:=(find_both hT hkd hw hXm hI hKI).1 (fun q hq=>by rw [← hmk];exact f1 q hq)
      have hck:=(hT.key.chk hR.2 hk1 es.isEmpty w).1
      refine ⟨fun f _=>zc.hF f,?_⟩
      rw [Oper.semAt_eq _ _ _ (fun _ h=>by cases h)]
      unfold execOp
      simp only [Sem.run_bind,Instr.lookup,run_underlying hT.un,Result.andThen_ok,ev,MapKept.run_getObj_map hI.heap,Sem.run_pure,hck,g1,hzv,hres]
      exact hK _ A α w (hs.sem hw) (okv_sr hz.lt hz.ne (hz.sk X A α hc) false) (hr.log hs) (Stp.none fun x=>News.same hs.brk hs.x x)
    · have e5:lkY (128*kv.w) ok m' kk' q.2.1 q.2.2=kk' (okv q.2.1 (128*kv.w) (bN true) ok) m':=natK_eq _ _
      refine ⟨_,m',Eq.trans e2 (Eq.trans e3 (Eq.trans e4 (Eq.trans f3 e5))),hs.step,?_⟩
      intro zc X A α act w hX hL hc hw hR hr hnew hB K Q hK
      have hXm:XLe m.x X:=by rw [← hs.x];exact hX
      obtain ⟨bb,es,ev,hI⟩:=map_get hT hR.1 ht hkd hw hr (fun h=>hcv h)
      have hKI:KeyIs X A α m kk str l (b F) (act.eval y):=⟨hR.2,hk1,hk2,hb F⟩
      obtain ⟨e,he,g1,_⟩:=(find_both hT hkd hw hXm hI hKI).2 j q f1 (by rw [← hmk];exact f2)
      obtain ⟨e',he',_,_,hq0,_,_,hsv,_⟩:=hI.ent j q f1
      rw [he] at he';cases he'
      obtain ⟨_,_,_,hql⟩:=keys_pat hT hkd hw hI.lt (List.mem_of_getElem? f1)
      have hck:=(hT.key.chk hR.2 hk1 es.isEmpty w).1
      refine ⟨fun f _=>zc.hF f,?_⟩
      rw [Oper.semAt_eq _ _ _ (fun _ h=>by cases h)]
      unfold execOp
      simp only [Sem.run_bind,Instr.lookup,run_underlying hT.un,Result.andThen_ok,ev,MapKept.run_getObj_map hI.heap,Sem.run_pure,hck,g1,hres]
      exact hK _ A α w (hs.sem hw) (okv_sr hql hq0 hsv true) (hr.log hs) (Stp.none fun x=>News.same hs.brk hs.x x)
end
end Go.Proofs.YtceaohiahajolaaGreatDoor.VM
namespace Go.Proofs.YtceaohiahajolaaGreatDoor.VM
open Go Go.RowKit
variable {c:Cx}
theorem SameKy.symm {x:Xt} {k k':Nat} (h:SameKy x k k'):SameKy x k' k:=by
 unfold SameKy at h ⊢
 by_cases h9:tag k=9
 · rw [if_pos h9] at h
   rw [if_pos h.1]
   exact ⟨h9,h.2.1.symm,h.2.2.symm⟩
 · rw [if_neg h9] at h
   subst h
   rw [if_neg h9]
theorem eqPat_ne9 {P:Program}:∀ (n:Nat) (t:TypeId) (l:List Nat),eqPat P n t=some l→∀ q∈l,q≠9
 | 0,_,_,h=>by simp [eqPat] at h
 | n+1,t,l,h=>by
   unfold eqPat at h
   split at h
   · obtain ⟨_,rfl⟩:=one_iff h
     intro q hq;simp at hq;subst hq;have:=kt_odd ‹_›;omega
   · obtain ⟨_,rfl⟩:=one_iff h
     intro q hq;simp at hq;omega
   · obtain ⟨_,hf,_⟩:=st_iff h
     have key:∀ (fs:List Field) (acc l:List Nat),fs.foldlM (fun (acc:List Nat) f=>if f.name= "_" || f.offset != acc.length then none else (eqPat P n f.type).map fun l=>acc++l) acc=some l→(∀ q∈acc,q≠9)→∀ q∈l,q≠9:=by
       intro fs
       induction fs with
       | nil=>intro acc l h ha;simp at h;subst h;exact ha
       | cons f fs ih2 =>
         intro acc l h ha
         rw [List.foldlM_cons] at h
         split at h
         · simp at h
         · cases hp:eqPat P n f.type with
           | none=>rw [hp] at h;simp at h
           | some lf =>
             rw [hp] at h
             simp only [Option.map_some,Option.bind_eq_bind,Option.bind_some] at h
             refine ih2 _ _ h fun q hq=>?_
             rcases List.mem_append.1 hq with hq | hq
             · exact ha q hq
             · exact eqPat_ne9 n _ _ hp q hq
     exact key _ _ _ hf (by simp)
   · cases h
theorem cell0_tag (C:Nat):tag (cell C 0)=tag C:=by
 rw [tag_eq,tag_eq]
 show (C >>> (128*0) % 2 ^ 128) % 32=C % 32
 rw [Nat.mul_zero,Nat.shiftRight_zero];omega
theorem KeyT.tag {P:Program} {k:TypeId} {kk:Sk} {str:Bool} {l:List Nat} (h:KeyT P k kk str l) {C:Nat} (hp:Nat.land C (31*flags l.length)=chL l):VM.tag C % 2=1∧(VM.tag C=9→str=true):=by
 have hp:=land_comm hp
 cases h with
 | str h=>rw [tag_of hp];exact ⟨rfl,fun _=>rfl⟩
 | int h=>rw [tag_of hp];have:=kt_odd ‹_›;exact ⟨by omega,fun h=>by omega⟩
 | deep hn h hk hu =>
   have h0:0<l.length:=(sk_split hk).2.1
   have ht:=tags_of (eqPat_lt _ _ _ h) hp 0 _ (List.getElem?_eq_getElem h0)
   rw [Nat.add_zero,cell0_tag] at ht
   rw [ht]
   exact ⟨eqPat_odd _ _ _ h _ (List.getElem_mem h0),fun h9=>absurd h9 (eqPat_ne9 _ _ _ h _ (List.getElem_mem h0))⟩
 | arr h0 hu he hse hk =>
   have ht:=tags_of (KeyT.lt (P:=P) (.arr h0 hu he hse hk)) hp 0 _ (by rw [List.getElem?_replicate,if_pos h0])
   rw [Nat.add_zero,cell0_tag] at ht
   rw [ht]
   have:=kt_odd ‹_›
   exact ⟨by omega,fun h=>by omega⟩
theorem odd_ne {C:Nat} (h:C % 2=1):C≠0∧C≠2:=by omega
theorem tag_odd (C:Nat):tag C % 2=C % 2:=by rw [tag_eq];omega
section
variable {X:Xs} {A:Nat→Prop} {α:Al} {m m1 m':M} {w:World} {C b i:Nat} {v u uv:Value} {t kt vt:TypeId} {kk kv:Sk} {str:Bool} {l:List Nat} {key val:Nat} {p:Mp} {es:Array MapEntry}
theorem map_fin (hs : SameM m m1) (hm : MpM m1 i p m1.x.nm m') (hcv : i < 2 ^ 46 → CovC m1.g m1.brk (mB + i)) (him : i < m.x.nm) (hw : Wf m) (hr : Rel c.lk X 1048576 c.B (Cov m'.g) A α m w) (hα : α (mB + i) = some (b, 0, 0)) {es0 : Array MapEntry} {clk0 : Nat} (hb : w.heap[b]? = some (.map es0 clk0))
    (hp:MpR X A α (w.putObj b (.map es p.clock)) i p) (h1:(Ml.toL p.es).Pairwise fun q q'=>¬ SameKy m.x q.1 q'.1∧q.2.2≠q'.2.2) (h2:∀ q∈Ml.toL p.es,q.2.2<p.clock)
    (h3:∀ q∈Ml.toL p.es,Nat.land q.1 (31*flags (kdW p.kd))=p.kd / 65536∧(tag q.1=9→stId q.1<m.x.ns)∧q.1<2 ^ (128*kdW p.kd)∧q.2.1<2 ^ (128*kdV p.kd)) :
    MSem m m'∧Rel c.lk X 1048576 c.B (Cov m'.g) A α m' (w.putObj b (.map es p.clock))∧Stp c.B (CovC m'.g m'.brk) (News m m') A α w A α (w.putObj b (.map es p.clock)):=by
  have hnm:=hw.x.nm
  have hi:i+1<2 ^ 40:=by omega
  have him1:i<m1.x.nm:=by rw [hs.x];exact him
  have hcc:CovC m'.g m'.brk (mB+i):=by rw [hm.g,hm.brk];exact hcv (by omega)
  obtain ⟨k1,k2⟩:=rel_setmap (hr.log hs) hi him1 hm hα (by decide) hb hp
  refine ⟨⟨hm.wf hi (hs.wf hw) (by rw [hs.x];exact hnm) him1 (.inl rfl) (by rw [hs.x];exact h1) h2 (by rw [hs.x];exact h3),fun a _ _ _=>(hm.memC a).trans (hs.memC a),fun j hj hn=>?_,fun j _ _=>by rw [hm.lpS,hs.x],fun y hn _=>by unfold News at hn;rw [hm.brk,hm.nm,hm.nl,hs.brk,hs.x] at hn;omega⟩,k1,k2.weak (fun x hx=>by subst hx;exact hcc) fun x=>⟨fun h=>h.elim,fun h=>?_⟩⟩
  · rw [hm.mp hi,if_neg (fun e=>hn (by rw [e];exact hcc)),hs.x]
  · unfold News at h
    rw [hm.brk,hm.nm,hm.nl,hs.brk,hs.x] at h;omega
theorem setV_parts (born v:Nat) (q:Nat × Nat × Nat):(setV born v q).1=q.1∧(setV born v q).2.2=q.2.2∧((setV born v q).2.1=q.2.1∨(setV born v q).2.1=v):=by
 unfold setV
 split
 · exact ⟨rfl,rfl,.inr rfl⟩
 · exact ⟨rfl,rfl,.inl rfl⟩
theorem map_push (hT : MapT c.P t kt vt kk kv str l) (hkd : (mpS m.x (pay C)).kd = kdN kk kv l) (hw : Wf m) (hI : MapIs X A α w m C b es kk kv) (hK : KeyIs X A α m kk str l key u) (hno : ∀ q ∈ Ml.toL (mpS m.x (pay C)).es, ¬ SameKy m.x key q.1) (hv : SK X A α kv val uv) (hv0 : val ≠ 0) (hv2 : val ≠ 2) (hvl : val < 2 ^ (128 * kv.w)) :
    MpR X A α (w.putObj b (.map (es.push { key:=u,val:=uv,born:=(mpS m.x (pay C)).clock }) ((mpS m.x (pay C)).clock+1))) (pay C) ⟨kdN kk kv l,.cons key val (mpS m.x (pay C)).clock (mpS m.x (pay C)).es,(mpS m.x (pay C)).clock+1⟩ ∧
    ((Ml.toL (mpS m.x (pay C)).es++[(key,val,(mpS m.x (pay C)).clock)]).Pairwise fun q q'=>¬ SameKy m.x q.1 q'.1∧q.2.2≠q'.2.2)∧(∀ q∈Ml.toL (mpS m.x (pay C)).es++[(key,val,(mpS m.x (pay C)).clock)],q.2.2<(mpS m.x (pay C)).clock+1) ∧
    (∀ q∈Ml.toL (mpS m.x (pay C)).es++[(key,val,(mpS m.x (pay C)).clock)],Nat.land q.1 (31*flags (kdW (kdN kk kv l)))=kdN kk kv l / 65536∧(tag q.1=9→stId q.1<m.x.ns)∧q.1<2 ^ (128*kdW (kdN kk kv l))∧q.2.1<2 ^ (128*kdV (kdN kk kv l))):=by
  obtain ⟨e1,e2,e3,e4⟩:=kdN_parts (l:=l) hT.wk hT.wv
  have hlt:b<w.heap.size:=(Array.getElem?_eq_some_iff.1 hI.heap).1
  have hkt:=hT.key.tag hK.pat
  have hk0:=odd_ne ((tag_odd key) ▸ hkt.1)
  refine ⟨⟨kk,kv,b,_,e1,hT.wk,hT.wv,hI.al,World.putObj_heap_same hlt,?_,fun j q hq=>?_⟩,?_,?_,?_⟩
  · simp [Ml.toL,hI.size]
  · simp only [Ml.toL] at hq
    by_cases hj:j<(Ml.toL (mpS m.x (pay C)).es).length
    · rw [List.getElem?_append_left hj] at hq
      obtain ⟨e,he,k1,k2,k3,k4,k5,k6,k7,k8⟩:=hI.ent j q hq
      refine ⟨e,?_,k1,k2,k3,k4,k5,k6,k7,Nat.lt_succ_of_lt k8⟩
      rw [Array.getElem?_push,if_neg (by rw [hI.size];omega)];exact he
    · rw [List.getElem?_append_right (by omega)] at hq
      have hj0:j - (Ml.toL (mpS m.x (pay C)).es).length=0:=by
        have:=(List.getElem?_eq_some_iff.1 hq).1
        simp at this;omega
      rw [hj0] at hq
      cases hq
      refine ⟨{ key:=u,val:=uv,born:=(mpS m.x (pay C)).clock },?_,hk0.1,hk0.2,hv0,hv2,hK.sk,hv,rfl,Nat.lt_succ_self _⟩
      rw [Array.getElem?_push,if_pos (by rw [hI.size];omega)]
  · rw [List.pairwise_append]
    refine ⟨hw.x.uniq _ hI.lt,by simp,fun q hq q' hq'=>?_⟩
    simp only [List.mem_singleton] at hq'
    subst hq'
    exact ⟨fun hs=>hno q hq hs.symm,Nat.ne_of_lt (hw.x.born _ hI.lt q hq)⟩
  · intro q hq
    rcases List.mem_append.1 hq with hq | hq
    · exact Nat.lt_succ_of_lt (hw.x.born _ hI.lt q hq)
    · simp only [List.mem_singleton] at hq;subst hq;exact Nat.lt_succ_self _
  · intro q hq
    rw [e2,e3,e4,hT.key.len]
    rcases List.mem_append.1 hq with hq | hq
    · exact keys_pat hT hkd hw hI.lt hq
    · simp only [List.mem_singleton] at hq
      subst hq
      exact ⟨hK.pat,fun h9=>hK.st (hkt.2 h9),hK.lt,hvl⟩
theorem map_set (hT : MapT c.P t kt vt kk kv str l) (hkd : (mpS m.x (pay C)).kd = kdN kk kv l) (hw : Wf m) (hI : MapIs X A α w m C b es kk kv) {j : Nat} {q : Nat × Nat × Nat} {e : MapEntry} (hq : (Ml.toL (mpS m.x (pay C)).es)[j]? = some q) (he : es[j]? = some e) (hv : SK X A α kv val uv) (hv0 : val ≠ 0) (hv2 : val ≠ 2) (hvl : val < 2 ^ (128 * kv.w)) {L' : Ml}
    (hL:Ml.toL L'=(Ml.toL (mpS m.x (pay C)).es).map (setV q.2.2 val)) {f:MapEntry→MapEntry} (hf:(f e).key=e.key∧(f e).val=uv∧(f e).born=e.born) :
    MpR X A α (w.putObj b (.map (es.modify j f) (mpS m.x (pay C)).clock)) (pay C) ⟨kdN kk kv l,L',(mpS m.x (pay C)).clock⟩ ∧
    ((Ml.toL L').Pairwise fun q q'=>¬ SameKy m.x q.1 q'.1∧q.2.2≠q'.2.2)∧(∀ q∈Ml.toL L',q.2.2<(mpS m.x (pay C)).clock) ∧
    (∀ q∈Ml.toL L',Nat.land q.1 (31*flags (kdW (kdN kk kv l)))=kdN kk kv l / 65536∧(tag q.1=9→stId q.1<m.x.ns)∧q.1<2 ^ (128*kdW (kdN kk kv l))∧q.2.1<2 ^ (128*kdV (kdN kk kv l))):=by
  obtain ⟨e1,e2,e3,e4⟩:=kdN_parts (l:=l) hT.wk hT.wv
  have hlt:b<w.heap.size:=(Array.getElem?_eq_some_iff.1 hI.heap).1
  have huq:=hw.x.uniq _ hI.lt
  refine ⟨⟨kk,kv,b,_,e1,hT.wk,hT.wv,hI.al,World.putObj_heap_same hlt,?_,fun j' q' hq'=>?_⟩,?_,?_,?_⟩
  · show (es.modify j f).size=(Ml.toL L').length
    rw [hL];simp [hI.size]
  · have hq':(Ml.toL L')[j']?=some q':=hq'
    rw [hL,List.getElem?_map] at hq'
    obtain ⟨q0,hq0,rfl⟩:=Option.map_eq_some_iff.1 hq'
    obtain ⟨e',he',k1,k2,k3,k4,k5,k6,k7,k8⟩:=hI.ent j' q0 hq0
    rw [Array.getElem?_modify]
    by_cases hj:j=j'
    · subst hj
      rw [hq] at hq0;cases hq0
      rw [he] at he';cases he'
      have es':setV q.2.2 val q=(q.1,val,q.2.2):=by unfold setV;rw [if_pos rfl]
      rw [if_pos rfl,he,es']
      exact ⟨f e,rfl,k1,k2,hv0,hv2,by rw [hf.1];exact k5,by rw [hf.2.1];exact hv,by rw [hf.2.2];exact k7,k8⟩
    · have hne : q0.2.2 ≠ q.2.2 := by
        have l1:=(List.getElem?_eq_some_iff.1 hq).1
        have l2:=(List.getElem?_eq_some_iff.1 hq0).1
        rcases Nat.lt_or_gt_of_ne hj with h | h
        · have:=(List.pairwise_iff_getElem.1 huq) j j' l1 l2 h
          rw [(List.getElem?_eq_some_iff.1 hq).2,(List.getElem?_eq_some_iff.1 hq0).2] at this
          exact Ne.symm this.2
        · have:=(List.pairwise_iff_getElem.1 huq) j' j l2 l1 h
          rw [(List.getElem?_eq_some_iff.1 hq).2,(List.getElem?_eq_some_iff.1 hq0).2] at this
          exact this.2
      have es':setV q.2.2 val q0=q0:=by unfold setV;rw [if_neg hne]
      rw [if_neg hj,es']
      exact ⟨e',he',k1,k2,k3,k4,k5,k6,k7,k8⟩
  · rw [hL,List.pairwise_map]
    exact huq.imp fun {a b} ⟨h1,h2⟩=>by
      obtain ⟨a1,a2,_⟩:=setV_parts q.2.2 val a
      obtain ⟨b1,b2,_⟩:=setV_parts q.2.2 val b
      rw [a1,b1,a2,b2];exact ⟨h1,h2⟩
  · intro q' hq'
    rw [hL] at hq'
    obtain ⟨q0,hq0,rfl⟩:=List.mem_map.1 hq'
    rw [(setV_parts q.2.2 val q0).2.1]
    exact hw.x.born _ hI.lt q0 hq0
  · intro q' hq'
    rw [hL] at hq'
    obtain ⟨q0,hq0,rfl⟩:=List.mem_map.1 hq'
    obtain ⟨a1,a2,a3⟩:=setV_parts q.2.2 val q0
    obtain ⟨g1,g2,g3,g4⟩:=keys_pat hT hkd hw hI.lt hq0
    rw [e2,e3,e4,hT.key.len,a1]
    refine ⟨g1,g2,g3,?_⟩
    rcases a3 with a3 | a3 <;> rw [a3]
    · exact g4
    · exact hvl
end
section
variable {d:Option Tmp} {ty:TypeId} {pos:String} {af:Array Edge} {g:Option (Nat × Bool)} {v:Env} {x y z:Operand} {a b q:O}
theorem run_stays {P:Program} {w:World} {u:Value} (h:Instr.sameBits 10000 u u=true):(Instr.keyThatStays u u).run P w=.ok u w:=by
 unfold Instr.keyThatStays
 rw [if_pos h];rfl
theorem mput_end {m:M} {kd i clk:Nat} {kk:Kn} {es:Ml}:∃ m',mput m kd i clk (k2 kk) es=kk 2 m'∧MpM m i ⟨kd,es,clk⟩ m.x.nm m':=by
 obtain ⟨m',e,h⟩:=mput_eq m kd i clk (k2 kk) es
 exact ⟨m',e,h⟩
def RU (kk kv:Sk) (x y z:Operand) (a b q:O) (F:Nat) (X:Xs) (A:Nat→Prop) (α:Al) (act:Act):Prop:=NR X A α (a F) (act.eval x)∧SK X A α kk (b F) (act.eval y)∧SK X A α kv (q F) (act.eval z)
theorem live_ne {C n:Nat} (h:live C n=true) (h0:0<n):C≠0∧C≠2:=by
 have h1:=live_odd h h0
 have:cell C 0 % 2=C % 2:=by
   show (C >>> (128*0) % 2 ^ 128) % 2=C % 2
   rw [Nat.mul_zero,Nat.shiftRight_zero];omega
 rw [this] at h1
 exact odd_ne h1
theorem mup_all {t kt vt : TypeId} {kk kv : Sk} {str : Bool} {l : List Nat} {o : Oper} (hT : MapT c.P t kt vt kk kv str l) (hb : ∀ F, b F < 2 ^ (128 * l.length)) (hq : ∀ F, q F < 2 ^ (128 * kv.w)) (ho : ∀ (act : Act), execOp act.eval o = (do Instr.mapUpdate t (act.eval x) (act.eval y) (act.eval z); pure .skip)) (hd : ∀ cc, o.op ≠ .defer cc) :
    StOk c o (RU kk kv x y z a b q) (.s .one) v (s_mup str (31*flags l.length) (kdN kk kv l) kv.w a b q):=by
  intro F m kk' hok'
  obtain ⟨hkey,hok',e2⟩:=ok_if (r:=getM m (kdN kk kv l) (a F) (mu1 str (kdN kk kv l) (a F) (b F) (q F) m kk')) hok'
  rw [bAnd_eq,Bool.and_eq_true] at hkey
  obtain ⟨hk1,hk2⟩:=kOk_iff hT.wk hT.wv hkey.1
  obtain ⟨hv0,hv2⟩:=live_ne hkey.2 hT.v0
  obtain ⟨ht,hkd,e3⟩:=getM_eq hok'
  obtain ⟨m1,e4,hs,hcv⟩:=mlogW_eq m (pay (a F)) (mu2 str (kdN kk kv l) (a F) (b F) (q F) kk' (mpS m.x (pay (a F))).es (mpS m.x (pay (a F))).clock)
  have e4:mu1 str (kdN kk kv l) (a F) (b F) (q F) m kk' (mpS m.x (pay (a F))).es (mpS m.x (pay (a F))).clock=mfind m1 str (b F) (natK (b F) (mu4 (kdN kk kv l) (a F) m1 kk' (q F) (mpS m.x (pay (a F))).clock (mpS m.x (pay (a F))).es)) (muY (kdN kk kv l) (a F) (q F) m1 kk' (mpS m.x (pay (a F))).clock (mpS m.x (pay (a F))).es) (mpS m.x (pay (a F))).es:=e4
  have hmk:∀ k k',mKey m1 str k k'=mKey m str k k':=fun k k'=>by unfold mKey sEq strB;rw [hs.x]
  rcases mfind_eq m1 str (b F) (natK (b F) (mu4 (kdN kk kv l) (a F) m1 kk' (q F) (mpS m.x (pay (a F))).clock (mpS m.x (pay (a F))).es)) (muY (kdN kk kv l) (a F) (q F) m1 kk' (mpS m.x (pay (a F))).clock (mpS m.x (pay (a F))).es) (mpS m.x (pay (a F))).es with ⟨f1,f2⟩ | ⟨j,qq,f1,f2,f3⟩
  · obtain ⟨m',e5,hm⟩:=mput_end (m:=m1) (kd:=kdN kk kv l) (i:=pay (a F)) (clk:=(mpS m.x (pay (a F))).clock+1) (kk:=kk') (es:=.cons (b F) (q F) (mpS m.x (pay (a F))).clock (mpS m.x (pay (a F))).es)
    have e6:natK (b F) (mu4 (kdN kk kv l) (a F) m1 kk' (q F) (mpS m.x (pay (a F))).clock (mpS m.x (pay (a F))).es)=kk' 2 m':=by
      rw [natK_eq]
      show natK _ _=_
      rw [natK_eq];exact e5
    refine ⟨2,m',Eq.trans e2 (Eq.trans e3 (Eq.trans e4 (Eq.trans f2 e6))),hs.step.trans (hm.step (Nat.le_refl _)),?_⟩
    intro zc X A α act w hX hLm hc hw hR hr hnew hB K Q hK
    have hXm:XLe m.x X:=by rw [← hs.x];exact hm.xle hX
    have hbrk:m1.brk≤mB:=by rw [hs.brk];exact hw.brk
    obtain ⟨bb,es,ev,hI⟩:=map_get hT hR.1 ht hkd hw hr (fun h=>by rw [hm.g];exact (hcv h).cov hbrk)
    have hKI:KeyIs X A α m kk str l (b F) (act.eval y):=⟨hR.2.1,hk1,hk2,hb F⟩
    obtain ⟨g1,g2⟩:=(find_both hT hkd hw hXm hI hKI).1 (fun q hq=>by rw [← hmk];exact f1 q hq)
    obtain ⟨p1,p2,p3,p4⟩:=map_push hT hkd hw hI hKI g2 hR.2.2 hv0 hv2 (hq F)
    obtain ⟨r1,r2,r3⟩:=map_fin hs hm hcv hI.lt hw hr hI.al hI.heap p1 p2 p3 p4
    have hck:=(hT.key.chk hR.2.1 hk1 false w).1
    refine ⟨fun f _=>zc.hF f,?_⟩
    rw [Oper.semAt_eq _ _ _ hd,ho]
    simp only [Sem.run_bind,Instr.mapUpdate,run_underlying hT.un,Result.andThen_ok,ev,MapKept.run_getObj_map hI.heap,Sem.run_pure,hck,g1,MapKept.run_setObj_map _ hI.heap]
    exact hK undef A α _ r1 NR.und r2 r3
  · obtain ⟨L',e5,hL⟩:=mset_eq qq.2.2 (q F) (mpS m.x (pay (a F))).es (mu6 (kdN kk kv l) (a F) m1 kk' (mpS m.x (pay (a F))).clock)
    obtain ⟨m',e7,hm⟩:=mput_end (m:=m1) (kd:=kdN kk kv l) (i:=pay (a F)) (clk:=(mpS m.x (pay (a F))).clock) (kk:=kk') (es:=L')
    have e6:muY (kdN kk kv l) (a F) (q F) m1 kk' (mpS m.x (pay (a F))).clock (mpS m.x (pay (a F))).es qq.2.1 qq.2.2=kk' 2 m':=by
      show natK _ _=_
      rw [natK_eq]
      exact e5.trans e7
    refine ⟨2,m',Eq.trans e2 (Eq.trans e3 (Eq.trans e4 (Eq.trans f3 e6))),hs.step.trans (hm.step (Nat.le_refl _)),?_⟩
    intro zc X A α act w hX hLm hc hw hR hr hnew hB K Q hK
    have hXm:XLe m.x X:=by rw [← hs.x];exact hm.xle hX
    have hbrk:m1.brk≤mB:=by rw [hs.brk];exact hw.brk
    obtain ⟨bb,es,ev,hI⟩:=map_get hT hR.1 ht hkd hw hr (fun h=>by rw [hm.g];exact (hcv h).cov hbrk)
    have hKI:KeyIs X A α m kk str l (b F) (act.eval y):=⟨hR.2.1,hk1,hk2,hb F⟩
    obtain ⟨e,he,g1,g2⟩:=(find_both hT hkd hw hXm hI hKI).2 j qq f1 (by rw [← hmk];exact f2)
    have hL:=hL ((hw.x.uniq _ hI.lt).imp fun h=>h.2)
    obtain ⟨hck,hsb⟩:=hT.key.chk hR.2.1 hk1 false w
    obtain ⟨p1,p2,p3,p4⟩:=map_set (uv:=act.eval z) hT hkd hw hI f1 he hR.2.2 hv0 hv2 (hq F) hL (f:=fun e=>{ e with key:=act.eval y,val:=act.eval z }) ⟨g2.symm,rfl,rfl⟩
    obtain ⟨r1,r2,r3⟩:=map_fin hs hm hcv hI.lt hw hr hI.al hI.heap p1 p2 p3 p4
    refine ⟨fun f _=>zc.hF f,?_⟩
    rw [Oper.semAt_eq _ _ _ hd,ho]
    simp only [Sem.run_bind,Instr.mapUpdate,run_underlying hT.un,Result.andThen_ok,ev,MapKept.run_getObj_map hI.heap,Sem.run_pure,hck,g1,he,Option.map_some,Option.getD_some,g2,run_stays hsb,MapKept.run_setObj_map _ hI.heap]
    exact hK undef A α _ r1 NR.und r2 r3
theorem st_mup {t kt vt : TypeId} {kk kv : Sk} {str : Bool} {l : List Nat} (hT : MapT c.P t kt vt kk kv str l) (hb : ∀ F, b F < 2 ^ (128 * l.length)) (hq : ∀ F, q F < 2 ^ (128 * kv.w)) :
    StOk c ⟨d,.mapUpdate t x y z,ty,pos,af,g⟩ (RU kk kv x y z a b q) (.s .one) v (s_mup str (31*flags l.length) (kdN kk kv l) kv.w a b q):=mup_all hT hb hq (fun _=>rfl) (fun _ h=>by cases h)
theorem st_ins {t kt vt : TypeId} {kk kv : Sk} {str : Bool} {l : List Nat} (hT : MapT c.P t kt vt kk kv str l) (hb : ∀ F, b F < 2 ^ (128 * l.length)) (hq : ∀ F, q F < 2 ^ (128 * kv.w)) :
    StOk c ⟨d,.insert t x y z,ty,pos,af,g⟩ (RU kk kv x y z a b q) (.s .one) v (s_mup str (31*flags l.length) (kdN kk kv l) kv.w a b q):=mup_all hT hb hq (fun _=>rfl) (fun _ h=>by cases h)
theorem tup_sr {X:Xs} {A:Nat→Prop} {α:Al} {kv:Sk} {C n:Nat} {u:Value} (hC:C<2 ^ (128*kv.w)) (h0:C≠0) (h:SK X A α kv C u) (hn:n≤549755813887):SR X A α (.tup [kv,.one]) (C ||| (mkI 23 n) <<< (128*kv.w)) (.tuple #[u,goInt n]):=by
 have hb:mkI 23 n<2 ^ 128:=by rw [mkI_eq];omega
 refine .inr (.inr ⟨_,rfl,rfl,fun j k hj=>?_⟩)
 match j,hj with
 | 0,hj =>
   cases hj
   have e2:prt [kv,.one] (C ||| (mkI 23 n) <<< (128*kv.w)) 0=C:=by
     show fld _ (128*0) (128*kv.w)=C
     rw [fld_lor,fld_shl_low (by omega),Nat.or_zero];exact fld_all hC
   rw [e2];exact h
 | 1,hj =>
   cases hj
   have e2:prt [kv,.one] (C ||| (mkI 23 n) <<< (128*kv.w)) 1=mkI 23 n:=by
     show fld _ (128*(kv.w+0)) (128*1)=_
     rw [fld_lor,show 128*(kv.w+0)=128*kv.w+0 by omega,fld_shl,fld_big (by rw [Nat.add_zero];exact hC),Nat.zero_or];exact fld_all hb
   rw [e2];exact len_i64 (by omega)
 | j+2,hj=>simp at hj
theorem st_men {t kt vt : TypeId} {kk kv : Sk} {str : Bool} {l : List Nat} {zc : Nat} {i : TypeInfo} {uz : Value} (hT : MapT c.P t kt vt kk kv str l) (hz : ZV c vt kv zc i uz) (hb : ∀ F, b F < 2 ^ (128 * l.length)) :
    StOk c ⟨d,.mapEntry t x y,ty,pos,af,g⟩ (RM kk x y a b) (.tup [kv,.one]) v (s_men str (31*flags l.length) (kdN kk kv l) zc (128*kv.w) a b):=by
  have hzv:∀ w,(zeroValue vt).run c.P w=.ok uz w:=fun w=>by simp [zeroValue,typeInfo,hz.info,hz.zero,Sem.run_bind,go_sem]
  intro F m kk' hok'
  obtain ⟨hkey,hok',e2⟩:=ok_if (r:=getM m (kdN kk kv l) (a F) (me1 str (kdN kk kv l) zc (128*kv.w) (a F) (b F) m kk')) hok'
  obtain ⟨hk1,hk2⟩:=kOk_iff hT.wk hT.wv hkey
  obtain ⟨ht,hkd,e3⟩:=getM_eq hok'
  rw [e3] at hok'
  obtain ⟨m1,e4,hs,hcv⟩:=mlogW_eq m (pay (a F)) (me2 str (kdN kk kv l) zc (128*kv.w) (a F) (b F) kk' (mpS m.x (pay (a F))).es (mpS m.x (pay (a F))).clock)
  have e4:me1 str (kdN kk kv l) zc (128*kv.w) (a F) (b F) m kk' (mpS m.x (pay (a F))).es (mpS m.x (pay (a F))).clock=mfind m1 str (b F) (natK (b F) (me4 (kdN kk kv l) (a F) m1 zc (128*kv.w) (mpS m.x (pay (a F))).clock kk' (mpS m.x (pay (a F))).es)) (meY (128*kv.w) m1 kk') (mpS m.x (pay (a F))).es:=e4
  rw [e4] at hok'
  have hmk:∀ k k',mKey m1 str k k'=mKey m str k k':=fun k k'=>by unfold mKey sEq strB;rw [hs.x]
  rcases mfind_eq m1 str (b F) (natK (b F) (me4 (kdN kk kv l) (a F) m1 zc (128*kv.w) (mpS m.x (pay (a F))).clock kk' (mpS m.x (pay (a F))).es)) (meY (128*kv.w) m1 kk') (mpS m.x (pay (a F))).es with ⟨f1,f2⟩ | ⟨j,qq,f1,f2,f3⟩
  · rw [f2] at hok'
    obtain ⟨m',e5,hm⟩:=mput_eq m1 (kdN kk kv l) (pay (a F)) ((mpS m.x (pay (a F))).clock+1) (meR zc (128*kv.w) (mpS m.x (pay (a F))).clock kk') (.cons (b F) zc (mpS m.x (pay (a F))).clock (mpS m.x (pay (a F))).es)
    have e6:natK (b F) (me4 (kdN kk kv l) (a F) m1 zc (128*kv.w) (mpS m.x (pay (a F))).clock kk' (mpS m.x (pay (a F))).es)=meR zc (128*kv.w) (mpS m.x (pay (a F))).clock kk' m':=by
      rw [natK_eq];exact e5
    rw [e6] at hok'
    obtain ⟨hlo,_,e8⟩:=ok_if (r:=natK (Nat.lor zc (Nat.shiftLeft (mkI 23 (mpS m.x (pay (a F))).clock) (128*kv.w))) (kN kk' m')) hok'
    have hlo:(mpS m.x (pay (a F))).clock≤549755813887:=ble_iff.1 hlo
    have e8:meR zc (128*kv.w) (mpS m.x (pay (a F))).clock kk' m'=kk' (zc ||| (mkI 23 (mpS m.x (pay (a F))).clock) <<< (128*kv.w)) m':=Eq.trans e8 (natK_eq _ _)
    refine ⟨_,m',Eq.trans e2 (Eq.trans e3 (Eq.trans e4 (Eq.trans f2 (Eq.trans e6 e8)))),hs.step.trans (hm.step (Nat.le_refl _)),?_⟩
    intro zc X A α act w hX hLm hc hw hR hr hnew hB K Q hK
    have hXm:XLe m.x X:=by rw [← hs.x];exact hm.xle hX
    have hbrk:m1.brk≤mB:=by rw [hs.brk];exact hw.brk
    obtain ⟨bb,es,ev,hI⟩:=map_get hT hR.1 ht hkd hw hr (fun h=>by rw [hm.g];exact (hcv h).cov hbrk)
    have hKI:KeyIs X A α m kk str l (b F) (act.eval y):=⟨hR.2,hk1,hk2,hb F⟩
    obtain ⟨g1,g2⟩:=(find_both hT hkd hw hXm hI hKI).1 (fun q hq=>by rw [← hmk];exact f1 q hq)
    obtain ⟨p1,p2,p3,p4⟩:=map_push hT hkd hw hI hKI g2 (hz.sk X A α hc) hz.ne hz.n2 hz.lt
    obtain ⟨r1,r2,r3⟩:=map_fin hs hm hcv hI.lt hw hr hI.al hI.heap p1 p2 p3 p4
    have hck:=(hT.key.chk hR.2 hk1 false w).1
    refine ⟨fun f _=>zc.hF f,?_⟩
    rw [Oper.semAt_eq _ _ _ (fun _ h=>by cases h)]
    unfold execOp
    simp only [Sem.run_bind,Instr.mapEntry,run_underlying hT.un,Result.andThen_ok,ev,MapKept.run_getObj_map hI.heap,Sem.run_pure,hck,g1,hzv,MapKept.run_setObj_map _ hI.heap]
    exact hK _ A α _ r1 (tup_sr hz.lt hz.ne (hz.sk X A α hc) hlo) r2 r3
  · rw [f3] at hok'
    obtain ⟨hlo,_,e8⟩:=ok_if (r:=natK (Nat.lor qq.2.1 (Nat.shiftLeft (mkI 23 qq.2.2) (128*kv.w))) (kN kk' m1)) hok'
    have hlo:qq.2.2≤549755813887:=ble_iff.1 hlo
    have e8:meY (128*kv.w) m1 kk' qq.2.1 qq.2.2=kk' (qq.2.1 ||| (mkI 23 qq.2.2) <<< (128*kv.w)) m1:=Eq.trans e8 (natK_eq _ _)
    refine ⟨_,m1,Eq.trans e2 (Eq.trans e3 (Eq.trans e4 (Eq.trans f3 e8))),hs.step,?_⟩
    intro zc X A α act w hX hLm hc hw hR hr hnew hB K Q hK
    have hXm:XLe m.x X:=by rw [← hs.x];exact hX
    have hbrk:m1.brk≤mB:=by rw [hs.brk];exact hw.brk
    obtain ⟨bb,es,ev,hI⟩:=map_get hT hR.1 ht hkd hw hr (fun h=>(hcv h).cov hbrk)
    have hKI:KeyIs X A α m kk str l (b F) (act.eval y):=⟨hR.2,hk1,hk2,hb F⟩
    obtain ⟨e,he,g1,g2⟩:=(find_both hT hkd hw hXm hI hKI).2 j qq f1 (by rw [← hmk];exact f2)
    obtain ⟨e',he',_,_,hq0,hq2,_,hsv,hbn,_⟩:=hI.ent j qq f1
    rw [he] at he';cases he'
    obtain ⟨_,_,_,hql⟩:=keys_pat hT hkd hw hI.lt (List.mem_of_getElem? f1)
    obtain ⟨hck,hsb⟩:=hT.key.chk hR.2 hk1 false w
    have hnm:=hw.x.nm
    have hlt:=hI.lt
    have hmm:MpM m1 (pay (a F)) (mpS m.x (pay (a F))) m1.x.nm m1:=⟨rfl,rfl,rfl,rfl,rfl,rfl,rfl,rfl,rfl,rfl,rfl,fun _ j=>by
      split
      · rename_i e;subst e;rw [hs.x]
      · rfl⟩
    have hsame:es.modify j (fun e=>{ e with key:=act.eval y })=es:=by
      refine Array.ext (by simp) fun n h1 h2=>?_
      rw [Array.getElem_modify]
      split
      · rename_i hj
        subst hj
        have hjj:=(Array.getElem?_eq_some_iff.1 he).2
        rw [hjj,← g2]
      · rfl
    have hp:MpR X A α (w.putObj bb (.map es (mpS m.x (pay (a F))).clock)) (pay (a F)) (mpS m.x (pay (a F))) :=
      ⟨kk,kv,bb,es,by rw [hkd];exact (kdN_parts hT.wk hT.wv).1,hT.wk,hT.wv,hI.al,World.putObj_heap_same (Array.getElem?_eq_some_iff.1 hI.heap).1,hI.size,hI.ent⟩
    obtain ⟨r1,r2,r3⟩:=map_fin hs hmm hcv hI.lt hw hr hI.al hI.heap hp (hw.x.uniq _ hI.lt) (hw.x.born _ hI.lt) (hw.x.keys _ hI.lt)
    refine ⟨fun f _=>zc.hF f,?_⟩
    rw [Oper.semAt_eq _ _ _ (fun _ h=>by cases h)]
    unfold execOp
    simp only [Sem.run_bind,Instr.mapEntry,run_underlying hT.un,Result.andThen_ok,ev,MapKept.run_getObj_map hI.heap,Sem.run_pure,hck,g1,he,Option.map_some,Option.getD_some,g2,run_stays hsb,MapKept.run_setObj_map _ hI.heap,hsame,hbn]
    exact hK _ A α _ r1 (tup_sr hql hq0 hsv hlo) r2 r3
theorem mhas_mem {born:Nat}:∀ {es:Ml},mhas born es=true→∃ (j:Nat) (q:Nat × Nat × Nat),(Ml.toL es)[j]?=some q∧q.2.2=born
 | .nil,h=>by cases h
 | .cons k v b r,h=>by
   have h:Bool.rec (motive:=fun _=>Bool) (mhas born r) true (Nat.beq b born)=true:=h
   by_cases hb:b=born
   · exact ⟨(Ml.toL r).length,(k,v,b),by simp [Ml.toL],hb⟩
   · rw [beq_ff hb] at h
     obtain ⟨j,q,h1,h2⟩:=mhas_mem (es:=r) h
     refine ⟨j,q,?_,h2⟩
     have hlt:=(List.getElem?_eq_some_iff.1 h1).1
     simp only [Ml.toL]
     rw [List.getElem?_append_left hlt];exact h1
def RS (kv:Sk) (x y z:Operand) (a b q:O) (F:Nat) (X:Xs) (A:Nat→Prop) (α:Al) (act:Act):Prop:=NR X A α (a F) (act.eval x)∧NR X A α (b F) (act.eval y)∧SK X A α kv (q F) (act.eval z)
theorem st_mes {t kt vt : TypeId} {kk kv : Sk} {str : Bool} {l : List Nat} (hT : MapT c.P t kt vt kk kv str l) (hq : ∀ F, q F < 2 ^ (128 * kv.w)) :
    StOk c ⟨d,.entryStore t x y z,ty,pos,af,g⟩ (RS kv x y z a b q) (.s .one) v (s_mes (kdN kk kv l) kv.w a b q):=by
  intro F m kk' hok'
  obtain ⟨hkey,hok',e2⟩:=ok_if (r:=getM m (kdN kk kv l) (a F) (ms_1 (kdN kk kv l) (a F) (b F) (q F) m kk')) hok'
  simp only [bAnd_eq,Bool.and_eq_true,beq_iff,ble_iff] at hkey
  obtain ⟨hv0,hv2⟩:=live_ne hkey.2.1 hT.v0
  obtain ⟨ht,hkd,e3⟩:=getM_eq hok'
  rw [e3] at hok'
  obtain ⟨hhas,hok',e4⟩:=ok_if (r:=mlogW m (pay (a F)) (ms_2 (kdN kk kv l) (a F) (b F) (q F) kk' (mpS m.x (pay (a F))).es (mpS m.x (pay (a F))).clock)) hok'
  obtain ⟨m1,e5,hs,hcv⟩:=mlogW_eq m (pay (a F)) (ms_2 (kdN kk kv l) (a F) (b F) (q F) kk' (mpS m.x (pay (a F))).es (mpS m.x (pay (a F))).clock)
  obtain ⟨L',e6,hL⟩:=mset_eq (pay (b F)) (q F) (mpS m.x (pay (a F))).es (mu6 (kdN kk kv l) (a F) m1 kk' (mpS m.x (pay (a F))).clock)
  obtain ⟨m',e7,hm⟩:=mput_end (m:=m1) (kd:=kdN kk kv l) (i:=pay (a F)) (clk:=(mpS m.x (pay (a F))).clock) (kk:=kk') (es:=L')
  have e8:ms_2 (kdN kk kv l) (a F) (b F) (q F) kk' (mpS m.x (pay (a F))).es (mpS m.x (pay (a F))).clock m1=kk' 2 m':=by
    show natK _ _=_
    rw [natK_eq]
    exact e6.trans e7
  refine ⟨2,m',Eq.trans e2 (Eq.trans e3 (Eq.trans e4 (Eq.trans e5 e8))),hs.step.trans (hm.step (Nat.le_refl _)),?_⟩
  intro zc X A α act w hX hLm hc hw hR hr hnew hB K Q hK
  have hbrk:m1.brk≤mB:=by rw [hs.brk];exact hw.brk
  obtain ⟨bb,es,ev,hI⟩:=map_get hT hR.1 ht hkd hw hr (fun h=>by rw [hm.g];exact (hcv h).cov hbrk)
  obtain ⟨j,qq,f1,f2⟩:=mhas_mem hhas
  obtain ⟨e,he,_,_,_,_,_,_,hbn,_⟩:=hI.ent j qq f1
  have hL:=hL ((hw.x.uniq _ hI.lt).imp fun h=>h.2)
  rw [← f2] at hL
  obtain ⟨p1,p2,p3,p4⟩:=map_set (uv:=act.eval z) hT hkd hw hI f1 he hR.2.2 hv0 hv2 (hq F) hL (f:=fun e=>{ e with val:=act.eval z }) ⟨rfl,rfl,rfl⟩
  obtain ⟨r1,r2,r3⟩:=map_fin hs hm hcv hI.lt hw hr hI.al hI.heap p1 p2 p3 p4
  obtain ⟨p,hp,e9,hst⟩:=hR.2.1.int_inv (k:=.i64) hkey.1
  have hpp:pay (b F)=p:=by rw [e9];exact pay_mk (by decide)
  have hvp:val .i64 p=(p:Int):=val_small fun _=>by have:=hkey.2.2;rw [hpp] at this;simp only [bits];omega
  have hfi:es.findIdx? (fun e=>(e.born:Int) == (p:Int))=some j:=by
    rw [Array.findIdx?_eq_some_iff_getElem]
    refine ⟨(Array.getElem?_eq_some_iff.1 he).1,?_,fun i hi=>?_⟩
    · rw [(Array.getElem?_eq_some_iff.1 he).2,hbn,f2,hpp];simp
    · have hjl:=(Array.getElem?_eq_some_iff.1 he).1
      have hil:i<(Ml.toL (mpS m.x (pay (a F))).es).length:=by rw [← hI.size];omega
      obtain ⟨e',he',_,_,_,_,_,_,hb',_⟩:=hI.ent i _ (List.getElem?_eq_getElem hil)
      rw [(Array.getElem?_eq_some_iff.1 he').2,hb']
      have hu:=(List.pairwise_iff_getElem.1 (hw.x.uniq _ hI.lt)) i j hil (List.getElem?_eq_some_iff.1 f1).1 hi
      rw [(List.getElem?_eq_some_iff.1 f1).2] at hu
      have hne:=hu.2
      rw [f2,hpp] at hne
      simp only [beq_iff_eq]
      omega
  refine ⟨fun f _=>zc.hF f,?_⟩
  rw [Oper.semAt_eq _ _ _ (fun _ h=>by cases h)]
  unfold execOp
  simp only [Sem.run_bind,Instr.entryStore,ev,MapKept.run_getObj_map hI.heap,Result.andThen_ok,Sem.run_pure,hst,hvp,asInt,asIntOf,hfi,MapKept.run_setObj_map _ hI.heap]
  exact hK undef A α _ r1 NR.und r2 r3
end
end Go.Proofs.YtceaohiahajolaaGreatDoor.VM
namespace Go.Proofs.YtceaohiahajolaaGreatDoor.VM
open Go Go.RowKit
variable {c:Cx}
structure Ly where
 nt:Nat
 kd:Nat→Kd
 off:Nat→Nat
 df:Option Nat
 own:Nat→Prop
 nm:Bool
def Ly.w (ly:Ly) (t:Nat):Nat:=128*(ly.kd t).w
def Ly.ap (ly:Ly) (t u:Nat):Prop:=ly.off t+ly.w t≤ly.off u∨ly.off u+ly.w u≤ly.off t
def MkR (own A:Nat→Prop) (α:Al) (w:World) (d:Deferred):Prop:=∃ i r,own (rB+i)∧A (rB+i)∧α (rB+i)=some (r,0,0)∧w.heap[r]?=some (.deferred (some []))∧d={ target:=.collected r,args:=#[] }
def DfR (own:Nat→Prop) (nm:Bool) (X:Xs) (A:Nat→Prop) (α:Al) (w:World) (F:Nat) (ds:List Deferred):Option Nat→Prop
 | none=>ds.Nodup∧(nm=true→ds=[])∧∀ d∈ds,MkR own A α w d
 | some s=>(fld F s 128=0∧ds=[])∨(fld F s 128≠0∧∃ f v1 v2,NR X A α (fld F s 128) (.func (.func f) v1 v2)∧ds=[{ target:=.fn (.func f) v2,args:=v1++#[] }])
structure FR (ly:Ly) (K:Nat→Prop) (X:Xs) (A:Nat→Prop) (α:Al) (w:World) (F:Nat) (a:Act):Prop where
 size:a.tmps.size=ly.nt
 sl:∀ t,K t→SR X A α (ly.kd t) (fld F (ly.off t) (ly.w t)) (a.tmps.getD t undef)
 df:DfR ly.own ly.nm X A α w F a.defers ly.df
 ow:∀ a,rB≤a→ly.own a∨A a
theorem MkR.mono {own:Nat→Prop} {B:Nat} {C N A A':Nat→Prop} {α α':Al} {w w':World} {d:Deferred} (hs:Stp B C N A α w A' α' w') (h:MkR own A α w d):MkR own A' α' w' d:=by
 obtain ⟨i,r,h0,h1,h2,h3,h4⟩:=h
 obtain ⟨k1,k2⟩:=hs.fix _ _ _ _ (by omega) h1 h2
 exact ⟨i,r,h0,(hs.all _).2 (.inl h1),k1,k2.trans h3,h4⟩
theorem DfR.mono {own:Nat→Prop} {nm:Bool} {B:Nat} {C N A A':Nat→Prop} {α α':Al} {w w':World} {X:Xs} {F:Nat} {ds:List Deferred} {o:Option Nat} (hs:Stp B C N A α w A' α' w') (h:DfR own nm X A α w F ds o):DfR own nm X A' α' w' F ds o:=by
 cases o with
 | none=>exact ⟨h.1,h.2.1,fun d hd=>(h.2.2 d hd).mono hs⟩
 | some s=>exact h.imp id fun ⟨h1,f,v1,v2,h2,h3⟩=>⟨h1,f,v1,v2,h2.mono hs.ast,h3⟩
theorem FR.mono {ly:Ly} {K:Nat→Prop} {B:Nat} {C N A A':Nat→Prop} {α α':Al} {w w':World} {X:Xs} {F:Nat} {a:Act} (hs:Stp B C N A α w A' α' w') (h:FR ly K X A α w F a):FR ly K X A' α' w' F a :=
 ⟨h.size,fun t ht=>(h.sl t ht).mono hs.ast,h.df.mono hs,fun a ha=>(h.ow a ha).imp id fun h=>(hs.all a).2 (.inl h)⟩
theorem FR.sub {ly:Ly} {K K':Nat→Prop} {A:Nat→Prop} {α:Al} {w:World} {X:Xs} {F:Nat} {a:Act} (h:FR ly K X A α w F a) (hk:∀ t,K' t→K t):FR ly K' X A α w F a:=⟨h.size,fun t ht=>h.sl t (hk t ht),h.df,h.ow⟩
theorem MkR.drew {own A:Nat→Prop} {α:Al} {w:World} {d:Deferred} (h:MkR own A α w d):MkR own A α w.drew d:=h
theorem FR.drew {ly:Ly} {K A:Nat→Prop} {α:Al} {w:World} {X:Xs} {F:Nat} {a:Act} (h:FR ly K X A α w F a):FR ly K X A α w.drew F a:=⟨h.size,h.sl,by
 have:=h.df
 cases hd:ly.df with
 | none=>rw [hd] at this;exact this
 | some s=>rw [hd] at this;exact this,h.ow⟩
structure PutF (s n r F F':Nat):Prop where
 same:fld F' s n=r
 other:∀ s' n',64≤s'→(s'+n'≤s∨s+n≤s')→fld F' s' n'=fld F s' n'
theorem putF_put {s n r F:Nat} (hs:64≤s) (hr:r<2 ^ n):PutF s n r F (put F s n r):=⟨fld_put_same hs hr,fun _ _ h1 h2=>fld_put_other h1 hr h2⟩
theorem putF_put1 {s r F:Nat} (hs:64≤s) (hr:r<2 ^ 128):PutF s 128 r F (put1 F s r):=by rw [put1_eq];exact putF_put hs hr
theorem getD_setIf {vs:Array Value} {d t:Nat} {v:Value} (hd:d<vs.size):(vs.setIfInBounds d v).getD t undef=if t=d then v else vs.getD t undef:=by
 rw [Array.getD_eq_getD_getElem?,Array.getD_eq_getD_getElem?,Array.getElem?_setIfInBounds]
 by_cases h:d=t
 · subst h;simp [hd]
 · rw [if_neg h,if_neg (Ne.symm h)]
def addK (K:Nat→Prop) (d:Option Nat):Nat→Prop:=fun t=>K t∨d=some t
structure DstOk (ly:Ly) (K:Nat→Prop) (d:Nat):Prop where
 lt:d<ly.nt
 lo:64≤ly.off d
 ap:∀ t,K t→t≠d→ly.ap d t
 klo:∀ t,K t→64≤ly.off t
 df:∀ s,ly.df=some s→64≤s∧(s+128≤ly.off d∨ly.off d+ly.w d≤s)
theorem FR.put {ly:Ly} {K:Nat→Prop} {X:Xs} {A:Nat→Prop} {α:Al} {w:World} {F F' r d:Nat} {a:Act} {v:Value} (h:FR ly K X A α w F a) (hd:DstOk ly K d) (hp:PutF (ly.off d) (ly.w d) r F F') (hv:SR X A α (ly.kd d) r v):FR ly (addK K (some d)) X A α w F' (a.put (some d) v):=by
 refine ⟨by show (a.tmps.setIfInBounds d v).size=_;rw [Array.size_setIfInBounds];exact h.size,fun t ht=>?_,?_,h.ow⟩
 · show SR X A α (ly.kd t) _ ((a.tmps.setIfInBounds d v).getD t undef)
   rw [getD_setIf (by rw [h.size];exact hd.lt)]
   by_cases he:t=d
   · subst he
     rw [if_pos rfl,hp.same];exact hv
   · rw [if_neg he]
     have hK:K t:=by
       rcases ht with ht | ht
       · exact ht
       · cases ht;exact absurd rfl he
     rw [hp.other _ _ (hd.klo t hK) (by have:=hd.ap t hK he;unfold Ly.ap at this;omega)]
     exact h.sl t hK
 · show DfR ly.own ly.nm X A α w F' a.defers ly.df
   have:=h.df
   cases hdf:ly.df with
   | none=>rw [hdf] at this;exact this
   | some s =>
     rw [hdf] at this
     obtain ⟨h1,h2⟩:=hd.df s hdf
     unfold DfR at this ⊢
     simp only at this ⊢
     rw [hp.other s 128 h1 (by omega)]
     exact this
def OpR (c:Cx) (ly:Ly) (x:Operand) (k:Kd) (q:O):Prop :=
 (∀ F,q F<2 ^ (128*k.w))∧∀ X A α F (a:Act),c.cx X→(∀ t,x=.tmp t→SR X A α (ly.kd t) (fld F (ly.off t) (ly.w t)) (a.tmps.getD t undef))→SR X A α k (q F) (a.eval x)
theorem opR_tmp {ly:Ly} {t:Nat}:OpR c ly (.tmp t) (ly.kd t) (oW (ly.off t) (ly.w t)):=⟨fun F=>fld_lt _ _ _,fun X A α F a _ h=>h t rfl⟩
theorem opR_tmp1 {ly:Ly} {t:Nat} (h1:ly.kd t=.s .one):OpR c ly (.tmp t) (.s .one) (oS (ly.off t)):=⟨fun F=>by
 rw [oS_eq];exact fld_lt _ _ _,fun X A α F a _ h=>by
 have:=h t rfl
 rw [oS_eq]
 unfold Ly.w at this
 rw [h1] at this
 exact this⟩
def tmpOf:Operand→List Nat
 | .tmp t=>[t] | _=>[]
end Go.Proofs.YtceaohiahajolaaGreatDoor.VM
namespace Go.Proofs.YtceaohiahajolaaGreatDoor.VM
open Go Go.RowKit
variable {c:Cx}
theorem OpS.imp {o:Oper} {R R':Xs→(Nat→Prop)→Al→Act→Prop} {k:Kd} {m m':M} {r:Nat} (h:OpS c o R k m r m') (hi:∀ X A α a,c.cx X→R' X A α a→R X A α a):OpS c o R' k m r m' :=
 fun zc X A α a w hX hL hc hw hR hr hn hB K Q hK=>h zc X A α a w hX hL hc hw (hi X A α a hc hR) hr hn hB K Q hK
theorem StOk.imp {o:Oper} {R R':Nat→Xs→(Nat→Prop)→Al→Act→Prop} {k:Kd} {v:Env} {x:St} (h:StOk c o R k v x) (hi:∀ F X A α a,c.cx X→R' F X A α a→R F X A α a):StOk c o R' k v x:=fun F m kk hok =>
 let ⟨r,m',h1,h2,h3⟩:=h F m kk hok
 ⟨r,m',h1,h2,h3.imp (hi F)⟩
def wpOp1 (c:Cx) (zc:Fc c) (o:Oper) (ops:Array Oper) (a:Act) (w:World) (Kn:Act→World→Prop) (Q:Exit→Act→World→Prop):Prop :=
 if Region.wanted o (yielded ops a.tmps)=true then o.wpIn zc.F 0 c.P a w Kn Q else (∀ f,o.about c.P w a.eval=some f→zc.F.fn f)∧Kn (a.put o.dst undef) w
theorem yielded_getD (ops:Array Oper) (tmps:Array Value) (j d:Nat) (h:(ops[j]?).bind (·.dst)=some d):yielded ops tmps j=(match tmps.getD d undef with | .bool b=>some b | _=>none):=by
 unfold yielded
 rw [h]
 simp only [Option.bind_some]
 rw [Array.getD_eq_getD_getElem?]
 cases tmps[d]? with
 | none=>rfl
 | some v=>cases v <;> rfl
def TR (ly:Ly) (T:List Nat) (F:Nat) (X:Xs) (A:Nat→Prop) (α:Al) (a:Act):Prop:=∀ t∈T,SR X A α (ly.kd t) (fld F (ly.off t) (ly.w t)) (a.tmps.getD t undef)
def StepS (c:Cx) (ly:Ly) (ops:Array Oper) (o:Oper) (T:List Nat) (F:Nat) (m:M) (r:Nat) (m':M):Prop :=
 ∀ (zc:Fc c) X A α a w,XLe m'.x X→Lim m'→c.cx X→Wf m→TR ly T F X A α a→Rel c.lk X 1048576 c.B (Cov m'.g) A α m w→(∀ x,News m m' x→¬ A x)→c.B≤w.heap.size →
   ∀ (Kn:Act→World→Prop) (Q:Exit→Act→World→Prop),
     (∀ v A' α' w',MSem m m'→(∀ d,o.dst=some d→SR X A' α' (ly.kd d) r v)→Rel c.lk X 1048576 c.B (Cov m'.g) A' α' m' w'→Stp c.B (CovC m'.g m'.brk) (News m m') A α w A' α' w'→Kn (a.put o.dst v) w')→wpOp1 c zc o ops a w Kn Q
def DstP (ly:Ly) (d:Option Nat) (r F F':Nat):Prop:=match d with
 | some d=>PutF (ly.off d) (ly.w d) r F F' | none=>F'=F
def PieceOk (c:Cx) (ly:Ly) (ops:Array Oper) (o:Oper) (T:List Nat) (v:Env) (g:Xo):Prop :=
 ∀ F m k,Ok (g v F m k)→∃ r F' m',g v F m k=k F' m'∧MStep m m'∧DstP ly o.dst r F F'∧StepS c ly ops o T F m r m'
section
variable {ly:Ly} {ops:Array Oper} {o:Oper} {T:List Nat} {v:Env} {R:Nat→Xs→(Nat→Prop)→Al→Act→Prop} {k:Kd} {x:St}
theorem wanted_none (h:o.guard=none) (y:Nat→Option Bool):Region.wanted o y=true:=by unfold Region.wanted;rw [h]
theorem stepS_of {F:Nat} {m m':M} {r:Nat} {R:Xs→(Nat→Prop)→Al→Act→Prop} (h:OpS c o R k m r m') (hg:o.guard=none) (hR:∀ X A α a,c.cx X→TR ly T F X A α a→R X A α a) (hd:∀ d,o.dst=some d→ly.kd d=k):StepS c ly ops o T F m r m':=by
 intro zc X A α a w hX hL hc hw hT hr hn hB Kn Q hK
 unfold wpOp1
 rw [if_pos (wanted_none hg _)]
 exact h zc X A α a w hX hL hc hw (hR X A α a hc hT) hr hn hB Kn Q fun u A' α' w' h1 h2 h3 h4=>hK u A' α' w' h1 (fun d hd'=>by rw [hd d hd'];exact h2) h3 h4
def o0 (o:Oper):Oper:={ o with guard:=none }
theorem gm_und {d:Nat} (hw:ly.w d=128) (hlo:64≤ly.off d) (F:Nat) (m:M) (k:Nat→M→Rs):∃ F',gm (ly.off d) (oK 2) v F m k=k F' m∧DstP ly (some d) 2 F F':=by
 refine ⟨_,gm_eq _ _ _ _ _ _,?_⟩
 show PutF (ly.off d) (ly.w d) 2 F _
 rw [hw]
 exact putF_put1 hlo (by decide)
theorem gmw_und {d:Nat} (hw:0<(ly.kd d).w) (hlo:64≤ly.off d) (F:Nat) (m:M) (k:Nat→M→Rs):∃ F',gmw (ly.off d) (ly.w d) (oK 2) v F m k=k F' m∧DstP ly (some d) 2 F F':=by
 refine ⟨put F (ly.off d) (ly.w d) 2,natK_eq _ _,?_⟩
 exact putF_put hlo (Nat.lt_of_lt_of_le (by decide:2<2 ^ 128) (Nat.pow_le_pow_right (by decide) (by unfold Ly.w;omega)))
def gk:Xo:=fun _ F m k=>k F m
theorem gk_und (F:Nat) (m:M) (k:Nat→M→Rs):∃ F',gk v F m k=k F' m∧DstP ly none 2 F F':=⟨F,rfl,rfl⟩
end
end Go.Proofs.YtceaohiahajolaaGreatDoor.VM
namespace Go.Proofs.YtceaohiahajolaaGreatDoor.VM
open Go Go.RowKit
variable {c:Cx}
theorem rB_gt:mB<rB∧lB+549755813888<rB∧mB+549755813888<lB:=by decide
theorem Rel.frame {lk:Lk} {X:Xs} {E B:Nat} {D0 A A':Nat→Prop} {α α':Al} {m m':M} {w w':World} (h0:Rel lk X E B D0 A α m w) (hm:MSem m m') (hst:Stp B (CovC m'.g m'.brk) (News m m') A α w A' α' w') (h1:Rel lk X E B (Cov m'.g) A' α' m' w'):Rel lk X E B D0 A' α' m' w':=by
 have hb:=hm.wf.brk
 have hr:=rB_gt
 have hs:=hst.ast
 have hnm:=hm.wf.x.nm
 have hnl:=hm.wf.x.nl
 refine ⟨h1.x,fun a hd hlt hz hne=>?_,fun i hi hd=>?_,fun i hi hd=>?_,h1.dom,h1.inj,h1.lt,h1.last,h1.room,h1.own,h1.kd⟩
 · by_cases hc:CovC m'.g m'.brk a
   · exact h1.cell a (hc.cov hb) hlt hz hne
   · have hlo : a < m.brk := Nat.lt_of_not_le fun hge => by
       by_cases h2:a<m'.brk
       · exact hc (hm.new a (.inl ⟨hge,h2⟩) (by omega))
       · exact hne (hm.wf.zero a (by omega) hz)
     have e:=hm.mem a hz hlo hc
     rw [e] at hne ⊢
     have hcr:=h0.cell a hd hlt hz hne
     have hA:A a:=by
       obtain ⟨b0,o0,l0,v0,k,_⟩:=hcr
       exact h0.dom a _ k
     have hα:α' a=α a:=(hst.keep a hA).resolve_right fun h=>hc h.1
     exact hcr.keep hs hα fun b o l h=>⟨(hst.cells a b o l hA h hc).1,(hst.cells a b o l hA h hc).2.1⟩
 · by_cases hc:CovC m'.g m'.brk (mB+i)
   · exact h1.map i hi (hc.cov hb)
   · have hlo:i<m.x.nm:=Nat.lt_of_not_le fun hge=>hc (hm.new _ (.inr (.inl ⟨by omega,by omega⟩)) (by omega))
     rw [hm.map i hlo hc]
     have hcr:=h0.map i hlo hd
     have hA:A (mB+i):=by
       obtain ⟨_,_,b0,_,_,_,_,k,_⟩:=hcr
       exact h0.dom _ _ k
     have hα:α' (mB+i)=α (mB+i):=(hst.keep _ hA).resolve_right fun h=>hc h.1
     exact hcr.keep hs hα fun b h hk=>(hst.cells _ b _ _ hA h hc).2.2 hk
 · by_cases hc:CovC m'.g m'.brk (lB+i)
   · exact h1.loop i hi (hc.cov hb)
   · have hlo:i<m.x.nl:=Nat.lt_of_not_le fun hge=>hc (hm.new _ (.inr (.inr (.inl ⟨by omega,by omega⟩))) (by omega))
     rw [hm.loop i hlo hc]
     have hcr:=h0.loop i hlo hd
     have hA:A (lB+i):=by
       obtain ⟨b0,_,k,_⟩:=hcr
       exact h0.dom _ _ k
     have hα:α' (lB+i)=α (lB+i):=(hst.keep _ hA).resolve_right fun h=>hc h.1
     exact hcr.keep hs hα fun b h hk=>(hst.cells _ b _ _ hA h hc).2.2 hk
theorem News.mono1 {m m1 m2:M} (s1:MStep m m1) (s2:MStep m1 m2) {x:Nat} (h:News m m1 x):News m m2 x:=by
 unfold News at h ⊢
 have:=s2.brk;have:=s2.x.nm;have:=s2.x.nl
 omega
theorem News.mono2 {m m1 m2:M} (s1:MStep m m1) (s2:MStep m1 m2) {x:Nat} (h:News m1 m2 x):News m m2 x:=by
 unfold News at h ⊢
 have:=s1.brk;have:=s1.x.nm;have:=s1.x.nl
 omega
theorem News.apart {m m1 m2:M} (s1:MStep m m1) (s2:MStep m1 m2) (hL:Lim m2) {x:Nat} (h:News m m1 x):¬ News m1 m2 x:=by
 unfold News at h ⊢
 have:=s1.brk;have:=s1.x.nm;have:=s1.x.nl;have:=s2.brk;have:=s2.x.nm;have:=s2.x.nl
 have:=rB_gt;have:=hL.brk;have:=hL.nm;have:=hL.nl
 omega
theorem News.split {m m1 m2:M} (s1:MStep m m1) (s2:MStep m1 m2) {x:Nat}:(News m m1 x∨News m1 m2 x)↔News m m2 x:=by
 refine ⟨fun h=>h.elim (News.mono1 s1 s2) (News.mono2 s1 s2),fun h=>?_⟩
 unfold News at h ⊢
 have:=s1.brk;have:=s1.x.nm;have:=s1.x.nl;have:=s2.brk;have:=s2.x.nm;have:=s2.x.nl
 omega
theorem Stp.chain {B:Nat} {A A1 A2:Nat→Prop} {α α1 α2:Al} {w w1 w2:World} {m m1 m2:M} (s1:MStep m m1) (s2:MStep m1 m2) (h1:Stp B (CovC m1.g m1.brk) (News m m1) A α w A1 α1 w1) (h2:Stp B (CovC m2.g m2.brk) (News m1 m2) A1 α1 w1 A2 α2 w2):Stp B (CovC m2.g m2.brk) (News m m2) A α w A2 α2 w2 :=
 (h1.trans h2).weak (fun x h=>h.elim (fun h=>h.mono s2.g s2.brk) id) fun x=>News.split s1 s2
def CodeS (c:Cx) (ly:Ly) (K K':Nat→Prop) (F:Nat) (m:M) (e:Exit) (F':Nat) (m':M) (code:Code):Prop :=
 ∀ (zc:Fc c) X A α a w,XLe m'.x X→Lim m'→c.cx X→Wf m→FR ly K X A α w F a→Rel c.lk X 1048576 c.B (Cov m'.g) A α m w→(∀ x,News m m' x→¬ A x)→c.B≤w.heap.size →
   ∀ Q:Exit→Act→World→Prop,(∀ a' A' α' w',MSem m m'→FR ly K' X A' α' w' F' a'→Rel c.lk X 1048576 c.B (Cov m'.g) A' α' m' w'→Stp c.B (CovC m'.g m'.brk) (News m m') A α w A' α' w'→Q e a' w')→code.wpIn zc.F 0 c.P Q a w
def OpsS (c:Cx) (ly:Ly) (ops:Array Oper) (is:List Nat) (K K':Nat→Prop) (F:Nat) (m:M) (F':Nat) (m':M):Prop :=
 ∀ (zc:Fc c) X A α a w,XLe m'.x X→Lim m'→c.cx X→Wf m→FR ly K X A α w F a→Rel c.lk X 1048576 c.B (Cov m'.g) A α m w→(∀ x,News m m' x→¬ A x)→c.B≤w.heap.size →
   ∀ Q:Exit→Act→World→Prop,(∀ a' A' α' w',MSem m m'→FR ly K' X A' α' w' F' a'→Rel c.lk X 1048576 c.B (Cov m'.g) A' α' m' w'→Stp c.B (CovC m'.g m'.brk) (News m m') A α w A' α' w'→Q .normal a' w')→wpOpsIn zc.F 0 c.P ops Q is a w
def StepF (c:Cx) (ly:Ly) (ops:Array Oper) (o:Oper) (K K1:Nat→Prop) (v:Env) (g:Xo):Prop :=
 ∀ F m k,Ok (g v F m k)→∃ F' m',g v F m k=k F' m'∧MStep m m'∧∀ (zc:Fc c) X A α a w,XLe m'.x X→Lim m'→c.cx X→Wf m→FR ly K X A α w F a→Rel c.lk X 1048576 c.B (Cov m'.g) A α m w→(∀ x,News m m' x→¬ A x)→c.B≤w.heap.size →
   ∀ (Kn:Act→World→Prop) (Q:Exit→Act→World→Prop),
     (∀ a' A' α' w',MSem m m'→FR ly K1 X A' α' w' F' a'→Rel c.lk X 1048576 c.B (Cov m'.g) A' α' m' w'→Stp c.B (CovC m'.g m'.brk) (News m m') A α w A' α' w'→Kn a' w')→wpOp1 c zc o ops a w Kn Q
structure StepI (c:Cx) (ly:Ly) (ops:Array Oper) (o:Oper) (K K1:Nat→Prop) (v:Env) (g:Xo):Prop where
 st:StepF c ly ops o K K1 v g
 tm:∀ x∈o.op.operands.toList,∀ t∈tmpOf x,K t
 ds:∀ d,o.dst=some d→DstOk ly K d
 k1:∀ t,K1 t→addK K o.dst t
def Step2 (c:Cx) (ly:Ly) (ops:Array Oper) (o o2:Oper) (K K1:Nat→Prop) (v:Env) (g:Xo):Prop :=
 ∀ F m k,Ok (g v F m k)→∃ F' m',g v F m k=k F' m'∧MStep m m'∧∀ (zc:Fc c) X A α a w,XLe m'.x X→Lim m'→c.cx X→Wf m→FR ly K X A α w F a→Rel c.lk X 1048576 c.B (Cov m'.g) A α m w→(∀ x,News m m' x→¬ A x)→c.B≤w.heap.size →
   ∀ (Kn:Act→World→Prop) (Q:Exit→Act→World→Prop),
     (∀ a' A' α' w',MSem m m'→FR ly K1 X A' α' w' F' a'→Rel c.lk X 1048576 c.B (Cov m'.g) A' α' m' w'→Stp c.B (CovC m'.g m'.brk) (News m m') A α w A' α' w'→Kn a' w')→wpOp1 c zc o ops a w (fun a1 w1=>wpOp1 c zc o2 ops a1 w1 Kn Q) Q
def seqX:List Xo→Xo
 | []=>gk | [g]=>g | g :: gs=>th g (seqX gs)
def SeqOk (c:Cx) (ly:Ly) (ops:Array Oper) (v:Env):(Nat→Prop)→List Nat→List Xo→(Nat→Prop)→Prop
 | K,[],[],K'=>∀ t,K' t→K t
 | K,i :: is,g :: gs,K'=>∃ o K1,ops[i]?=some o∧StepI c ly ops o K K1 v g∧SeqOk c ly ops v K1 is gs K'
 | _,_,_,_=>False
inductive Seq2 (c:Cx) (ly:Ly) (ops:Array Oper) (v:Env):(Nat→Prop)→List Nat→List Xo→(Nat→Prop)→Prop
 | nil {K K':Nat→Prop} (h:∀ t,K' t→K t):Seq2 c ly ops v K [] [] K'
 | one {K K1 K':Nat→Prop} {i:Nat} {is:List Nat} {g:Xo} {gs:List Xo} {o:Oper} (ho:ops[i]?=some o) (hs:StepF c ly ops o K K1 v g) (hr:Seq2 c ly ops v K1 is gs K'):Seq2 c ly ops v K (i :: is) (g :: gs) K'
 | two {K K1 K':Nat→Prop} {i j:Nat} {is:List Nat} {g:Xo} {gs:List Xo} {o o2:Oper} (ho:ops[i]?=some o) (ho2:ops[j]?=some o2) (hs:Step2 c ly ops o o2 K K1 v g) (hr:Seq2 c ly ops v K1 is gs K'):Seq2 c ly ops v K (i :: j :: is) (g :: gs) K'
section
variable {ly:Ly} {ops:Array Oper} {v:Env}
theorem stepF_of {o:Oper} {T:List Nat} {K:Nat→Prop} {g:Xo} (h:PieceOk c ly ops o T v g) (hT:∀ t∈T,K t) (hd:∀ d,o.dst=some d→DstOk ly K d):StepF c ly ops o K (addK K o.dst) v g:=by
 intro F m k hok
 obtain ⟨r,F',m',e,h1,h2,h3⟩:=h F m k hok
 refine ⟨F',m',e,h1,?_⟩
 intro zc X A α a w hX hL hc hw hF hr hn hB Kn Q hK
 refine h3 zc X A α a w hX hL hc hw (fun t ht=>hF.sl t (hT t ht)) hr hn hB Kn Q fun u A' α' w' k1 k2 k3 k4=>hK _ A' α' w' k1 ?_ k3 k4
 cases hdd:o.dst with
 | none =>
   rw [hdd] at h2
   have h2:F'=F:=h2
   subst h2
   exact (hF.mono k4).sub fun t ht=>ht.elim id fun h=>by cases h
 | some d =>
   rw [hdd] at h2
   exact (hF.mono k4).put (hd d hdd) h2 (k2 d hdd)
theorem seqX_cons (g:Xo) (gs:List Xo) (hgs:gs≠[]):seqX (g :: gs)=th g (seqX gs):=by
 cases gs with
 | nil=>exact absurd rfl hgs
 | cons b l=>rfl
theorem seqX_run (g:Xo) (gs:List Xo) (v:Env) (F:Nat) (m:M) (k:Nat→M→Rs):seqX (g :: gs) v F m k=g v F m (seqX gs v · · k):=by
 cases gs with
 | nil=>rfl
 | cons b l=>rfl
theorem ops_chain {is:List Nat} {gs:List Xo} {K K':Nat→Prop} (h:Seq2 c ly ops v K is gs K'):∀ F m k,Ok (seqX gs v F m k)→∃ F' m',seqX gs v F m k=k F' m'∧MStep m m'∧OpsS c ly ops is K K' F m F' m':=by
 induction h with
 | nil h=>exact fun F m k hok=>⟨F,m,rfl,MStep.refl m,fun zc X A α a w hX hL hc hw hF hr hn hB Q hK=>hK a A α w ((SameM.refl m).sem hw) (hF.sub h) hr (Stp.none fun x=>News.same rfl rfl x)⟩
 | one ho hs _ ih =>
   intro F m k hok
   rw [seqX_run] at hok ⊢
   obtain ⟨F1,m1,e1,s1,h1⟩:=hs F m _ hok
   rw [e1] at hok
   obtain ⟨F',m',e2,s2,h2⟩:=ih F1 m1 k hok
   refine ⟨F',m',e1.trans e2,s1.trans s2,?_⟩
   intro zc X A α a w hX hL hc hw hF hr hn hB Q hK
   simp only [wpOpsIn,ho]
   refine h1 zc X A α a w (hX.back s2.x) (hL.back s2) hc hw hF (hr.sub fun x hx=>hx.mono s2.g) (fun x hx=>hn x (hx.mono1 s1 s2)) hB _ Q fun a1 A1 α1 w1 k1 k2 k3 k4=>?_
   refine h2 zc X A1 α1 a1 w1 hX hL hc k1.wf k2 (hr.frame k1 k4 k3) (fun x hx=>?_) (Nat.le_trans hB k4.size) Q fun a2 A2 α2 w2 g1 g2 g3 g4=>hK a2 A2 α2 w2 (MSem.trans s1 s2 k1 g1) g2 g3 (Stp.chain s1 s2 k4 g4)
   rw [k4.all]
   rintro (hA | hA)
   · exact hn x (hx.mono2 s1 s2) hA
   · exact News.apart s1 s2 hL hA hx
 | two ho ho2 hs _ ih =>
   intro F m k hok
   rw [seqX_run] at hok ⊢
   obtain ⟨F1,m1,e1,s1,h1⟩:=hs F m _ hok
   rw [e1] at hok
   obtain ⟨F',m',e2,s2,h2⟩:=ih F1 m1 k hok
   refine ⟨F',m',e1.trans e2,s1.trans s2,?_⟩
   intro zc X A α a w hX hL hc hw hF hr hn hB Q hK
   simp only [wpOpsIn,ho,ho2]
   refine h1 zc X A α a w (hX.back s2.x) (hL.back s2) hc hw hF (hr.sub fun x hx=>hx.mono s2.g) (fun x hx=>hn x (hx.mono1 s1 s2)) hB _ Q fun a1 A1 α1 w1 k1 k2 k3 k4=>?_
   refine h2 zc X A1 α1 a1 w1 hX hL hc k1.wf k2 (hr.frame k1 k4 k3) (fun x hx=>?_) (Nat.le_trans hB k4.size) Q fun a2 A2 α2 w2 g1 g2 g3 g4=>hK a2 A2 α2 w2 (MSem.trans s1 s2 k1 g1) g2 g3 (Stp.chain s1 s2 k4 g4)
   rw [k4.all]
   rintro (hA | hA)
   · exact hn x (hx.mono2 s1 s2) hA
   · exact News.apart s1 s2 hL hA hx
def exO:Ex→Exit
 | .nrm=>.normal | .ret=>.ret | .ex id=>.exit id | .gt l=>.goto l
def CodeOk (c:Cx) (ly:Ly) (K:Nat→Prop) (v:Env) (n:Nat) (code:Code) (x:X):Prop :=
 ∀ F m,Ok (x v n F m)→∃ e F' m',x v n F m=.ok e F' m'∧MStep m m'∧CodeS c ly K K F m (exO e) F' m' code
variable {K K':Nat→Prop} {n:Nat}
theorem code_ops {id:Nat} {gs:List Xo} (h:Seq2 c ly ops v K (List.range ops.size) gs K') (hK:∀ t,K t→K' t):CodeOk c ly K v n (.region id ops false) (x_ops (seqX gs)):=by
 intro F m hok
 obtain ⟨F',m',e,s,h1⟩:=ops_chain h F m okN hok
 refine ⟨.nrm,F',m',e,s,?_⟩
 intro zc X A α a w hX hL hc hw hF hr hn hB Q hQ
 exact wpIn_region (h1 zc X A α a w hX hL hc hw hF hr hn hB Q fun a' A' α' w' k1 k2 k3 k4=>hQ a' A' α' w' k1 (k2.sub hK) k3 k4)
theorem code_then {code code2:Code} {e:Ex} {F F1 F':Nat} {m m1 m':M} (s1:MStep m m1) (s2:MStep m1 m') (h1:CodeS c ly K K F m .normal F1 m1 code) (h2:CodeS c ly K K F1 m1 (exO e) F' m' code2):CodeS c ly K K F m (exO e) F' m' (.seq code code2):=by
 intro zc X A α a w hX hL hc hw hF hr hn hB Q hQ
 refine wpIn_seq (h1 zc X A α a w (hX.back s2.x) (hL.back s2) hc hw hF (hr.sub fun x hx=>hx.mono s2.g) (fun x hx=>hn x (hx.mono1 s1 s2)) hB _ fun a1 A1 α1 w1 k1 k2 k3 k4=>?_)
 refine h2 zc X A1 α1 a1 w1 hX hL hc k1.wf k2 (hr.frame k1 k4 k3) (fun x hx=>?_) (Nat.le_trans hB k4.size) Q fun a2 A2 α2 w2 g1 g2 g3 g4=>hQ a2 A2 α2 w2 (MSem.trans s1 s2 k1 g1) g2 g3 (Stp.chain s1 s2 k4 g4)
 rw [k4.all]
 rintro (hA | hA)
 · exact hn x (hx.mono2 s1 s2) hA
 · exact News.apart s1 s2 hL hA hx
theorem code_os {id:Nat} {gs:List Xo} {code:Code} {b:X} (h:Seq2 c ly ops v K (List.range ops.size) gs K') (hK:∀ t,K t→K' t) (hb:CodeOk c ly K v n code b):CodeOk c ly K v n (.seq (.region id ops false) code) (x_os (seqX gs) b):=by
 intro F m hok
 obtain ⟨F1,m1,e1,s1,h1⟩:=ops_chain h F m (b v n) hok
 have e1:x_os (seqX gs) b v n F m=b v n F1 m1:=e1
 rw [e1] at hok ⊢
 obtain ⟨e,F',m',e2,s2,h2⟩:=hb F1 m1 hok
 refine ⟨e,F',m',e2,s1.trans s2,code_then s1 s2 ?_ h2⟩
 intro zc X A α a w hX hL hc hw hF hr hn hB Q hQ
 exact wpIn_region (h1 zc X A α a w hX hL hc hw hF hr hn hB Q fun a' A' α' w' k1 k2 k3 k4=>hQ a' A' α' w' k1 (k2.sub hK) k3 k4)
theorem code_first {code code2:Code} {e:Ex} (he:e≠.nrm) {F F':Nat} {m m':M} (h1:CodeS c ly K K F m (exO e) F' m' code):CodeS c ly K K F m (exO e) F' m' (.seq code code2):=by
 intro zc X A α a w hX hL hc hw hF hr hn hB Q hQ
 refine wpIn_seq (h1 zc X A α a w hX hL hc hw hF hr hn hB _ fun a1 A1 α1 w1 k1 k2 k3 k4=>?_)
 have:=hQ a1 A1 α1 w1 k1 k2 k3 k4
 cases e with
 | nrm=>exact absurd rfl he
 | ret=>exact this
 | ex id=>exact this
 | gt l=>exact this
theorem code_seq {code code2:Code} {x y:X} (h1:CodeOk c ly K v n code x) (h2:CodeOk c ly K v n code2 y):CodeOk c ly K v n (.seq code code2) (x_seq x y):=by
 intro F m hok
 have e0:x_seq x y v n F m=Rs.rec (motive:=fun _=>Rs) .bad (onNrm (y v n)) (x v n F m):=rfl
 rw [e0] at hok ⊢
 have hx:Ok (x v n F m):=fun h=>by rw [h] at hok;exact hok rfl
 obtain ⟨e,F1,m1,e1,s1,g1⟩:=h1 F m hx
 rw [e1] at hok ⊢
 cases e with
 | nrm =>
   obtain ⟨e',F',m',e2,s2,g2⟩:=h2 F1 m1 hok
   exact ⟨e',F',m',e2,s1.trans s2,code_then s1 s2 g1 g2⟩
 | ret=>exact ⟨.ret,F1,m1,rfl,s1,code_first (by simp) g1⟩
 | ex id=>exact ⟨.ex id,F1,m1,rfl,s1,code_first (by simp) g1⟩
 | gt l=>exact ⟨.gt l,F1,m1,rfl,s1,code_first (by simp) g1⟩
theorem code_now {code:Code} {e:Ex} {F:Nat} {m:M} (h:∀ (zc:Fc c) (a:Act) (w:World) (Q:Exit→Act→World→Prop),Q (exO e) a w→code.wpIn zc.F 0 c.P Q a w):CodeS c ly K K F m (exO e) F m code :=
 fun zc X A α a w hX hL hc hw hF hr hn hB Q hQ=>h zc a w Q (hQ a A α w ((SameM.refl m).sem hw) hF hr (Stp.none fun x=>News.same rfl rfl x))
theorem code_skip:CodeOk c ly K v n .skip x_skip:=fun F m _=>⟨.nrm,F,m,rfl,MStep.refl m,code_now fun zc a w Q h=>wpIn_skip h⟩
theorem code_label {l:Nat}:CodeOk c ly K v n (.label l) x_skip:=fun F m _=>⟨.nrm,F,m,rfl,MStep.refl m,code_now fun zc a w Q h=>wpIn_label h⟩
theorem code_ret:CodeOk c ly K v n .ret x_ret:=fun F m _=>⟨.ret,F,m,rfl,MStep.refl m,code_now fun zc a w Q h=>wpIn_ret h⟩
theorem code_ext {id:Nat}:CodeOk c ly K v n (.exit id) (x_ext id):=fun F m _=>⟨.ex id,F,m,rfl,MStep.refl m,code_now fun zc a w Q h=>wpIn_exit h⟩
theorem code_gto {l:Nat}:CodeOk c ly K v n (.goto l) (x_gto l):=fun F m _=>⟨.gt l,F,m,rfl,MStep.refl m,code_now fun zc a w Q h=>wpIn_goto h⟩
theorem code_bad {code:Code}:CodeOk c ly K v n code x_bad:=fun F m h=>absurd rfl h
theorem code_cnd {z:Operand} {q:O} {code code2:Code} {x y:X} (hq:OpR c ly z (.s .one) q) (hz:∀ t,z=.tmp t→K t) (h1:CodeOk c ly K v n code x) (h2:CodeOk c ly K v n code2 y):CodeOk c ly K v n (.cond z code code2) (x_cnd q x y):=by
 intro F m hok
 have hev:∀ X A α w (a:Act),c.cx X→FR ly K X A α w F a→NR X A α (q F) (a.eval z):=fun X A α w a hc hF=>hq.2 X A α F a hc fun t ht=>hF.sl t (hz t ht)
 have e0:x_cnd q x y v n F m=Bool.rec (motive:=fun _=>Rs) (Bool.rec (motive:=fun _=>Rs) .bad (y v n F m) (Nat.beq (q F) 3)) (x v n F m) (Nat.beq (q F) 35):=rfl
 rw [e0] at hok ⊢
 by_cases h35:q F=35
 · rw [beq_iff.2 h35] at hok ⊢
   obtain ⟨e,F',m',e1,s1,g1⟩:=h1 F m hok
   refine ⟨e,F',m',e1,s1,?_⟩
   intro zc X A α a w hX hL hc hw hF hr hn hB Q hQ
   have hv:=hev X A α w a hc hF
   rw [h35] at hv
   exact wpIn_cond_true hv.true_inv (g1 zc X A α a w hX hL hc hw hF hr hn hB Q hQ)
 · rw [beq_ff h35] at hok ⊢
   obtain ⟨h3,hok,e2⟩:=ok_if (r:=y v n F m) hok
   have h3:=beq_iff.1 h3
   obtain ⟨e,F',m',e1,s1,g1⟩:=h2 F m hok
   refine ⟨e,F',m',Eq.trans e2 e1,s1,?_⟩
   intro zc X A α a w hX hL hc hw hF hr hn hB Q hQ
   have hv:=hev X A α w a hc hF
   rw [h3] at hv
   exact wpIn_cond_false hv.false_inv (g1 zc X A α a w hX hL hc hw hF hr hn hB Q hQ)
theorem code_blk {id:Nat} {code:Code} {x:X} (h:CodeOk c ly K v n code x):CodeOk c ly K v n (.block id code) (x_blk id x):=by
 intro F m hok
 have e0:x_blk id x v n F m=Rs.rec (motive:=fun _=>Rs) .bad (onEx id) (x v n F m):=rfl
 rw [e0] at hok ⊢
 have hx:Ok (x v n F m):=fun h=>by rw [h] at hok;exact hok rfl
 obtain ⟨e,F1,m1,e1,s1,g1⟩:=h F m hx
 rw [e1]
 have key:∀ e',(∀ Q:Exit→Act→World→Prop,∀ a w,Q (exO e') a w→Exit.inBlock id Q (exO e) a w)→CodeS c ly K K F m (exO e') F1 m1 (.block id code):=by
   intro e' he zc X A α a w hX hL hc hw hF hr hn hB Q hQ
   exact wpIn_block (g1 zc X A α a w hX hL hc hw hF hr hn hB _ fun a1 A1 α1 w1 k1 k2 k3 k4=>he Q _ _ (hQ a1 A1 α1 w1 k1 k2 k3 k4))
 cases e with
 | nrm=>exact ⟨.nrm,F1,m1,rfl,s1,key .nrm fun Q a w h=>h⟩
 | ret=>exact ⟨.ret,F1,m1,rfl,s1,key .ret fun Q a w h=>h⟩
 | gt l=>exact ⟨.gt l,F1,m1,rfl,s1,key (.gt l) fun Q a w h=>h⟩
 | ex i =>
   have e2:(Rs.rec (motive:=fun _=>Rs) .bad (onEx id) (.ok (.ex i) F1 m1))=Bool.rec (motive:=fun _=>Rs) (.ok (.ex i) F1 m1) (.ok .nrm F1 m1) (Nat.beq i id):=rfl
   rw [e2]
   by_cases hi:i=id
   · rw [beq_iff.2 hi]
     exact ⟨.nrm,F1,m1,rfl,s1,key .nrm fun Q a w h=>by show (if i=id then _ else _);rw [if_pos hi];exact h⟩
   · rw [beq_ff hi]
     exact ⟨.ex i,F1,m1,rfl,s1,key (.ex i) fun Q a w h=>by show (if i=id then _ else _);rw [if_neg hi];exact h⟩
end
end Go.Proofs.YtceaohiahajolaaGreatDoor.VM
namespace Go.Proofs.YtceaohiahajolaaGreatDoor.VM
open Go Go.RowKit
variable {c:Cx}
theorem least {p:Nat→Prop} (h:∃ n,p n):∃ n,p n∧∀ m,p m→n≤m:=by
 obtain ⟨n,hn⟩:=h
 induction n using Nat.strongRecOn with
 | _ n ih =>
   by_cases hx:∃ m,m<n∧p m
   · obtain ⟨m,h1,h2⟩:=hx
     exact ih m h1 h2
   · exact ⟨n,hn,fun m hm=>Nat.le_of_not_lt fun hlt=>hx ⟨m,hlt,hm⟩⟩
theorem wpIn_loop_n {F:Fence} {n:Nat} {P:Program} {Q:Exit→Act→World→Prop} {code:Code} (J:Nat→Act→World→Prop) {j:Nat} {a:Act} {w:World} (h0:J j a w) (h:∀ j a w,J j a w→code.wpIn F n P (Exit.then (fun a' w'=>∃ i,i<j∧J i a' w') Q) a w):(Code.loop code).wpIn F n P Q a w:=by
 classical
 let μ:Act→World→Nat:=fun a w=>if hx:∃ j,J j a w then Classical.choose (least hx) else 0
 refine wpIn_loop (fun a w=>∃ j,J j a w) μ ⟨j,h0⟩ fun a w hI=>?_
 have hj:=(Classical.choose_spec (least hI)).1
 refine wpIn_mono (h _ a w hj) fun e a' w' hq=>?_
 cases e with
 | normal =>
   obtain ⟨i,hi,hJ⟩:=hq
   refine ⟨⟨i,hJ⟩,?_⟩
   have h1:μ a w=Classical.choose (least hI):=dif_pos hI
   have h2:μ a' w'=Classical.choose (least (⟨i,hJ⟩:∃ j,J j a' w')):=dif_pos ⟨i,hJ⟩
   rw [h1,h2]
   exact Nat.lt_of_le_of_lt ((Classical.choose_spec (least (⟨i,hJ⟩:∃ j,J j a' w'))).2 i hJ) hi
 | exit id=>exact hq
 | goto l=>exact hq
 | ret=>exact hq
 | panic ch=>exact hq
 | outgrown=>exact hq
section
variable {ly:Ly} {v:Env} {K:Nat→Prop} {n:Nat}
structure Mid (c:Cx) (ly:Ly) (K:Nat→Prop) (X:Xs) (A:Nat→Prop) (α:Al) (w0:World) (m m':M) (F1:Nat) (m1:M) (A1:Nat→Prop) (α1:Al) (a1:Act) (w1:World):Prop where
 s1:MStep m m1
 s2:MStep m1 m'
 sem:MSem m m1
 fr:FR ly K X A1 α1 w1 F1 a1
 rel:Rel c.lk X 1048576 c.B (Cov m'.g) A1 α1 m1 w1
 stp:Stp c.B (CovC m1.g m1.brk) (News m m1) A α w0 A1 α1 w1
theorem Mid.go {X : Xs} {A : Nat → Prop} {α : Al} {w0 : World} {m m' : M} {F1 : Nat} {m1 : M} {A1 : Nat → Prop} {α1 : Al} {a1 : Act} {w1 : World} (h : Mid c ly K X A α w0 m m' F1 m1 A1 α1 a1 w1) (hX : XLe m'.x X) (hL : Lim m') (hc : c.cx X) (hn : ∀ x, News m m' x → ¬ A x) (hB : c.B ≤ w0.heap.size) {e : Exit} {F2 : Nat} {m2 : M} {code : Code} (s3 : MStep m1 m2) (s4 : MStep m2 m') (hs : CodeS c ly K K F1 m1 e F2 m2 code) (zc : Fc c) {Q : Exit → Act → World → Prop}
    (hQ:∀ a2 A2 α2 w2,Mid c ly K X A α w0 m m' F2 m2 A2 α2 a2 w2→Q e a2 w2):code.wpIn zc.F 0 c.P Q a1 w1:=by
  refine hs zc X A1 α1 a1 w1 (hX.back s4.x) (hL.back s4) hc h.sem.wf h.fr (h.rel.sub fun x hx=>hx.mono s4.g) (fun x hx=>?_) (Nat.le_trans hB h.stp.size) Q fun a2 A2 α2 w2 g1 g2 g3 g4=>hQ a2 A2 α2 w2 ⟨h.s1.trans s3,s4,MSem.trans h.s1 s3 h.sem g1,g2,h.rel.frame g1 g4 g3,Stp.chain h.s1 s3 h.stp g4⟩
  have hx':News m1 m' x:=hx.mono1 s3 s4
  rw [h.stp.all]
  rintro (hA | hA)
  · exact hn x (hx'.mono2 h.s1 h.s2) hA
  · exact News.apart h.s1 h.s2 hL hA hx'
theorem Mid.start {X:Xs} {A:Nat→Prop} {α:Al} {w0:World} {m m':M} {F:Nat} {a:Act} (hs:MStep m m') (hw:Wf m) (hF:FR ly K X A α w0 F a) (hr:Rel c.lk X 1048576 c.B (Cov m'.g) A α m w0):Mid c ly K X A α w0 m m' F m A α a w0 :=
 ⟨MStep.refl m,hs,(SameM.refl m).sem hw,hF,hr,Stp.none fun x=>News.same rfl rfl x⟩
theorem Mid.done {X:Xs} {A:Nat→Prop} {α:Al} {w0:World} {m m':M} {F':Nat} {A1:Nat→Prop} {α1:Al} {a1:Act} {w1:World} {e:Exit} {Q:Exit→Act→World→Prop} (h:Mid c ly K X A α w0 m m' F' m' A1 α1 a1 w1) (hQ:∀ a' A' α' w',MSem m m'→FR ly K X A' α' w' F' a'→Rel c.lk X 1048576 c.B (Cov m'.g) A' α' m' w'→Stp c.B (CovC m'.g m'.brk) (News m m') A α w0 A' α' w'→Q e a' w'):Q e a1 w1:=hQ a1 A1 α1 w1 h.sem h.fr h.rel h.stp
noncomputable def lpR (x:X) (v:Env) (n j:Nat):Nat→M→Rs:=Nat.rec lp0 (fun _ ih=>lp1 (x v n) ih) j
theorem lpR_succ (x:X) (v:Env) (n j F:Nat) (m:M):lpR x v n (j+1) F m=Rs.rec (motive:=fun _=>Rs) .bad (onNrm (lpR x v n j)) (x v n F m):=rfl
theorem code_lop {code:Code} {x:X} (h:CodeOk c ly K v n code x):CodeOk c ly K v n (.loop code) (x_lop x):=by
 have mach:∀ (j F:Nat) (m:M),Ok (lpR x v n j F m)→∃ e F' m',lpR x v n j F m=.ok e F' m'∧MStep m m':=by
   intro j
   induction j with
   | zero=>intro F m hok;exact absurd rfl hok
   | succ j ih =>
     intro F m hok
     rw [lpR_succ] at hok ⊢
     have hx:Ok (x v n F m):=fun h=>by rw [h] at hok;exact hok rfl
     obtain ⟨e,F1,m1,e1,s1,_⟩:=h F m hx
     rw [e1] at hok ⊢
     cases e with
     | nrm =>
       obtain ⟨e',F',m',e2,s2⟩:=ih F1 m1 hok
       exact ⟨e',F',m',e2,s1.trans s2⟩
     | ret=>exact ⟨_,F1,m1,rfl,s1⟩
     | ex id=>exact ⟨_,F1,m1,rfl,s1⟩
     | gt l=>exact ⟨_,F1,m1,rfl,s1⟩
 intro F m hok
 have e0:x_lop x v n F m=lpR x v n n F m:=rfl
 rw [e0] at hok ⊢
 obtain ⟨e,F',m',e1,s⟩:=mach n F m hok
 refine ⟨e,F',m',e1,s,?_⟩
 intro zc X A α a w hX hL hc hw hF hr hn hB Q hQ
 refine wpIn_loop_n (fun j a1 w1=>∃ F1 m1 A1 α1,lpR x v n j F1 m1=.ok e F' m'∧Mid c ly K X A α w m m' F1 m1 A1 α1 a1 w1) (j:=n) ⟨F,m,A,α,e1,Mid.start s hw hF hr⟩ ?_
 rintro j a1 w1 ⟨F1,m1,A1,α1,hrun,hmid⟩
 cases j with
 | zero=>cases hrun
 | succ j =>
   rw [lpR_succ] at hrun
   have hx:Ok (x v n F1 m1):=fun h=>by rw [h] at hrun;cases hrun
   obtain ⟨e2,F2,m2,g1,s2,hs⟩:=h F1 m1 hx
   rw [g1] at hrun
   cases e2 with
   | nrm =>
     have hrun:lpR x v n j F2 m2=.ok e F' m':=hrun
     obtain ⟨_,_,_,g2,s3⟩:=mach j F2 m2 (fun h=>by rw [hrun] at h;cases h)
     rw [hrun] at g2
     cases g2
     exact hmid.go hX hL hc hn hB s2 s3 hs zc fun a2 A2 α2 w2 hm2=>⟨j,Nat.lt_succ_self _,F2,m2,A2,α2,hrun,hm2⟩
   | ret =>
     cases hrun
     exact hmid.go hX hL hc hn hB s2 (MStep.refl _) hs zc fun a2 A2 α2 w2 hm2=>hm2.done hQ
   | ex id =>
     cases hrun
     exact hmid.go hX hL hc hn hB s2 (MStep.refl _) hs zc fun a2 A2 α2 w2 hm2=>hm2.done (e:=.exit id) hQ
   | gt l =>
     cases hrun
     exact hmid.go hX hL hc hn hB s2 (MStep.refl _) hs zc fun a2 A2 α2 w2 hm2=>hm2.done (e:=.goto l) hQ
theorem stepR_scope {P:Program} {b:Frame} {a:Act} {k:List Item} {cs:List Frame} {w:World} {code:Code}:step P (lone (b.atR a (.code (.scope code) :: k)) cs w)=.next (lone (b.atR a (.code code :: .inScope code :: k)) cs w) :=
 step_lone_go (by simp [stepG,stepG.exec,Frame.atR])
theorem stepR_inScope {P:Program} {b:Frame} {a:Act} {k:List Item} {cs:List Frame} {w:World} {code:Code}:step P (lone (b.atR a (.inScope code :: k)) cs w)=.next (lone (b.atR a k) cs w) :=
 step_lone_go (by simp [stepG,stepG.exec,Frame.atR])
theorem wpIn_scope_n {F : Fence} {P : Program} {Q : Exit → Act → World → Prop} {code : Code} (J : Nat → Code → Act → World → Prop) {j : Nat} {a : Act} {w : World} (h0 : J j code a w)
    (h:∀ j code' a w,J j code' a w→code'.wpIn F 0 P (fun e a' w'=>match e with | .goto l=>(match findLabel code l with | some rest=>∃ i,i<j∧J i rest a' w' | none=>Q (.goto l) a' w') | e=>Q e a' w') a w):(Code.scope code).wpIn F 0 P Q a w:=by
  intro b k cs hro hb hr
  have hr0:F.room (cs.length+1+0):=hr
  have key:∀ j code' a w,J j code' a w→∃ e a' w',Q e a' w'∧ArrivesIn (Machine.fenced P F) P (lone (b.atR a (.code code' :: .inScope code :: k)) cs w) b k cs e a' w':=by
    intro j
    induction j using Nat.strongRecOn with
    | _ j ih =>
      intro code' a w hJ
      obtain ⟨e,a₁,w₁,hq,harr⟩:=h j code' a w hJ b (.inScope code :: k) cs hro hb hr
      cases e with
      | normal=>exact ⟨.normal,a₁,w₁,hq,StepsIn.trans harr (.one (fenced_calm hb hr rfl) stepR_inScope)⟩
      | exit id =>
        have hx:exitTo id (.inScope code :: k)=exitTo id k:=by simp [exitTo]
        exact ⟨.exit id,a₁,w₁,hq,fun k' hk=>harr.1 k' (by rw [hx];exact hk),fun hr' hk=>harr.2 hr' (by rw [hx];exact hk)⟩
      | goto l =>
        cases hf:findLabel code l with
        | some rest =>
          simp only [hf] at hq
          obtain ⟨i,hi,hJ'⟩:=hq
          have hg:gotoIn l (.inScope code :: k)=some (.code rest :: .inScope code :: k):=by simp [gotoIn,hf]
          obtain ⟨e₂,a₂,w₂,hq₂,harr₂⟩:=ih i hi rest a₁ w₁ hJ'
          exact ⟨e₂,a₂,w₂,hq₂,.of_steps (harr.1 _ hg) harr₂⟩
        | none =>
          simp only [hf] at hq
          have hg:gotoIn l (.inScope code :: k)=gotoIn l k:=by simp [gotoIn,hf]
          exact ⟨.goto l,a₁,w₁,hq,fun k' hk=>harr.1 k' (by rw [hg];exact hk),fun hr' hk=>harr.2 hr' (by rw [hg];exact hk)⟩
      | ret=>exact ⟨_,a₁,w₁,hq,harr⟩
      | panic ch=>exact ⟨_,a₁,w₁,hq,harr⟩
      | outgrown=>exact ⟨_,a₁,w₁,hq,harr⟩
  obtain ⟨e,a',w',hq,harr⟩:=key j code a w h0
  exact ⟨e,a',w',hq,.of_steps (.one (fenced_calm hb hr rfl) stepR_scope) harr⟩
noncomputable def scR (v:Env) (n:Nat) (ls:List (Nat × X)) (j:Nat):Rs→Rs:=Nat.rec (fun _=>.bad) (fun _ ih r=>Rs.rec .bad (onGt v n ls ih) r) j
theorem scR_succ (v:Env) (n:Nat) (ls:List (Nat × X)) (j:Nat) (r:Rs):scR v n ls (j+1) r=Rs.rec (motive:=fun _=>Rs) .bad (onGt v n ls (scR v n ls j)) r:=rfl
theorem lbl_some:∀ {ls:List (Nat × X)} {l:Nat} {x:X},lbl ls l=some x→∃ p∈ls,p.1=l∧p.2=x
 | [],l,x,h=>by cases h
 | p :: ls,l,x,h=>by
   have h:Bool.rec (motive:=fun _=>Option X) (lbl ls l) (some p.2) (Nat.beq p.1 l)=some x:=h
   by_cases hp:p.1=l
   · rw [beq_iff.2 hp] at h;cases h
     exact ⟨p,by simp,hp,rfl⟩
   · rw [beq_ff hp] at h
     obtain ⟨q,h1,h2⟩:=lbl_some h
     exact ⟨q,by simp [h1],h2⟩
theorem lbl_none:∀ {ls:List (Nat × X)} {l:Nat},lbl ls l=none→∀ p∈ls,p.1≠l
 | [],l,h,p,hp=>by simp at hp
 | q :: ls,l,h,p,hp=>by
   have h:Bool.rec (motive:=fun _=>Option X) (lbl ls l) (some q.2) (Nat.beq q.1 l)=none:=h
   by_cases hq:q.1=l
   · rw [beq_iff.2 hq] at h;cases h
   · rw [beq_ff hq] at h
     rcases List.mem_cons.1 hp with rfl | hp
     · exact hq
     · exact lbl_none h p hp
def LblOk (c:Cx) (ly:Ly) (K:Nat→Prop) (v:Env) (n:Nat) (code:Code) (ls:List (Nat × X)):Prop :=
 (∀ p∈ls,∃ rest,findLabel code p.1=some rest∧CodeOk c ly K v n rest p.2)∧∀ l,(∀ p∈ls,p.1≠l)→findLabel code l=none
theorem code_scp {code:Code} {x:X} {ls:List (Nat × X)} (h:CodeOk c ly K v n code x) (hls:LblOk c ly K v n code ls):CodeOk c ly K v n (.scope code) (x_scp x ls):=by
 have mach:∀ (j:Nat) (code':Code) (x':X),CodeOk c ly K v n code' x'→∀ F m,Ok (scR v n ls j (x' v n F m))→∃ e F' m',scR v n ls j (x' v n F m)=.ok e F' m'∧MStep m m':=by
   intro j
   induction j with
   | zero=>intro code' x' _ F m hok;exact absurd rfl hok
   | succ j ih =>
     intro code' x' h' F m hok
     rw [scR_succ] at hok ⊢
     have hx:Ok (x' v n F m):=fun h=>by rw [h] at hok;exact hok rfl
     obtain ⟨e,F1,m1,e1,s1,_⟩:=h' F m hx
     rw [e1] at hok ⊢
     cases e with
     | nrm=>exact ⟨_,F1,m1,rfl,s1⟩
     | ret=>exact ⟨_,F1,m1,rfl,s1⟩
     | ex id=>exact ⟨_,F1,m1,rfl,s1⟩
     | gt l =>
       have e2:(Rs.rec (motive:=fun _=>Rs) .bad (onGt v n ls (scR v n ls j)) (.ok (.gt l) F1 m1))=Option.rec (motive:=fun _=>Rs) (.ok (.gt l) F1 m1) (fun r=>scR v n ls j (r v n F1 m1)) (lbl ls l):=rfl
       rw [e2] at hok ⊢
       cases hl:lbl ls l with
       | none=>exact ⟨_,F1,m1,rfl,s1⟩
       | some r =>
         rw [hl] at hok
         obtain ⟨p,hp,_,rfl⟩:=lbl_some hl
         obtain ⟨rest,_,hrest⟩:=hls.1 p hp
         obtain ⟨e',F',m',e3,s2⟩:=ih rest p.2 hrest F1 m1 hok
         exact ⟨e',F',m',e3,s1.trans s2⟩
 intro F m hok
 have e0:x_scp x ls v n F m=scR v n ls n (x v n F m):=rfl
 rw [e0] at hok ⊢
 obtain ⟨e,F',m',e1,s⟩:=mach n code x h F m hok
 refine ⟨e,F',m',e1,s,?_⟩
 intro zc X A α a w hX hL hc hw hF hr hn hB Q hQ
 refine wpIn_scope_n (fun j code' a1 w1=>∃ x' F1 m1 A1 α1,CodeOk c ly K v n code' x'∧scR v n ls j (x' v n F1 m1)=.ok e F' m'∧Mid c ly K X A α w m m' F1 m1 A1 α1 a1 w1) (j:=n) ⟨x,F,m,A,α,h,e1,Mid.start s hw hF hr⟩ ?_
 rintro j code' a1 w1 ⟨x',F1,m1,A1,α1,h',hrun,hmid⟩
 cases j with
 | zero=>cases hrun
 | succ j =>
   rw [scR_succ] at hrun
   have hx:Ok (x' v n F1 m1):=fun h=>by rw [h] at hrun;cases hrun
   obtain ⟨e2,F2,m2,g1,s2,hs⟩:=h' F1 m1 hx
   rw [g1] at hrun
   cases e2 with
   | nrm =>
     cases hrun
     exact hmid.go hX hL hc hn hB s2 (MStep.refl _) hs zc fun a2 A2 α2 w2 hm2=>hm2.done (e:=.normal) hQ
   | ret =>
     cases hrun
     exact hmid.go hX hL hc hn hB s2 (MStep.refl _) hs zc fun a2 A2 α2 w2 hm2=>hm2.done (e:=.ret) hQ
   | ex id =>
     cases hrun
     exact hmid.go hX hL hc hn hB s2 (MStep.refl _) hs zc fun a2 A2 α2 w2 hm2=>hm2.done (e:=.exit id) hQ
   | gt l =>
     have hrun:Option.rec (motive:=fun _=>Rs) (.ok (.gt l) F2 m2) (fun r=>scR v n ls j (r v n F2 m2)) (lbl ls l)=.ok e F' m':=hrun
     cases hl:lbl ls l with
     | none =>
       rw [hl] at hrun
       cases hrun
       have hf:=hls.2 l (lbl_none hl)
       refine hmid.go hX hL hc hn hB s2 (MStep.refl _) hs zc fun a2 A2 α2 w2 hm2=>?_
       show (match findLabel code l with | some rest=>_ | none=>_)
       rw [hf]
       exact hm2.done (e:=.goto l) hQ
     | some r =>
       rw [hl] at hrun
       obtain ⟨p,hp,hpl,rfl⟩:=lbl_some hl
       obtain ⟨rest,hf,hrest⟩:=hls.1 p hp
       have hrun:scR v n ls j (p.2 v n F2 m2)=.ok e F' m':=hrun
       obtain ⟨_,_,_,g2,s3⟩:=mach j rest p.2 hrest F2 m2 (fun h=>by rw [hrun] at h;cases h)
       rw [hrun] at g2
       cases g2
       refine hmid.go hX hL hc hn hB s2 s3 hs zc fun a2 A2 α2 w2 hm2=>?_
       show (match findLabel code l with | some rest=>_ | none=>_)
       rw [hpl] at hf
       rw [hf]
       exact ⟨j,Nat.lt_succ_self _,p.2,F2,m2,A2,α2,hrest,hrun,hm2⟩
end
end Go.Proofs.YtceaohiahajolaaGreatDoor.VM
namespace Go.Proofs.YtceaohiahajolaaGreatDoor.VM
open Go Go.RowKit
variable {c:Cx}
theorem listK_eq (k:List Nat→Rs) (l:List Nat):listK k l=k l:=by cases l <;> rfl
def relog (m:M):M:=⟨m.brk,m.cur,m.pg,m.x,⟨m.brk,[],[]⟩⟩
def setG (m:M) (g:Lo):M:=⟨m.brk,m.cur,m.pg,m.x,g⟩
noncomputable def nwL (p q:M):List Nat:=nw1 0 p.brk q.brk (nw1 140737488355328 p.x.nm q.x.nm (nw1 211106232532992 p.x.nl q.x.nl []))
noncomputable def lgOf (p q:M):Lg:=⟨q.g.rl,q.g.wl,nwL p q⟩
theorem drC_run (g:Xo) (r:Xd) (v:Env) (wm:Nat) (rl wl:List Nat) (acc:List Lg) (F:Nat) (m:M):drC g r v wm rl wl acc F m=g v F (relog m) (fun F' m'=>r v wm rl wl (lgOf (relog m) m' :: acc) F' m'):=by
 have e:drK (r v wm rl wl) m.brk m.x.nm m.x.nl acc=fun F' m'=>r v wm rl wl (lgOf (relog m) m' :: acc) F' m':=by
   funext F' m'
   show listK _ _=_
   rw [listK_eq]
   show listK _ _=_
   rw [listK_eq]
   show listK _ _=_
   rw [listK_eq];rfl
 show setLog m m.brk [] [] (drG g v F (drK (r v wm rl wl) m.brk m.x.nm m.x.nl acc))=_
 rw [e]
 rfl
noncomputable def drX (n:Nat) (prs:List (Nat × Nat)):List Xo→Xd
 | []=>drN n prs | g :: gs=>drC g (drX n prs gs)
structure Pc where
 o:Oper
 T:List Nat
 pu:Bool
 rd:Bool
 g:Xo
def PcOk (c:Cx) (ly:Ly) (ops:Array Oper) (v:Env) (p:Pc):Prop :=
 ∀ F m k,Ok (p.g v F m k)→∃ r F' m',p.g v F m k=k F' m'∧MStep m m'∧DstP ly p.o.dst r F F'∧StepS c ly ops p.o p.T F m r m'∧(p.pu=true→m'=m)∧(p.rd=true→SameM m m'∧m'.g.wl=m.g.wl)
structure DSt (c:Cx) (ly:Ly) (ops:Array Oper) (p:Pc) (F:Nat) (m:M) (r F':Nat) (m':M):Prop where
 st:MStep (relog m) m'
 dp:DstP ly p.o.dst r F F'
 sem:StepS c ly ops p.o p.T F (relog m) r m'
 pu:p.pu=true→m'=relog m
 rd:p.rd=true→SameM (relog m) m'∧m'.g.wl=[]
noncomputable def logs (Mn:Nat→M) (n:Nat):List Lg:=(List.range n).map fun i=>lgOf (relog (Mn i)) (Mn (i+1))
theorem drX_run {ly : Ly} {ops : Array Oper} {v : Env} {n : Nat} {prs : List (Nat × Nat)} {wm : Nat} {rl wl : List Nat} : ∀ (ps : List Pc), (∀ p ∈ ps, PcOk c ly ops v p) → ∀ (acc : List Lg) (F : Nat) (m : M), Ok (drX n prs (ps.map (·.g)) v wm rl wl acc F m) →
    ∃ (Fn:Nat→Nat) (Mn:Nat→M) (Rn:Nat→Nat),Fn 0=F∧Mn 0=m∧(∀ i p,ps[i]?=some p→DSt c ly ops p (Fn i) (Mn i) (Rn i) (Fn (i+1)) (Mn (i+1))) ∧
      drX n prs (ps.map (·.g)) v wm rl wl acc F m=drN n prs v wm rl wl ((logs Mn ps.length).reverse++acc) (Fn ps.length) (Mn ps.length)
  | [],_,acc,F,m,hok=>⟨fun _=>F,fun _=>m,fun _=>0,rfl,rfl,fun i p h=>by simp at h,by simp [logs];rfl⟩
  | p :: ps,h,acc,F,m,hok=>by
    have e0:drX n prs ((p :: ps).map (·.g)) v wm rl wl acc F m=p.g v F (relog m) (fun F' m'=>drX n prs (ps.map (·.g)) v wm rl wl (lgOf (relog m) m' :: acc) F' m'):=drC_run _ _ _ _ _ _ _ _ _
    rw [e0] at hok ⊢
    obtain ⟨r,F1,m1,e1,k1,k2,k3,k4,k5⟩:=h p (by simp) F (relog m) _ hok
    rw [e1] at hok ⊢
    obtain ⟨Fn,Mn,Rn,g1,g2,g3,g4⟩:=drX_run ps (fun q hq=>h q (by simp [hq])) (lgOf (relog m) m1 :: acc) F1 m1 hok
    refine ⟨fun i=>match i with | 0=>F | i+1=>Fn i,fun i=>match i with | 0=>m | i+1=>Mn i,fun i=>match i with | 0=>r | i+1=>Rn i,rfl,rfl,fun i q hq=>?_,?_⟩
    · cases i with
      | zero =>
        cases hq
        show DSt c ly ops p F m r (Fn 0) (Mn 0)
        rw [g1,g2]
        exact ⟨k1,k2,k3,k4,k5⟩
      | succ i=>exact g3 i q (by simpa using hq)
    · rw [g4]
      congr 1
      simp only [logs,List.length_cons]
      rw [List.range_succ_eq_map,List.map_cons,List.map_map,List.reverse_cons,List.append_assoc]
      congr 1
      show _=[lgOf (relog m) (Mn 0)]++acc
      rw [g2];rfl
theorem nthL_eq (l:List Lg) (i:Nat):nthL l i=(l[i]?).getD ⟨[],[],[]⟩:=by
 induction l generalizing i with
 | nil=>rfl
 | cons x l ih =>
   cases i with
   | zero=>rfl
   | succ i =>
     show nthL l i=_
     rw [ih];rfl
theorem nthL_logs {Mn:Nat→M} {n i:Nat} (hi:i<n):nthL ((logs Mn n).reverse++[]) (Nat.sub (n - 1) i)=lgOf (relog (Mn i)) (Mn (i+1)):=by
 rw [nthL_eq,List.append_nil,List.getElem?_reverse (by simp [logs];show n - 1 - i<n;omega)]
 have:(logs Mn n).length - 1 - (n - 1).sub i=i:=by
   show (logs Mn n).length - 1 - (n - 1 - i)=i
   simp [logs];omega
 rw [this]
 unfold logs
 rw [List.getElem?_map,List.getElem?_range hi];rfl
theorem pairsOk_of {l:List Lg} {n:Nat}:∀ {prs:List (Nat × Nat)},pairsOk l n prs=true→∀ p∈prs,pairOk (nthL l (Nat.sub n p.1)) (nthL l (Nat.sub n p.2))=true
 | [],_,p,hp=>by simp at hp
 | q :: prs,h,p,hp=>by
   have h:Bool.rec (motive:=fun _=>Bool) false (pairsOk l n prs) (pairOk (nthL l (Nat.sub n q.1)) (nthL l (Nat.sub n q.2)))=true:=h
   cases hq:pairOk (nthL l (Nat.sub n q.1)) (nthL l (Nat.sub n q.2)) with
   | false=>rw [hq] at h;cases h
   | true =>
     rw [hq] at h
     rcases List.mem_cons.1 hp with rfl | hp
     · exact hq
     · exact pairsOk_of h p hp
theorem apart1_of {x y a:Nat} (h:apart1 x y=true) (hx:eA x≤a∧a<eA x+eN x) (hy:eA y≤a∧a<eA y+eN y):False:=by
 have h:bOr (Nat.ble (eA x+eN x) (eA y)) (Nat.ble (eA y+eN y) (eA x))=true:=h
 rw [bOr_eq,Bool.or_eq_true,ble_iff,ble_iff] at h
 omega
theorem apartL_of {x a:Nat}:∀ {l:List Nat},apartL x l=true→(eA x≤a∧a<eA x+eN x)→¬ Ents l a
 | [],_,_=>fun ⟨e,he,_⟩=>by simp at he
 | y :: l,h,hx=>by
   have h:Bool.rec (motive:=fun _=>Bool) false (apartL x l) (apart1 x y)=true:=h
   cases hy:apart1 x y with
   | false=>rw [hy] at h;cases h
   | true =>
     rw [hy] at h
     rintro ⟨e,he,he2⟩
     rcases List.mem_cons.1 he with rfl | he
     · exact apart1_of hy hx he2
     · exact apartL_of h hx ⟨e,he,he2⟩
theorem apartLL_of {a:Nat} {r:List Nat}:∀ {l:List Nat},apartLL l r=true→Ents l a→¬ Ents r a
 | [],_,⟨e,he,_⟩=>by simp at he
 | x :: l,h,⟨e,he,he2⟩=>by
   have h:Bool.rec (motive:=fun _=>Bool) false (apartLL l r) (apartL x r)=true:=h
   cases hx:apartL x r with
   | false=>rw [hx] at h;cases h
   | true =>
     rw [hx] at h
     rcases List.mem_cons.1 he with rfl | he
     · exact apartL_of hx he2
     · exact apartLL_of h ⟨e,he,he2⟩
theorem ents_nw1 {base a b x:Nat} {l:List Nat} (hb:base+b<2 ^ 48) (h:(base+a≤x∧x<base+b)∨Ents l x):Ents (nw1 base a b l) x:=by
 have e:nw1 base a b l=Bool.rec (motive:=fun _=>List Nat) (ent (base+a) (b - a) :: l) l (Nat.ble b a):=rfl
 rw [e]
 by_cases hle:b≤a
 · rw [ble_iff.2 hle]
   exact h.resolve_left (by omega)
 · rw [ble_ff hle]
   rcases h with h | ⟨e,he,he2⟩
   · refine ⟨_,List.mem_cons_self ..,?_⟩
     rw [eA_ent (by omega),eN_ent (by omega)];omega
   · exact ⟨e,List.mem_cons_of_mem _ he,he2⟩
theorem ents_nwL {p q:M} {x:Nat} (hL:Lim q) (h:News p q x) (hx:x<rB):Ents (nwL p q) x:=by
 have h1:=hL.brk;have h2:=hL.nm;have h3:=hL.nl
 have hr:=rB_gt
 unfold mB lB rB at *
 unfold News at h
 unfold mB lB rB at h
 refine ents_nw1 (by omega) ?_
 rcases h with h | h | h | h
 · exact .inl (by omega)
 · exact .inr (ents_nw1 (by omega) (.inl (by omega)))
 · exact .inr (ents_nw1 (by omega) (.inr (ents_nw1 (by omega) (.inl (by omega)))))
 · omega
theorem keepL_mem {wm brk e:Nat} {r:List Nat}:∀ {l:List Nat},(e∈r→e∈keepL wm brk l r)∧(e∈l→¬ (wm≤eA e∧eA e+eN e≤brk)→e∈keepL wm brk l r)
 | []=>⟨id,fun h=>by simp at h⟩
 | x :: l=>by
   have e0:keepL wm brk (x :: l) r=Bool.rec (motive:=fun _=>List Nat) (x :: keepL wm brk l r) (keepL wm brk l r) (bAnd (Nat.ble wm (eA x)) (Nat.ble (eA x+eN x) brk)):=rfl
   obtain ⟨h1,h2⟩:=keepL_mem (wm:=wm) (brk:=brk) (e:=e) (r:=r) (l:=l)
   rw [e0]
   cases hb:bAnd (Nat.ble wm (eA x)) (Nat.ble (eA x+eN x) brk) with
   | false =>
     refine ⟨fun h=>List.mem_cons_of_mem _ (h1 h),fun h hn=>?_⟩
     rcases List.mem_cons.1 h with rfl | h
     · exact List.mem_cons_self ..
     · exact List.mem_cons_of_mem _ (h2 h hn)
   | true =>
     rw [bAnd_eq,Bool.and_eq_true,ble_iff,ble_iff] at hb
     refine ⟨h1,fun h hn=>?_⟩
     rcases List.mem_cons.1 h with rfl | h
     · exact absurd hb hn
     · exact h2 h hn
theorem keepR_mem {wm brk e:Nat} {rl:List Nat}:∀ {acc:List Lg},(e∈rl→e∈keepR wm brk acc rl)∧∀ x∈acc,e∈x.rl→¬ (wm≤eA e∧eA e+eN e≤brk)→e∈keepR wm brk acc rl
 | []=>⟨id,fun x hx=>by simp at hx⟩
 | x :: acc=>by
   have e0:keepR wm brk (x :: acc) rl=keepL wm brk x.rl (keepR wm brk acc rl):=rfl
   obtain ⟨h1,h2⟩:=keepR_mem (wm:=wm) (brk:=brk) (e:=e) (rl:=rl) (acc:=acc)
   rw [e0]
   refine ⟨fun h=>keepL_mem.1 (h1 h),fun y hy he hn=>?_⟩
   rcases List.mem_cons.1 hy with rfl | hy
   · exact keepL_mem.2 he hn
   · exact keepL_mem.1 (h2 y hy he hn)
theorem keepW_mem {wm brk e:Nat} {wl:List Nat}:∀ {acc:List Lg},(e∈wl→e∈keepW wm brk acc wl)∧∀ x∈acc,e∈x.wl→¬ (wm≤eA e∧eA e+eN e≤brk)→e∈keepW wm brk acc wl
 | []=>⟨id,fun x hx=>by simp at hx⟩
 | x :: acc=>by
   have e0:keepW wm brk (x :: acc) wl=keepL wm brk x.wl (keepW wm brk acc wl):=rfl
   obtain ⟨h1,h2⟩:=keepW_mem (wm:=wm) (brk:=brk) (e:=e) (wl:=wl) (acc:=acc)
   rw [e0]
   refine ⟨fun h=>keepL_mem.1 (h1 h),fun y hy he hn=>?_⟩
   rcases List.mem_cons.1 hy with rfl | hy
   · exact keepL_mem.2 he hn
   · exact keepL_mem.1 (h2 y hy he hn)
noncomputable def endG (wm brk:Nat) (rl wl:List Nat) (acc:List Lg):Lo:=if wm=0 then ⟨0,rl,wl⟩ else ⟨wm,keepR wm brk acc rl,keepW wm brk acc wl⟩
theorem drE_run (wm:Nat) (rl wl:List Nat) (acc:List Lg) (F:Nat) (m:M):drE wm rl wl acc F m=.ok .nrm F (setG m (endG wm m.brk rl wl acc)):=by
 cases wm with
 | zero=>rfl
 | succ k =>
   have e:drE (k+1) rl wl acc F m=listK (drE1 (k+1) wl acc F m) (keepR (k+1) m.brk acc rl):=rfl
   rw [e,listK_eq]
   show listK _ _=_
   rw [listK_eq]
   unfold endG
   rw [if_neg (by omega)];rfl
end Go.Proofs.YtceaohiahajolaaGreatDoor.VM
namespace Go.Proofs.YtceaohiahajolaaGreatDoor.VM
open Go Go.RowKit
variable {c:Cx}
def depsOf (ops:Array Oper) (i:Nat):List Nat:=match ops[i]? with | some o=>(o.after.toList.filter (Region.binds .any ·)).map (·.on) | none=>[]
section
variable {ops:Array Oper}
theorem ready_spec {listed:Array Bool} {i:Nat} (hi:i∈Region.ready .any ops listed):i<ops.size∧listed.getD i true=false∧∀ j∈depsOf ops i,listed.getD j false=true:=by
 simp only [Region.ready,List.mem_filter,List.mem_range,Bool.and_eq_true] at hi
 obtain ⟨h1,h2,h3⟩:=hi
 refine ⟨h1,by simpa using h2,fun j hj=>?_⟩
 simp only [Array.getElem?_eq_getElem h1,Option.map_some,Option.getD_some,Array.all_eq_true] at h3
 simp only [depsOf,Array.getElem?_eq_getElem h1,List.mem_map,List.mem_filter] at hj
 obtain ⟨e,⟨he1,he2⟩,he3⟩:=hj
 obtain ⟨k,hk,hke⟩:=Array.getElem_of_mem (Array.mem_toList_iff.1 he1)
 have:=h3 k hk
 rw [hke,he2,he3] at this
 simpa using this
theorem ready_mk {listed:Array Bool} {i:Nat} (h1:i<ops.size) (h2:listed.getD i true=false) (h3:∀ j∈depsOf ops i,listed.getD j false=true):i∈Region.ready .any ops listed:=by
 simp only [Region.ready,List.mem_filter,List.mem_range,Bool.and_eq_true]
 refine ⟨h1,by simpa using h2,?_⟩
 simp only [Array.getElem?_eq_getElem h1,Option.map_some,Option.getD_some,Array.all_eq_true]
 intro k hk
 cases hb:Region.binds .any (ops[i].after[k]) with
 | false=>rfl
 | true =>
   simp only [Bool.not_true,Bool.false_or]
   refine h3 _ ?_
   simp only [depsOf,Array.getElem?_eq_getElem h1,List.mem_map,List.mem_filter]
   exact ⟨_,⟨by simp,hb⟩,rfl⟩
theorem getD_tf {listed:Array Bool} {i:Nat} (h:i<listed.size):listed.getD i true=listed.getD i false:=by
 simp [Array.getD_eq_getD_getElem?,h]
theorem getD_st {listed:Array Bool} {i j:Nat} {x:Bool} (h:i≠j):(listed.setIfInBounds i true).getD j x=listed.getD j x:=by
 simp only [Array.getD_eq_getD_getElem?,Array.getElem?_setIfInBounds,h,if_false]
theorem getD_ss {listed:Array Bool} {i:Nat} {x:Bool} (h:i<listed.size):(listed.setIfInBounds i true).getD i x=true:=by
 simp [Array.getD_eq_getD_getElem?,h]
def ddm (x:Nat):List Nat→Bool | []=>false | y :: l=>match Nat.beq y x with | true=>true | false=>ddm x l
def dd:List Nat→List Nat
 | []=>[] | x :: l=>(fun r=>match ddm x r with | true=>r | false=>x :: r) (dd l)
theorem ddm_iff {x:Nat}:∀ {l:List Nat},ddm x l=true→x∈l
 | [],h=>by cases h
 | y :: l,h=>by
   have h:(match Nat.beq y x with | true=>true | false=>ddm x l)=true:=h
   split at h
   · rename_i hb
     rw [Nat.eq_of_beq_eq_true hb];exact List.mem_cons_self ..
   · exact List.mem_cons_of_mem _ (ddm_iff h)
theorem mem_dd {x:Nat}:∀ {l:List Nat},x∈dd l↔x∈l
 | []=>Iff.rfl
 | y :: l=>by
   have e:dd (y :: l)=(match ddm y (dd l) with | true=>dd l | false=>y :: dd l):=rfl
   rw [e]
   split
   · rename_i h
     rw [mem_dd,List.mem_cons]
     exact ⟨.inr,fun h'=>h'.elim (fun e=>by rw [e];exact mem_dd.1 (ddm_iff h)) id⟩
   · rw [List.mem_cons,List.mem_cons,mem_dd]
def befs (ops:Array Oper):Nat→List (List Nat)
 | 0=>[]
 | k+1=>let l:=befs ops k;l++[dd (depsOf ops k++(depsOf ops k).flatMap fun d=>l.getD d [])]
theorem befs_length (ops:Array Oper):∀ k,(befs ops k).length=k
 | 0=>rfl
 | k+1=>by simp [befs,befs_length ops k]
theorem befs_get (ops:Array Oper):∀ (k i:Nat),i<k→(befs ops k).getD i []=dd (depsOf ops i++(depsOf ops i).flatMap fun d=>(befs ops i).getD d [])
 | k+1,i,hi=>by
   simp only [befs,List.getD_eq_getElem?_getD]
   by_cases h:i=k
   · subst h
     rw [List.getElem?_append_right (by rw [befs_length];omega),befs_length]
     simp
   · rw [List.getElem?_append_left (by rw [befs_length];omega)]
     have:=befs_get ops k i (by omega)
     rw [List.getD_eq_getElem?_getD] at this
     rw [this]
     simp
theorem bef_closed {D : Nat → Bool} {N : Nat} (hd : ∀ i, i < N → D i = true → ∀ d ∈ depsOf ops i, D d = true) (hlt : ∀ i, i < N → ∀ d ∈ depsOf ops i, d < i) :
    ∀ (i:Nat),i<N→(∀ d∈depsOf ops i,D d=true)→∀ j∈(befs ops N).getD i [],D j=true:=by
  intro i
  induction i using Nat.strongRecOn with
  | _ i ih =>
    intro hi hD j hj
    rw [befs_get ops N i hi,mem_dd] at hj
    rcases List.mem_append.1 hj with hj | hj
    · exact hD j hj
    · obtain ⟨d,hdm,hj⟩:=List.mem_flatMap.1 hj
      have hdi:=hlt i hi d hdm
      have e:(befs ops i).getD d []=(befs ops N).getD d []:=by rw [befs_get ops i d hdi,befs_get ops N d (by omega)]
      rw [e] at hj
      exact ih d hdi (by omega) (hd d (by omega) (hD d hdm)) j hj
end
theorem wpIn_extract {F:Fence} (hd:F.depth=none) {P:Program} {o:Oper} {a:Act} {w:World} {G:Prop} (h:o.wpIn F 0 P a w (fun _ _=>G) (fun _ _ _=>G)):G:=by
 obtain ⟨_,h⟩:=h
 have hroom:∀ n,F.room n:=fun n d hd'=>by rw [hd] at hd';cases hd'
 generalize (o.semAt F.round a.eval).run P w=r at h
 cases r with
 | ok x w' =>
   cases x <;> simp only [Oper.uponIn] at h
   case value=>exact h
   case skip=>exact h
   case defer=>exact h
   case enter f args =>
     obtain ⟨e,w'',fr,hR,_⟩:=h.2.2 [] (hroom _)
     cases e with
     | returned v=>exact hR
     | panicked ch=>exact hR
     | outgrown=>obtain ⟨_,_,hq⟩:=hR;exact hq
   case row row args =>
     obtain ⟨v,w'',hR,_⟩:=h.2 default [] (hroom _)
     exact hR
   case round l f tmps asg body =>
     obtain ⟨e,w'',hR,_⟩:=h.2.2 default [] (hroom _)
     cases e with
     | returned v=>exact hR
     | panicked ch=>exact hR
     | outgrown=>obtain ⟨_,_,hq⟩:=hR;exact hq
 | halt x w' =>
   cases x <;> simp only [Oper.uponIn] at h
   case panic=>exact h
theorem wpOp1_extract {zc:Fc c} {o:Oper} {ops:Array Oper} {a:Act} {w:World} {G:Prop} (h:wpOp1 c zc o ops a w (fun _ _=>G) (fun _ _ _=>G)):G:=by
 unfold wpOp1 at h
 split at h
 · exact wpIn_extract zc.hd.1 h
 · exact h.2
def dstN (ps:List Pc) (i:Nat):Option Nat:=(ps[i]?).bind (·.o.dst)
structure DrawT (ly:Ly) (K:Nat→Prop) (ops:Array Oper) (ps:List Pc) (prs:List (Nat × Nat)):Prop where
 len:ops.size=ps.length
 o:∀ (i:Nat) (p:Pc),ps[i]?=some p→ops[i]?=some p.o
 dst:∀ (i d:Nat),dstN ps i=some d→d<ly.nt∧64≤ly.off d∧(∀ t,(K t∨∃ j,dstN ps j=some t)→t≠d→ly.ap d t)∧∀ s,ly.df=some s→64≤s∧(s+128≤ly.off d∨ly.off d+ly.w d≤s)
 klo:∀ t,K t→64≤ly.off t
 dist:∀ (i j d:Nat),dstN ps i=some d→dstN ps j=some d→i=j
 tmp:∀ (i:Nat) (p:Pc),ps[i]?=some p→∀ t∈p.T,(K t∨∃ j,j<i∧dstN ps j=some t)∧∀ j,dstN ps j=some t→(j<i∧j∈(befs ops ops.size).getD i [])∨(K t∧i<j∧i∈(befs ops ops.size).getD j [])
 dep:∀ i,i<ops.size→∀ d∈depsOf ops i,d<i
 prs:∀ (i j:Nat) (p q:Pc),j<i→ps[j]?=some q→ps[i]?=some p→j∈(befs ops ops.size).getD i []∨q.pu=true∨p.pu=true∨(q.rd=true∧p.rd=true)∨(j,i)∈prs
section
variable {ly:Ly} {K:Nat→Prop} {ops:Array Oper} {ps:List Pc} {prs:List (Nat × Nat)} {Fn:Nat→Nat} {Mn:Nat→M} {Rn:Nat→Nat}
theorem mono_n (hs:∀ i p,ps[i]?=some p→DSt c ly ops p (Fn i) (Mn i) (Rn i) (Fn (i+1)) (Mn (i+1))):∀ {i j:Nat},i≤j→j≤ps.length→(Mn i).brk≤(Mn j).brk∧XtLe (Mn i).x (Mn j).x:=by
 intro i j hij
 induction j with
 | zero => intro _; obtain rfl : i = 0 := by omega
           exact ⟨Nat.le_refl _,XtLe.refl _⟩
 | succ j ih =>
   intro hj
   by_cases h:i=j+1
   · subst h;exact ⟨Nat.le_refl _,XtLe.refl _⟩
   · obtain ⟨h1,h2⟩:=ih (by omega) (by omega)
     have hd:=(hs j ps[j] (List.getElem?_eq_getElem (by omega))).st
     exact ⟨Nat.le_trans h1 hd.brk,h2.trans hd.x⟩
def Dtot (Mn:Nat→M) (g:Lo) (a:Nat):Prop:=Cov g a∨((Mn 0).brk≤a∧a<mB)∨(mB+(Mn 0).x.nm≤a∧a<lB)∨lB+(Mn 0).x.nl≤a
theorem Rel.regs {lk:Lk} {X:Xs} {E B:Nat} {D A:Nat→Prop} {α:Al} {m:M} {w:World} (h:Rel lk X E B D A α m w) (g:Lo):Rel lk X E B D A α (setG m g) w :=
 ⟨h.x,h.cell,h.map,h.loop,h.dom,h.inj,h.lt,h.last,h.room,h.own,h.kd⟩
theorem Wf.regs {m:M} (h:Wf m) {g:Lo} (hg:g.wm≤m.brk):Wf (setG m g):=⟨h.cur,h.off,h.brk,h.zero,h.x,hg⟩
theorem relog_eq (m:M):relog m=setG m ⟨m.brk,[],[]⟩:=rfl
theorem cov_tot {wm:Nat} {rl wl:List Nat} {g:Lo} (hg:g=endG wm (Mn ps.length).brk rl wl ((logs Mn ps.length).reverse++[])) (hwm:wm≤(Mn 0).brk) (hm:∀ {i j:Nat},i≤j→j≤ps.length→(Mn i).brk≤(Mn j).brk∧XtLe (Mn i).x (Mn j).x) (hL:Lim (Mn ps.length)) {i:Nat} (hi:i<ps.length) (hst:MStep (relog (Mn i)) (Mn (i+1))) {a:Nat} (h:Cov (Mn (i+1)).g a):Dtot Mn g a:=by
 by_cases h0:wm=0
 · left;left;rw [hg];unfold endG;rw [if_pos h0]
 · have hgw:g.wm=wm:=by rw [hg];unfold endG;rw [if_neg h0]
   have hb:=hL.brk
   have hb2:=(hm (Nat.le_of_lt (Nat.lt_succ_self i)) (by omega:i+1≤ps.length)).1
   have hmem:lgOf (relog (Mn i)) (Mn (i+1))∈(logs Mn ps.length).reverse++[]:=by
     rw [List.append_nil,List.mem_reverse]
     unfold logs
     exact List.mem_map.2 ⟨i,List.mem_range.2 hi,rfl⟩
   have hmono:=(hm (Nat.zero_le i) (by omega)).1
   have key:∀ e,(e∈(Mn (i+1)).g.rl∨e∈(Mn (i+1)).g.wl)→eA e≤a∧a<eA e+eN e→Dtot Mn g a:=fun e he h1=>by
     by_cases hin:wm≤eA e∧eA e+eN e≤(Mn ps.length).brk
     · left;right;left;rw [hgw];omega
     · rcases he with he | he
       · left;right;right;left
         refine ⟨e,?_,h1⟩
         rw [hg];unfold endG;rw [if_neg h0]
         exact keepR_mem.2 _ hmem he hin
       · left;right;right;right
         refine ⟨e,?_,h1⟩
         rw [hg];unfold endG;rw [if_neg h0]
         exact keepW_mem.2 _ hmem he hin
   rcases h with h | h | ⟨e,he,h1⟩ | ⟨e,he,h1⟩
   · have h2:(Mn (i+1)).g.wm=(Mn i).brk:=hst.g.wm
     rw [h2] at h
     left;right;left;rw [hgw];omega
   · have h2:(Mn (i+1)).g.wm=(Mn i).brk:=hst.g.wm
     rw [h2] at h
     right;left;omega
   · exact key e (.inl he) h1
   · exact key e (.inr he) h1
theorem rel_tot {lk:Lk} {X:Xs} {E B:Nat} {A:Nat→Prop} {α:Al} {w:World} {g:Lo} (hw:Wf (Mn 0)) (h:Rel lk X E B (Cov g) A α (Mn 0) w):Rel lk X E B (Dtot Mn g) A α (Mn 0) w:=by
 have hr:=rB_gt
 have hnm:=hw.x.nm
 refine ⟨h.x,fun a hd hlt hz hne=>?_,fun i hi hd=>?_,fun i hi hd=>?_,h.dom,h.inj,h.lt,h.last,h.room,h.own,h.kd⟩
 · rcases hd with hd | hd | hd | hd
   · exact h.cell a hd hlt hz hne
   · exact absurd (hw.zero a hd.1 hz) hne
   · omega
   · omega
 · rcases hd with hd | hd | hd | hd
   · exact h.map i hi hd
   · omega
   · omega
   · omega
 · rcases hd with hd | hd | hd | hd
   · exact h.loop i hi hd
   · omega
   · omega
   · omega
theorem slot_keep (hT:DrawT ly K ops ps prs) {i:Nat} {p:Pc} (hp:ps[i]?=some p) {r F F':Nat} (hd:DstP ly p.o.dst r F F') {t:Nat} (ht:K t∨∃ j,dstN ps j=some t) (hne:dstN ps i≠some t):fld F' (ly.off t) (ly.w t)=fld F (ly.off t) (ly.w t):=by
 have hdn:dstN ps i=p.o.dst:=by unfold dstN;rw [hp];rfl
 cases hdd:p.o.dst with
 | none =>
   rw [hdd] at hd
   have hd:F'=F:=hd
   rw [hd]
 | some d =>
   rw [hdd] at hd
   have hd:PutF (ly.off d) (ly.w d) r F F':=hd
   have hid:dstN ps i=some d:=hdn.trans hdd
   obtain ⟨_,_,h3,_⟩:=hT.dst i d hid
   have hlo:64≤ly.off t:=by
     rcases ht with ht | ⟨j,hj⟩
     · exact hT.klo t ht
     · exact (hT.dst j t hj).2.1
   refine hd.other _ _ hlo ?_
   have:=h3 t ht (fun e=>hne (by rw [e];exact hid))
   unfold Ly.ap at this
   omega
theorem all_sem (hT : DrawT ly K ops ps prs) (hs : ∀ i p, ps[i]? = some p → DSt c ly ops p (Fn i) (Mn i) (Rn i) (Fn (i + 1)) (Mn (i + 1))) {wm : Nat} {rl wl : List Nat} {g : Lo} (hg : g = endG wm (Mn ps.length).brk rl wl ((logs Mn ps.length).reverse ++ [])) (hwm : wm ≤ (Mn 0).brk)
    (zc:Fc c) {X:Xs} {A:Nat→Prop} {α:Al} {a:Act} {w:World} (hX:XLe (Mn ps.length).x X) (hL:Lim (Mn ps.length)) (hc:c.cx X) (hw:Wf (Mn 0)) (hsz:a.tmps.size=ly.nt) (hsl:∀ t,K t→SR X A α (ly.kd t) (fld (Fn 0) (ly.off t) (ly.w t)) (a.tmps.getD t undef)) (hr:Rel c.lk X 1048576 c.B (Cov g) A α (Mn 0) w)
    (hn:∀ i,i<ps.length→∀ x,News (relog (Mn i)) (Mn (i+1)) x→¬ A x) (hB:c.B≤w.heap.size):∀ i,i<ps.length→MSem (relog (Mn i)) (Mn (i+1)):=by
  have hm:=fun {i j:Nat}=>mono_n (c:=c) hs (i:=i) (j:=j)
  have hlim:∀ i,i≤ps.length→Lim (Mn i):=fun i hi=>⟨Nat.le_trans (hm hi (Nat.le_refl _)).1 hL.brk,Nat.le_trans (hm hi (Nat.le_refl _)).2.nm hL.nm,Nat.le_trans (hm hi (Nat.le_refl _)).2.nl hL.nl⟩
  have key : ∀ (d k : Nat), d + k = ps.length → ∀ (A1 : Nat → Prop) (α1 : Al) (a1 : Act) (w1 : World), Wf (Mn k) → a1.tmps.size = ly.nt → (∀ t, (K t ∨ ∃ j, j < k ∧ dstN ps j = some t) → SR X A1 α1 (ly.kd t) (fld (Fn k) (ly.off t) (ly.w t)) (a1.tmps.getD t undef)) → Rel c.lk X 1048576 c.B (Dtot Mn g) A1 α1 (Mn k) w1 →
      (∀ x,A1 x↔A x∨∃ j,j<k∧News (relog (Mn j)) (Mn (j+1)) x)→c.B≤w1.heap.size→(∀ i,i<k→MSem (relog (Mn i)) (Mn (i+1)))→∀ i,i<ps.length→MSem (relog (Mn i)) (Mn (i+1)):=by
    intro d
    induction d with
    | zero=>intro k hk A1 α1 a1 w1 _ _ _ _ _ _ hall i hi;exact hall i (by omega)
    | succ d ih =>
      intro k hk A1 α1 a1 w1 hwk hsz1 hsl1 hr1 hA1 hB1 hall
      have hkl:k<ps.length:=by omega
      have hp:ps[k]?=some ps[k]:=List.getElem?_eq_getElem hkl
      have hd:=hs k _ hp
      have hwr:Wf (relog (Mn k)):=by rw [relog_eq];exact hwk.regs (Nat.le_refl _)
      have hnews:∀ x,News (relog (Mn k)) (Mn (k+1)) x→¬ A1 x:=fun x hx=>by
        rw [hA1]
        rintro (h | ⟨j,hj,h⟩)
        · exact hn k hkl x hx h
        · have h1:=hm (by omega:j+1≤k) (by omega)
          have h2:=hlim (k+1) (by omega)
          have h3:=(hs j ps[j] (List.getElem?_eq_getElem (by omega))).st
          have h4:=hd.st
          have hrr:=rB_gt
          unfold News at hx h
          have b1:=h1.1;have b2:=h1.2.nm;have b3:=h1.2.nl
          have b4:=h2.brk;have b5:=h2.nm;have b6:=h2.nl
          have b7:=h3.brk;have b8:=h3.x.nm;have b9:=h3.x.nl
          have d7:=h4.brk;have d8:=h4.x.nm;have d9:=h4.x.nl
          simp only [relog] at hx h b7 b8 b9 d7 d8 d9
          omega
      refine wpOp1_extract (c:=c) (zc:=zc) (o:=ps[k].o) (ops:=ops) (a:=a1) (w:=w1) ?_
      refine hd.sem zc X A1 α1 a1 w1 (hX.back (hm (by omega:k+1≤ps.length) (Nat.le_refl _)).2) (hlim _ (by omega)) hc hwr (fun t ht=>hsl1 t ((hT.tmp k _ hp t ht).1)) ((hr1.regs _).sub fun x hx=>cov_tot hg hwm hm hL hkl hd.st hx) hnews hB1 _ _ fun u A2 α2 w2 k1 k2 k3 k4=>?_
      refine ih (k+1) (by omega) A2 α2 (a1.put ps[k].o.dst u) w2 k1.wf ?_ ?_ (Rel.frame (hr1.regs _) k1 k4 k3) (fun x=>?_) (Nat.le_trans hB1 k4.size) fun i hi=>?_
      · cases hdd:ps[k].o.dst with
        | none=>exact hsz1
        | some d=>show (a1.tmps.setIfInBounds d u).size=_;rw [Array.size_setIfInBounds];exact hsz1
      · intro t ht
        have hdn:dstN ps k=ps[k].o.dst:=by unfold dstN;rw [hp];rfl
        by_cases hdt:dstN ps k=some t
        · have hdd:ps[k].o.dst=some t:=hdn.symm.trans hdt
          have hdp:=hd.dp
          rw [hdd] at hdp ⊢
          have hdp:PutF (ly.off t) (ly.w t) (Rn k) (Fn k) (Fn (k+1)):=hdp
          have hlt:=(hT.dst k t hdt).1
          rw [hdp.same]
          show SR X A2 α2 (ly.kd t) (Rn k) ((a1.tmps.setIfInBounds t u).getD t undef)
          rw [getD_setIf (by rw [hsz1];exact hlt),if_pos rfl]
          exact k2 t hdd
        · have ht' : K t ∨ ∃ j, j < k ∧ dstN ps j = some t := ht.imp id fun ⟨j, hj, e⟩ => ⟨j, by
            by_cases hjk:j=k
            · subst hjk;exact absurd e hdt
            · omega,e⟩
          rw [slot_keep hT hp hd.dp (ht.imp id fun ⟨j,_,e⟩=>⟨j,e⟩) hdt]
          have hsame:(a1.put ps[k].o.dst u).tmps.getD t undef=a1.tmps.getD t undef:=by
            cases hdd:ps[k].o.dst with
            | none=>rfl
            | some d =>
              show (a1.tmps.setIfInBounds d u).getD t undef=_
              rw [getD_setIf (by rw [hsz1];exact (hT.dst k d (hdn.trans hdd)).1),if_neg (fun e=>hdt (by rw [e];exact hdn.trans hdd))]
          rw [hsame]
          exact (hsl1 t ht').mono k4.ast
      · rw [k4.all,hA1]
        constructor
        · rintro ((h | ⟨j,hj,h⟩) | h)
          · exact .inl h
          · exact .inr ⟨j,by omega,h⟩
          · exact .inr ⟨k,by omega,h⟩
        · rintro (h | ⟨j,hj,h⟩)
          · exact .inl (.inl h)
          · by_cases hjk:j=k
            · subst hjk;exact .inr h
            · exact .inl (.inr ⟨j,by omega,h⟩)
      · by_cases hik:i=k
        · subst hik;exact k1
        · exact hall i (by omega)
  exact key ps.length 0 (by omega) A α a w hw hsz (fun t ht=>hsl t (ht.resolve_right fun ⟨j,hj,_⟩=>by omega)) (rel_tot hw hr) (fun x=>⟨.inl,fun h=>h.resolve_right fun ⟨j,hj,_⟩=>by omega⟩) hB fun i hi=>by omega
end
end Go.Proofs.YtceaohiahajolaaGreatDoor.VM
namespace Go.Proofs.YtceaohiahajolaaGreatDoor.VM
open Go Go.RowKit
variable {c:Cx}
section
variable {ly:Ly} {K:Nat→Prop} {ops:Array Oper} {ps:List Pc} {prs:List (Nat × Nat)} {Fn:Nat→Nat} {Mn:Nat→M} {Rn:Nat→Nat}
def Wn (Mn:Nat→M) (i a:Nat):Prop:=CovC (Mn (i+1)).g (Mn (i+1)).brk a
def PairF (n:Nat) (prs:List (Nat × Nat)) (Mn:Nat→M):Prop:=∀ q∈prs,q.1<n→q.2<n→pairOk (lgOf (relog (Mn q.1)) (Mn (q.1+1))) (lgOf (relog (Mn q.2)) (Mn (q.2+1)))=true
theorem pairOk_of {x y:Lg} (h:pairOk x y=true):apartLL x.wl y.rl=true∧apartLL x.wl y.wl=true∧apartLL y.wl x.rl=true∧apartLL x.nw y.rl=true∧apartLL x.nw y.wl=true∧apartLL y.nw x.rl=true∧apartLL y.nw x.wl=true:=by
 unfold pairOk at h
 simp only [bAnd_eq,Bool.and_eq_true] at h
 exact h
theorem conf (hT : DrawT ly K ops ps prs) (hs : ∀ i p, ps[i]? = some p → DSt c ly ops p (Fn i) (Mn i) (Rn i) (Fn (i + 1)) (Mn (i + 1))) (hL : Lim (Mn ps.length)) (h0 : 0 < (Mn 0).brk) (hp : PairF ps.length prs Mn) {i j a : Nat} (hij : i < j) (hj : j < ps.length)
    (h:(Wn Mn i a∧(Wn Mn j a∨Ents (Mn (j+1)).g.rl a))∨(Ents (Mn (i+1)).g.rl a∧Wn Mn j a)):i∈(befs ops ops.size).getD j []:=by
  have hm:=fun {i j:Nat}=>mono_n (c:=c) hs (i:=i) (j:=j)
  have hi:i<ps.length:=by omega
  have di:=hs i _ (List.getElem?_eq_getElem hi)
  have dj:=hs j _ (List.getElem?_eq_getElem hj)
  have hbi:0<(Mn i).brk:=Nat.lt_of_lt_of_le h0 (hm (Nat.zero_le i) (by omega)).1
  have hbj:0<(Mn j).brk:=Nat.lt_of_lt_of_le h0 (hm (Nat.zero_le j) (by omega)).1
  have hwi:(Mn (i+1)).g.wm=(Mn i).brk:=di.st.g.wm
  have hwj:(Mn (j+1)).g.wm=(Mn j).brk:=dj.st.g.wm
  have hpu:∀ {k:Nat} {p:Pc} {r F F':Nat},0<(Mn k).brk→DSt c ly ops p F (Mn k) r F' (Mn (k+1))→p.pu=true→¬ Wn Mn k a∧¬ Ents (Mn (k+1)).g.rl a:=fun {k p r F F'} hb hd hpu=>by
    have e:=hd.pu hpu
    unfold Wn
    rw [e]
    refine ⟨?_,fun ⟨e,he,_⟩=>by cases he⟩
    rintro (h | h | ⟨e,he,_⟩)
    · have h:(Mn k).brk=0:=h
      omega
    · have h:(Mn k).brk≤a∧a<(Mn k).brk:=h
      omega
    · cases he
  rcases hT.prs j i _ _ hij (List.getElem?_eq_getElem hi) (List.getElem?_eq_getElem hj) with hb | hb | hb | hb | hb
  · exact hb
  · obtain ⟨h1,h2⟩:=hpu hbi di hb
    exact absurd h fun h=>h.elim (fun h=>h1 h.1) fun h=>h2 h.1
  · obtain ⟨h1,h2⟩:=hpu hbj dj hb
    exact absurd h fun h=>h.elim (fun h=>h.2.elim h1 h2) fun h=>h1 h.2
  · have hrd : ∀ {k : Nat} {p : Pc} {r F F' : Nat}, 0 < (Mn k).brk → DSt c ly ops p F (Mn k) r F' (Mn (k + 1)) → p.rd = true → ¬ Wn Mn k a := fun {k p r F F'} hb hd hrd => by
      obtain ⟨hs,hw⟩:=hd.rd hrd
      have h1:(Mn (k+1)).g.wm=(Mn k).brk:=hs.g.wm
      have h2:(Mn (k+1)).brk=(Mn k).brk:=hs.brk
      rintro (h | h | ⟨e,he,_⟩)
      · omega
      · omega
      · rw [hw] at he;cases he
    exact absurd h fun h=>h.elim (fun h=>hrd hbi di hb.1 h.1) fun h=>hrd hbj dj hb.2 h.2
  · exfalso
    obtain ⟨p1,p2,p3,p4,p5,p6,p7⟩:=pairOk_of (hp _ hb hi hj)
    have hLi:Lim (Mn (i+1)):=⟨Nat.le_trans (hm (by omega:i+1≤ps.length) (Nat.le_refl _)).1 hL.brk,Nat.le_trans (hm (by omega:i+1≤ps.length) (Nat.le_refl _)).2.nm hL.nm,Nat.le_trans (hm (by omega:i+1≤ps.length) (Nat.le_refl _)).2.nl hL.nl⟩
    have hLj:Lim (Mn (j+1)):=⟨Nat.le_trans (hm (by omega:j+1≤ps.length) (Nat.le_refl _)).1 hL.brk,Nat.le_trans (hm (by omega:j+1≤ps.length) (Nat.le_refl _)).2.nm hL.nm,Nat.le_trans (hm (by omega:j+1≤ps.length) (Nat.le_refl _)).2.nl hL.nl⟩
    have hmr:mB<rB:=rB_gt.1
    have spl:∀ {k:Nat},0<(Mn k).brk→(Mn (k+1)).g.wm=(Mn k).brk→Lim (Mn (k+1))→Wn Mn k a→(((Mn k).brk≤a∧a<(Mn (k+1)).brk)∧Ents (nwL (relog (Mn k)) (Mn (k+1))) a)∨Ents (Mn (k+1)).g.wl a:=fun {k} hb hw hl h=>by
      rcases h with h | h | h
      · omega
      · rw [hw] at h
        exact .inl ⟨h,ents_nwL hl (.inl h) (Nat.lt_of_lt_of_le h.2 (Nat.le_trans hl.brk (Nat.le_of_lt hmr)))⟩
      · exact .inr h
    rcases h with ⟨h1,h2 | h2⟩ | ⟨h1,h2⟩
    · rcases spl hbi hwi hLi h1 with ⟨g1,g2⟩ | g2 <;> rcases spl hbj hwj hLj h2 with ⟨k1,k2⟩ | k2
      · have:=(hm (by omega:i+1≤j) (by omega)).1
        omega
      · exact apartLL_of p5 g2 k2
      · exact apartLL_of p7 k2 g2
      · exact apartLL_of p2 g2 k2
    · rcases spl hbi hwi hLi h1 with ⟨g1,g2⟩ | g2
      · exact apartLL_of p4 g2 h2
      · exact apartLL_of p1 g2 h2
    · rcases spl hbj hwj hLj h2 with ⟨k1,k2⟩ | k2
      · exact apartLL_of p6 k2 h1
      · exact apartLL_of p3 k2 h1
theorem content_step {n i : Nat} {W : Nat → Prop} {S : Nat → Prop} (hi : i < n) (C C' : Nat → Prop) (hconst : ∀ j, j < n → ¬ W j → (C' (j + 1) ↔ C' j)) (hafter : W i → C' (i + 1)) (hkeep : ¬ W i → ∀ k, k ≤ n → C k → C' k)
    (hord:W i→∀ j,i<j→j<n→W j→¬ S j) (hinv:∀ k,k≤n→(∀ j,j<n→W j→(S j↔j<k))→C k):∀ k,k≤n→(∀ j,j<n→W j→((S j∨j=i)↔j<k))→C' k:=by
  intro k hk h
  by_cases hW:W i
  · have hik:i<k:=(h i hi hW).1 (.inr rfl)
    have:∀ d,i+1+d≤k→(C' (i+1+d)↔C' (i+1)):=fun d=>by
      induction d with
      | zero=>intro _;exact Iff.rfl
      | succ d ih =>
        intro hd
        refine (hconst (i+1+d) (by omega) fun hw=>?_).trans (ih (by omega))
        have:=(h (i+1+d) (by omega) hw).2 (by omega)
        rcases this with h | h
        · exact hord hW (i+1+d) (by omega) (by omega) hw h
        · omega
    have e:=this (k - (i+1)) (by omega)
    rw [show i+1+(k - (i+1))=k by omega] at e
    exact e.2 (hafter hW)
  · refine hkeep hW k hk (hinv k hk fun j hj hw=>?_)
    have hji:j≠i:=fun e=>hW (e ▸ hw)
    exact ⟨fun h'=>(h j hj hw).1 (.inl h'),fun h'=>((h j hj hw).2 h').resolve_right hji⟩
structure Glo (c:Cx) (A:Nat→Prop) (α:Al) (w:World):Prop where
 dom:∀ a z,α a=some z→A a
 inj:∀ a a' b o l l',α a=some (b,o,l)→α a'=some (b,o,l')→a=a'
 lt:∀ a b o l,α a=some (b,o,l)→b<w.heap.size
 last:∀ a b o r,α a=some (b,o,r+1)→∀ a' o' l',α a'=some (b,o',l')→o'≤o
 room:∀ a b o r,α a=some (b,o,r+1)→∀ j,j<r→(w.cell? ⟨b,o+1+j,none⟩).isSome=true∧fz w ⟨b,o+1+j,none⟩=false
 own:∀ a b o l,α a=some (b,o,l)→1048576≤a→c.B≤b
 kd:∀ a b o l,α a=some (b,o,l)→(a<mB→isC w b)∧(mB≤a→o=0∧l=0∧¬ isC w b)
theorem Rel.glo {X:Xs} {D A:Nat→Prop} {α:Al} {m:M} {w:World} (h:Rel c.lk X 1048576 c.B D A α m w):Glo c A α w:=⟨h.dom,h.inj,h.lt,h.last,h.room,h.own,h.kd⟩
def CellC (Mn:Nat→M) (X:Xs) (A:Nat→Prop) (α:Al) (w:World) (a k:Nat):Prop:=memC (Mn k) a≠0→CR X A α w a (memC (Mn k) a)
def MapC (Mn:Nat→M) (X:Xs) (A:Nat→Prop) (α:Al) (w:World) (i k:Nat):Prop:=i<(Mn k).x.nm→MpR X A α w i (mpS (Mn k).x i)
def LoopC (c:Cx) (Mn:Nat→M) (X:Xs) (A:Nat→Prop) (α:Al) (w:World) (i k:Nat):Prop:=i<(Mn k).x.nl→LpR c.lk X A α w i (lpS (Mn k).x i)
structure InvD (c:Cx) (ly:Ly) (K:Nat→Prop) (ps:List Pc) (Fn:Nat→Nat) (Mn:Nat→M) (Rn:Nat→Nat) (g:Lo) (X:Xs) (A:Nat→Prop) (α:Al) (w:World) (S:Nat→Prop) (A1:Nat→Prop) (α1:Al) (a1:Act) (w1:World):Prop where
 size:a1.tmps.size=ly.nt
 s1:∀ t,K t→(∀ i,i<ps.length→S i→dstN ps i≠some t)→SR X A1 α1 (ly.kd t) (fld (Fn 0) (ly.off t) (ly.w t)) (a1.tmps.getD t undef)
 s2:∀ i d,i<ps.length→S i→dstN ps i=some d→SR X A1 α1 (ly.kd d) (Rn i) (a1.tmps.getD d undef)
 df:DfR ly.own ly.nm X A1 α1 w1 (Fn 0) a1.defers ly.df
 al:∀ x,A1 x↔A x∨∃ j,j<ps.length∧S j∧News (relog (Mn j)) (Mn (j+1)) x
 glo:Glo c A1 α1 w1
 cell:∀ a,Dtot Mn g a→a<mB→0<a % 1048576→∀ k,k≤ps.length→(∀ j,j<ps.length→Wn Mn j a→(S j↔j<k))→CellC Mn X A1 α1 w1 a k
 map:∀ i,Dtot Mn g (mB+i)→∀ k,k≤ps.length→(∀ j,j<ps.length→Wn Mn j (mB+i)→(S j↔j<k))→MapC Mn X A1 α1 w1 i k
 loop:∀ i,Dtot Mn g (lB+i)→∀ k,k≤ps.length→(∀ j,j<ps.length→Wn Mn j (lB+i)→(S j↔j<k))→LoopC c Mn X A1 α1 w1 i k
 stp:Stp c.B (fun x=>∃ j,j<ps.length∧S j∧Wn Mn j x) (fun x=>∃ j,j<ps.length∧S j∧News (relog (Mn j)) (Mn (j+1)) x) A α w A1 α1 w1
theorem InvD.congr {g:Lo} {X:Xs} {A:Nat→Prop} {α:Al} {w:World} {S S':Nat→Prop} {A1:Nat→Prop} {α1:Al} {a1:Act} {w1:World} (h:InvD c ly K ps Fn Mn Rn g X A α w S A1 α1 a1 w1) (e:∀ i,i<ps.length→(S i↔S' i)):InvD c ly K ps Fn Mn Rn g X A α w S' A1 α1 a1 w1:=by
 refine ⟨h.size,fun t ht hn=>h.s1 t ht fun i hi hS=>hn i hi ((e i hi).1 hS),fun i d hi hS=>h.s2 i d hi ((e i hi).2 hS),h.df,fun x=>(h.al x).trans ?_,h.glo,fun a h1 h2 h3 k hk hj=>h.cell a h1 h2 h3 k hk fun j hj' hw=>(e j hj').trans (hj j hj' hw),fun i h1 k hk hj=>h.map i h1 k hk fun j hj' hw=>(e j hj').trans (hj j hj' hw),fun i h1 k hk hj=>h.loop i h1 k hk fun j hj' hw=>(e j hj').trans (hj j hj' hw),?_⟩
 · constructor
   · rintro (h | ⟨j,h1,h2,h3⟩)
     · exact .inl h
     · exact .inr ⟨j,h1,(e j h1).1 h2,h3⟩
   · rintro (h | ⟨j,h1,h2,h3⟩)
     · exact .inl h
     · exact .inr ⟨j,h1,(e j h1).2 h2,h3⟩
 · exact h.stp.weak (fun x ⟨j,h1,h2,h3⟩=>⟨j,h1,(e j h1).1 h2,h3⟩) fun x=>⟨fun ⟨j,h1,h2,h3⟩=>⟨j,h1,(e j h1).1 h2,h3⟩,fun ⟨j,h1,h2,h3⟩=>⟨j,h1,(e j h1).2 h2,h3⟩⟩
theorem mem_const {m m':M} (h:MSem (relog m) m') (hw:Wf m) {a:Nat} (h0:0<a % 1048576) (hn:¬ CovC m'.g m'.brk a) (hmB:a<rB):memC m' a=memC m a:=by
 by_cases hlt:a<m.brk
 · exact h.mem a h0 hlt hn
 · rw [hw.zero a (by omega) h0]
   by_cases hlt2:a<m'.brk
   · exact absurd (h.new a (.inl ⟨by show m.brk≤a;omega,hlt2⟩) hmB) hn
   · exact h.wf.zero a (by omega) h0
theorem map_const {m m':M} (hs:MStep (relog m) m') (h:MSem (relog m) m') {i:Nat} (hn:¬ CovC m'.g m'.brk (mB+i)):(i<m'.x.nm↔i<m.x.nm)∧(i<m.x.nm→mpS m'.x i=mpS m.x i):=by
 have:=rB_gt
 have:=h.wf.x.nm
 refine ⟨⟨fun hi=>Nat.lt_of_not_le fun hge=>?_,fun hi=>Nat.lt_of_lt_of_le hi hs.x.nm⟩,fun hi=>h.map i hi hn⟩
 refine hn (h.new _ (.inr (.inl ⟨?_,by omega⟩)) (by omega))
 show mB+m.x.nm≤_
 omega
theorem loop_const {m m':M} (hs:MStep (relog m) m') (h:MSem (relog m) m') {i:Nat} (hn:¬ CovC m'.g m'.brk (lB+i)):(i<m'.x.nl↔i<m.x.nl)∧(i<m.x.nl→lpS m'.x i=lpS m.x i):=by
 have:=rB_gt
 have:=h.wf.x.nl
 refine ⟨⟨fun hi=>Nat.lt_of_not_le fun hge=>?_,fun hi=>Nat.lt_of_lt_of_le hi hs.x.nl⟩,fun hi=>h.loop i hi hn⟩
 refine hn (h.new _ (.inr (.inr (.inl ⟨?_,by omega⟩))) (by omega))
 show lB+m.x.nl≤_
 omega
end
end Go.Proofs.YtceaohiahajolaaGreatDoor.VM
namespace Go.Proofs.YtceaohiahajolaaGreatDoor.VM
open Go Go.RowKit
variable {c:Cx}
section
variable {ly:Ly} {K:Nat→Prop} {ops:Array Oper} {ps:List Pc} {prs:List (Nat × Nat)} {Fn:Nat→Nat} {Mn:Nat→M} {Rn:Nat→Nat}
structure DE (c:Cx) (ly:Ly) (K:Nat→Prop) (ops:Array Oper) (ps:List Pc) (prs:List (Nat × Nat)) (Fn:Nat→Nat) (Mn:Nat→M) (Rn:Nat→Nat) (wm:Nat) (rl wl:List Nat) (g:Lo) (X:Xs) (A:Nat→Prop):Prop where
 hT:DrawT ly K ops ps prs
 hs:∀ (i:Nat) (p:Pc),ps[i]?=some p→DSt c ly ops p (Fn i) (Mn i) (Rn i) (Fn (i+1)) (Mn (i+1))
 hg:g=endG wm (Mn ps.length).brk rl wl ((logs Mn ps.length).reverse++[])
 hwm:wm≤(Mn 0).brk
 hp:PairF ps.length prs Mn
 hX:XLe (Mn ps.length).x X
 hL:Lim (Mn ps.length)
 hc:c.cx X
 hw:Wf (Mn 0)
 sem:∀ i,i<ps.length→MSem (relog (Mn i)) (Mn (i+1))
 hn:∀ i,i<ps.length→∀ x,News (relog (Mn i)) (Mn (i+1)) x→¬ A x
variable {wm:Nat} {rl wl:List Nat} {g:Lo} {X:Xs} {A:Nat→Prop}
section
variable (d:DE c ly K ops ps prs Fn Mn Rn wm rl wl g X A)
include d
theorem DE.hm {i j:Nat} (h:i≤j) (hj:j≤ps.length):(Mn i).brk≤(Mn j).brk∧XtLe (Mn i).x (Mn j).x:=mono_n d.hs h hj
theorem DE.lim {i:Nat} (hi:i≤ps.length):Lim (Mn i):=⟨Nat.le_trans (d.hm hi (Nat.le_refl _)).1 d.hL.brk,Nat.le_trans (d.hm hi (Nat.le_refl _)).2.nm d.hL.nm,Nat.le_trans (d.hm hi (Nat.le_refl _)).2.nl d.hL.nl⟩
theorem DE.wf:∀ {i:Nat},i≤ps.length→Wf (Mn i)
 | 0,_=>d.hw
 | i+1,hi=>(d.sem i (by omega)).wf
theorem DE.st {i:Nat} (hi:i<ps.length):DSt c ly ops ps[i] (Fn i) (Mn i) (Rn i) (Fn (i+1)) (Mn (i+1)):=d.hs i _ (List.getElem?_eq_getElem hi)
theorem DE.wmi {i:Nat} (hi:i<ps.length):(Mn (i+1)).g.wm=(Mn i).brk:=(d.st hi).st.g.wm
theorem DE.pos {i:Nat} (hi:i≤ps.length):0<(Mn i).brk:=Nat.pos_of_ne_zero fun e=>by have:=(d.wf hi).off;rw [e] at this;omega
theorem DE.conf {i j a:Nat} (hij:i<j) (hj:j<ps.length) (h:(Wn Mn i a∧(Wn Mn j a∨Ents (Mn (j+1)).g.rl a))∨(Ents (Mn (i+1)).g.rl a∧Wn Mn j a)):i∈(befs ops ops.size).getD j []:=VM.conf d.hT d.hs d.hL (d.pos (Nat.zero_le _)) d.hp hij hj h
theorem DE.newsAp {i j x:Nat} (hij:i<j) (hj:j<ps.length) (h1:News (relog (Mn i)) (Mn (i+1)) x) (h2:News (relog (Mn j)) (Mn (j+1)) x):False:=by
 have h1':=d.hm (by omega:i+1≤j) (by omega)
 have h2':=d.lim (by omega:j+1≤ps.length)
 have h3:=(d.st (by omega:i<ps.length)).st
 have h4:=(d.st hj).st
 have hrr:=rB_gt
 unfold News at h1 h2
 have b1:=h1'.1;have b2:=h1'.2.nm;have b3:=h1'.2.nl
 have b4:=h2'.brk;have b5:=h2'.nm;have b6:=h2'.nl
 have b7:=h3.brk;have b8:=h3.x.nm;have b9:=h3.x.nl
 have d7:=h4.brk;have d8:=h4.x.nm;have d9:=h4.x.nl
 simp only [relog] at h1 h2 b7 b8 b9 d7 d8 d9
 omega
theorem DE.newsTel {x:Nat} {k:Nat}:k≤ps.length→(News (Mn 0) (Mn k) x↔∃ j,j<k∧News (relog (Mn j)) (Mn (j+1)) x):=by
 induction k with
 | zero=>exact fun _=>⟨fun h=>absurd h (by unfold News;omega),fun ⟨j,hj,_⟩=>by omega⟩
 | succ k ih =>
   intro hk
   have ih:=ih (by omega)
   have h1:=d.hm (Nat.zero_le k) (by omega)
   have h3:=(d.st (by omega:k<ps.length)).st
   have e:News (Mn 0) (Mn (k+1)) x↔News (Mn 0) (Mn k) x∨News (relog (Mn k)) (Mn (k+1)) x:=by
     unfold News
     have b1:=h1.1;have b2:=h1.2.nm;have b3:=h1.2.nl
     have b7:=h3.brk;have b8:=h3.x.nm;have b9:=h3.x.nl
     simp only [relog] at b7 b8 b9 ⊢
     omega
   rw [e,ih]
   constructor
   · rintro (⟨j,h1,h2⟩ | h)
     · exact ⟨j,by omega,h2⟩
     · exact ⟨k,by omega,h⟩
   · rintro ⟨j,h1,h2⟩
     by_cases hjk:j=k
     · subst hjk;exact .inr h2
     · exact .inl ⟨j,by omega,h2⟩
theorem DE.wTot {j a:Nat} (hj:j<ps.length) (h:Wn Mn j a):CovC g (Mn ps.length).brk a:=by
 rw [d.hg]
 by_cases h0:wm=0
 · left;unfold endG;rw [if_pos h0]
 · have hw:(endG wm (Mn ps.length).brk rl wl ((logs Mn ps.length).reverse++[])).wm=wm:=by unfold endG;rw [if_neg h0]
   have h1:=(d.hm (Nat.zero_le j) (by omega)).1
   have h2:=(d.hm (by omega:j+1≤ps.length) (Nat.le_refl _)).1
   have hwm:=d.hwm
   rcases h with h | h | ⟨e,he,h⟩
   · rw [d.wmi hj] at h
     have:=d.pos (by omega:j≤ps.length)
     omega
   · rw [d.wmi hj] at h
     right;left;rw [hw];omega
   · by_cases hin:wm≤eA e∧eA e+eN e≤(Mn ps.length).brk
     · right;left;rw [hw];omega
     · right;right
       refine ⟨e,?_,h⟩
       unfold endG;rw [if_neg h0]
       exact keepW_mem.2 (lgOf (relog (Mn j)) (Mn (j+1))) (by
         rw [List.append_nil,List.mem_reverse]
         unfold logs
         exact List.mem_map.2 ⟨j,List.mem_range.2 hj,rfl⟩) he hin
theorem DE.memC {a:Nat} (h0:0<a % 1048576) (hr:a<rB) {j:Nat} (hj:j<ps.length) (hn:¬ Wn Mn j a):memC (Mn (j+1)) a=memC (Mn j) a:=mem_const (d.sem j hj) (d.wf (by omega)) h0 hn hr
theorem DE.cellC {A1:Nat→Prop} {α1:Al} {w1:World} {a:Nat} (h0:0<a % 1048576) (hr:a<rB) {j:Nat} (hj:j<ps.length) (hn:¬ Wn Mn j a):CellC Mn X A1 α1 w1 a (j+1)↔CellC Mn X A1 α1 w1 a j:=by
 unfold CellC
 rw [d.memC h0 hr hj hn]
theorem DE.mapC {A1:Nat→Prop} {α1:Al} {w1:World} {i:Nat} {j:Nat} (hj:j<ps.length) (hn:¬ Wn Mn j (mB+i)):MapC Mn X A1 α1 w1 i (j+1)↔MapC Mn X A1 α1 w1 i j:=by
 obtain ⟨h1,h2⟩:=map_const (d.st hj).st (d.sem j hj) hn
 exact ⟨fun h hi=>by rw [← h2 hi];exact h (h1.2 hi),fun h hi=>by rw [h2 (h1.1 hi)];exact h (h1.1 hi)⟩
theorem DE.loopC {A1:Nat→Prop} {α1:Al} {w1:World} {i:Nat} {j:Nat} (hj:j<ps.length) (hn:¬ Wn Mn j (lB+i)):LoopC c Mn X A1 α1 w1 i (j+1)↔LoopC c Mn X A1 α1 w1 i j:=by
 obtain ⟨h1,h2⟩:=loop_const (d.st hj).st (d.sem j hj) hn
 exact ⟨fun h hi=>by rw [← h2 hi];exact h (h1.2 hi),fun h hi=>by rw [h2 (h1.1 hi)];exact h (h1.1 hi)⟩
theorem DE.step (zc : Fc c) {α : Al} {w0 : World} {S : Nat → Bool} (hcl : ∀ i, i < ps.length → S i = true → ∀ k ∈ depsOf ops i, S k = true) {i : Nat} (hi : i < ps.length) (hrd : ∀ k ∈ depsOf ops i, S k = true) (hS : S i = false) {A1 : Nat → Prop} {α1 : Al} {a1 : Act} {w1 : World} (hB : c.B ≤ w0.heap.size)
    (h:InvD c ly K ps Fn Mn Rn g X A α w0 (fun j=>S j=true) A1 α1 a1 w1) (Kn:Act→World→Prop) (Q:Exit→Act→World→Prop) (hK:∀ A2 α2 a2 w2,InvD c ly K ps Fn Mn Rn g X A α w0 (fun j=>S j=true∨j=i) A2 α2 a2 w2→Kn a2 w2):wpOp1 c zc ps[i].o ops a1 w1 Kn Q:=by
  have hsz:ops.size=ps.length:=d.hT.len
  have hrr:=rB_gt
  have hdlt:∀ i,i<ps.length→∀ k∈depsOf ops i,k<i:=fun i hi=>d.hT.dep i (by omega)
  have hbi:∀ j∈(befs ops ops.size).getD i [],S j=true:=by rw [hsz];exact bef_closed hcl hdlt i hi hrd
  have hnb:∀ j,j<ps.length→S j=true→i ∉ (befs ops ops.size).getD j []:=fun j hj hD hm=>by
    rw [hsz] at hm
    have:=bef_closed hcl hdlt j hj (hcl j hj hD) i hm
    rw [hS] at this;cases this
  have hord:∀ a,(Wn Mn i a∨Ents (Mn (i+1)).g.rl a)→∀ j,j<ps.length→Wn Mn j a→(S j=true↔j<i):=fun a ha j hj hw=>by
    rcases Nat.lt_trichotomy j i with hlt | rfl | hgt
    · exact ⟨fun _=>hlt,fun _=>hbi j (d.conf hlt hi (.inl ⟨hw,ha⟩))⟩
    · rw [hS];simp
    · refine ⟨fun hD=>absurd (d.conf (a:=a) hgt hj ?_) (hnb j hj hD),fun h=>by omega⟩
      exact ha.elim (fun ha=>.inl ⟨ha,.inl hw⟩) fun ha=>.inr ⟨ha,hw⟩
  have hord2:∀ a,Wn Mn i a→∀ j,i<j→j<ps.length→Wn Mn j a→¬ (S j=true):=fun a ha j hij hj hw hD=>hnb j hj hD (d.conf hij hj (.inl ⟨ha,.inl hw⟩))
  have hcov:∀ a,Cov (Mn (i+1)).g a→Dtot Mn g a:=fun a ha=>cov_tot d.hg d.hwm (fun h1 h2=>d.hm h1 h2) d.hL hi (d.st hi).st ha
  have hpos:=d.pos (Nat.le_of_lt hi)
  have hwi:=d.wmi hi
  have hrel:Rel c.lk X 1048576 c.B (Cov (Mn (i+1)).g) A1 α1 (relog (Mn i)) w1:=by
    refine ⟨d.hX.back (d.hm (Nat.le_of_lt hi) (Nat.le_refl _)).2,fun a hd hlt h0 hne=>?_,fun q hq hd=>?_,fun q hq hd=>?_,h.glo.dom,h.glo.inj,h.glo.lt,h.glo.last,h.glo.room,h.glo.own,h.glo.kd⟩
    · have hD:=hcov a hd
      rcases hd with hd | hd | hd | hd
      · rw [hwi] at hd;omega
      · rw [hwi] at hd
        exact absurd ((d.wf (Nat.le_of_lt hi)).zero a hd.1 h0) hne
      · exact h.cell a hD hlt h0 i (Nat.le_of_lt hi) (hord a (.inr hd)) hne
      · exact h.cell a hD hlt h0 i (Nat.le_of_lt hi) (hord a (.inl (.inr (.inr hd)))) hne
    · have hD:=hcov _ hd
      rcases hd with hd | hd | hd | hd
      · rw [hwi] at hd;omega
      · omega
      · exact h.map q hD i (Nat.le_of_lt hi) (hord _ (.inr hd)) hq
      · exact h.map q hD i (Nat.le_of_lt hi) (hord _ (.inl (.inr (.inr hd)))) hq
    · have hD:=hcov _ hd
      rcases hd with hd | hd | hd | hd
      · rw [hwi] at hd;omega
      · omega
      · exact h.loop q hD i (Nat.le_of_lt hi) (hord _ (.inr hd)) hq
      · exact h.loop q hD i (Nat.le_of_lt hi) (hord _ (.inl (.inr (.inr hd)))) hq
  have hnews:∀ x,News (relog (Mn i)) (Mn (i+1)) x→¬ A1 x:=fun x hx=>by
    rw [h.al]
    rintro (hA | ⟨j,hj,hD,hN⟩)
    · exact d.hn i hi x hx hA
    · rcases Nat.lt_trichotomy j i with hlt | rfl | hgt
      · exact d.newsAp hlt hi hN hx
      · rw [hS] at hD;cases hD
      · exact d.newsAp hgt hj hx hN
  have hwr:Wf (relog (Mn i)):=by rw [relog_eq];exact (d.wf (Nat.le_of_lt hi)).regs (Nat.le_refl _)
  have hpi:ps[i]?=some ps[i]:=List.getElem?_eq_getElem hi
  have hF0:∀ k,k≤ps.length→∀ t,K t→(∀ j,j<k→dstN ps j≠some t)→fld (Fn k) (ly.off t) (ly.w t)=fld (Fn 0) (ly.off t) (ly.w t):=fun k=>by
    induction k with
    | zero=>intro _ _ _ _;rfl
    | succ k ih =>
      intro hk t ht hn
      rw [slot_keep d.hT (List.getElem?_eq_getElem (by omega)) (d.st (by omega)).dp (.inl ht) (hn k (by omega))]
      exact ih (by omega) t ht fun j hj=>hn j (by omega)
  have hFd:∀ k,k≤ps.length→∀ j t,j<k→dstN ps j=some t→fld (Fn k) (ly.off t) (ly.w t)=Rn j:=fun k=>by
    induction k with
    | zero=>intro _ _ _ h _;omega
    | succ k ih =>
      intro hk j t hj hd
      by_cases hjk:j=k
      · subst hjk
        have hdp:=(d.st (by omega:j<ps.length)).dp
        have e:ps[j].o.dst=some t:=by
          have:dstN ps j=ps[j].o.dst:=by unfold dstN;rw [List.getElem?_eq_getElem (by omega)];rfl
          rw [← this];exact hd
        rw [e] at hdp
        have hdp:PutF (ly.off t) (ly.w t) (Rn j) (Fn j) (Fn (j+1)):=hdp
        exact hdp.same
      · rw [slot_keep d.hT (List.getElem?_eq_getElem (by omega)) (d.st (by omega)).dp (.inr ⟨j,hd⟩) fun e=>hjk (d.hT.dist j k t hd e)]
        exact ih (by omega) j t (by omega) hd
  have hTR:TR ly ps[i].T (Fn i) X A1 α1 a1:=fun t ht=>by
    obtain ⟨h1,h2⟩:=d.hT.tmp i _ hpi t ht
    by_cases hex:∃ j,dstN ps j=some t
    · obtain ⟨j,hj⟩:=hex
      rcases h2 j hj with ⟨g1,g2⟩ | ⟨hK,g1,g2⟩
      · rw [hFd i (Nat.le_of_lt hi) j t g1 hj]
        exact h.s2 j t (by omega) (hbi j g2) hj
      · rw [hF0 i (Nat.le_of_lt hi) t hK fun j' hj' e=>by have:=d.hT.dist j j' t hj e;omega]
        refine h.s1 t hK fun j' hj' hD e=>?_
        have:=d.hT.dist j j' t hj e
        subst this
        exact hnb j hj' hD g2
    · have hK:=h1.resolve_right fun ⟨j,_,hj⟩=>hex ⟨j,hj⟩
      rw [hF0 i (Nat.le_of_lt hi) t hK fun j _ hj=>hex ⟨j,hj⟩]
      exact h.s1 t hK fun j _ _ hj=>hex ⟨j,hj⟩
  refine (d.st hi).sem zc X A1 α1 a1 w1 (d.hX.back (d.hm (by omega:i+1≤ps.length) (Nat.le_refl _)).2) (d.lim (by omega)) d.hc hwr hTR hrel hnews (Nat.le_trans hB h.stp.size) Kn Q fun u A2 α2 w2 k1 k2 k3 k4=>hK A2 α2 _ w2 ?_
  have hdn:dstN ps i=ps[i].o.dst:=by unfold dstN;rw [hpi];rfl
  have hsame:∀ t,dstN ps i≠some t→(a1.put ps[i].o.dst u).tmps.getD t undef=a1.tmps.getD t undef:=fun t hne=>by
    cases hdd:ps[i].o.dst with
    | none=>rfl
    | some e =>
      show (a1.tmps.setIfInBounds e u).getD t undef=_
      rw [getD_setIf (by rw [h.size];exact (d.hT.dst i e (hdn.trans hdd)).1),if_neg (fun e'=>hne (by rw [e'];exact hdn.trans hdd))]
  have hα:∀ a,A1 a→¬ Wn Mn i a→α2 a=α1 a:=fun a hA hn=>(k4.keep a hA).resolve_right fun h=>hn h.1
  have hmi:=(k1.wf).brk
  refine ⟨?_,fun t ht hn=>?_,fun j t hj hD hd=>?_,?_,fun x=>?_,k3.glo,fun a h1 h2 h3=>?_,fun q h1=>?_,fun q h1=>?_,?_⟩
  · cases hdd:ps[i].o.dst with
    | none=>exact h.size
    | some e=>show (a1.tmps.setIfInBounds e u).size=_;rw [Array.size_setIfInBounds];exact h.size
  · rw [hsame t (hn i hi (.inr rfl))]
    exact (h.s1 t ht fun j hj hD=>hn j hj (.inl hD)).mono k4.ast
  · by_cases hji:j=i
    · subst hji
      have hdd:ps[j].o.dst=some t:=hdn.symm.trans hd
      rw [hdd]
      show SR X A2 α2 (ly.kd t) (Rn j) ((a1.tmps.setIfInBounds t u).getD t undef)
      rw [getD_setIf (by rw [h.size];exact (d.hT.dst j t hd).1),if_pos rfl]
      exact k2 t hdd
    · rw [hsame t fun e=>hji (d.hT.dist j i t hd e)]
      exact (h.s2 j t hj (hD.resolve_right hji) hd).mono k4.ast
  · have:(a1.put ps[i].o.dst u).defers=a1.defers:=by cases ps[i].o.dst <;> rfl
    rw [this]
    exact h.df.mono k4
  · rw [k4.all,h.al]
    constructor
    · rintro ((hA | ⟨j,h1,h2,h3⟩) | hN)
      · exact .inl hA
      · exact .inr ⟨j,h1,.inl h2,h3⟩
      · exact .inr ⟨i,hi,.inr rfl,hN⟩
    · rintro (hA | ⟨j,h1,h2 | rfl,h3⟩)
      · exact .inl (.inl hA)
      · exact .inl (.inr ⟨j,h1,h2,h3⟩)
      · exact .inr h3
  · refine content_step (W:=fun j=>Wn Mn j a) (S:=fun j=>S j=true) hi (CellC Mn X A1 α1 w1 a) (CellC Mn X A2 α2 w2 a) (fun j hj hn=>d.cellC h3 (by omega) hj hn) (fun hW hne=>?_) (fun hW k hk hC hne=>?_) (fun hW=>hord2 a hW) (h.cell a h1 h2 h3)
    · exact k3.cell a (CovC.cov hmi hW) h2 h3 hne
    · have hcr:=hC hne
      have hA:A1 a:=by
        obtain ⟨b0,o0,l0,v0,e,_⟩:=hcr
        exact h.glo.dom a _ e
      exact hcr.keep k4.ast (hα a hA hW) fun b o l e=>⟨(k4.cells a b o l hA e hW).1,(k4.cells a b o l hA e hW).2.1⟩
  · refine content_step (W:=fun j=>Wn Mn j (mB+q)) (S:=fun j=>S j=true) hi (MapC Mn X A1 α1 w1 q) (MapC Mn X A2 α2 w2 q) (fun j hj hn=>d.mapC hj hn) (fun hW hq=>?_) (fun hW k hk hC hq=>?_) (fun hW=>hord2 _ hW) (h.map q h1)
    · exact k3.map q hq (CovC.cov hmi hW)
    · have hcr:=hC hq
      have hA:A1 (mB+q):=by
        obtain ⟨_,_,b0,_,_,_,_,e,_⟩:=hcr
        exact h.glo.dom _ _ e
      exact hcr.keep k4.ast (hα _ hA hW) fun b e hk=>(k4.cells _ b _ _ hA e hW).2.2 hk
  · refine content_step (W:=fun j=>Wn Mn j (lB+q)) (S:=fun j=>S j=true) hi (LoopC c Mn X A1 α1 w1 q) (LoopC c Mn X A2 α2 w2 q) (fun j hj hn=>d.loopC hj hn) (fun hW hq=>?_) (fun hW k hk hC hq=>?_) (fun hW=>hord2 _ hW) (h.loop q h1)
    · exact k3.loop q hq (CovC.cov hmi hW)
    · have hcr:=hC hq
      have hA:A1 (lB+q):=by
        obtain ⟨b0,_,e,_⟩:=hcr
        exact h.glo.dom _ _ e
      exact hcr.keep k4.ast (hα _ hA hW) fun b e hk=>(k4.cells _ b _ _ hA e hW).2.2 hk
  · refine (h.stp.trans k4).weak (fun x=>?_) fun x=>?_
    · rintro (⟨j,h1,h2,h3⟩ | hW)
      · exact ⟨j,h1,.inl h2,h3⟩
      · exact ⟨i,hi,.inr rfl,hW⟩
    · constructor
      · rintro (⟨j,h1,h2,h3⟩ | hW)
        · exact ⟨j,h1,.inl h2,h3⟩
        · exact ⟨i,hi,.inr rfl,hW⟩
      · rintro ⟨j,h1,h2 | rfl,h3⟩
        · exact .inl ⟨j,h1,h2,h3⟩
        · exact .inr h3
end
end
end Go.Proofs.YtceaohiahajolaaGreatDoor.VM
namespace Go.Proofs.YtceaohiahajolaaGreatDoor.VM
open Go Go.RowKit
variable {c:Cx}
section
variable {ly:Ly} {K:Nat→Prop} {ops:Array Oper} {ps:List Pc} {prs:List (Nat × Nat)} {Fn:Nat→Nat} {Mn:Nat→M} {Rn:Nat→Nat}
variable {wm:Nat} {rl wl:List Nat} {g:Lo} {X:Xs} {A:Nat→Prop}
theorem DE.slot0 (d:DE c ly K ops ps prs Fn Mn Rn wm rl wl g X A) {t:Nat} (ht:K t):∀ k,k≤ps.length→(∀ j,j<k→dstN ps j≠some t)→fld (Fn k) (ly.off t) (ly.w t)=fld (Fn 0) (ly.off t) (ly.w t):=fun k=>by
 induction k with
 | zero=>intro _ _;rfl
 | succ k ih =>
   intro hk hn
   rw [slot_keep d.hT (List.getElem?_eq_getElem (by omega)) (d.st (by omega)).dp (.inl ht) (hn k (by omega))]
   exact ih (by omega) fun j hj=>hn j (by omega)
theorem DE.slotD (d:DE c ly K ops ps prs Fn Mn Rn wm rl wl g X A) {j t:Nat} (hd:dstN ps j=some t):∀ k,k≤ps.length→j<k→fld (Fn k) (ly.off t) (ly.w t)=Rn j:=fun k=>by
 induction k with
 | zero=>intro _ h;omega
 | succ k ih =>
   intro hk hj
   by_cases hjk:j=k
   · subst hjk
     have hdp:=(d.st (by omega:j<ps.length)).dp
     have e:ps[j].o.dst=some t:=by
       have:dstN ps j=ps[j].o.dst:=by unfold dstN;rw [List.getElem?_eq_getElem (by omega)];rfl
       rw [← this];exact hd
     rw [e] at hdp
     have hdp:PutF (ly.off t) (ly.w t) (Rn j) (Fn j) (Fn (j+1)):=hdp
     exact hdp.same
   · rw [slot_keep d.hT (List.getElem?_eq_getElem (by omega)) (d.st (by omega)).dp (.inr ⟨j,hd⟩) fun e=>hjk (d.hT.dist j k t hd e)]
     exact ih (by omega) (by omega)
theorem DE.dfs (d:DE c ly K ops ps prs Fn Mn Rn wm rl wl g X A) {s:Nat} (hs:ly.df=some s):∀ k,k≤ps.length→fld (Fn k) s 128=fld (Fn 0) s 128:=fun k=>by
 induction k with
 | zero=>intro _;rfl
 | succ k ih =>
   intro hk
   rw [← ih (by omega)]
   have hdp:=(d.st (by omega:k<ps.length)).dp
   have hdn:dstN ps k=ps[k].o.dst:=by unfold dstN;rw [List.getElem?_eq_getElem (by omega)];rfl
   cases hdd:ps[k].o.dst with
   | none =>
     rw [hdd] at hdp
     have hdp:Fn (k+1)=Fn k:=hdp
     rw [hdp]
   | some e =>
     rw [hdd] at hdp
     have hdp:PutF (ly.off e) (ly.w e) (Rn k) (Fn k) (Fn (k+1)):=hdp
     obtain ⟨_,_,_,h4⟩:=d.hT.dst k e (hdn.trans hdd)
     obtain ⟨h5,h6⟩:=h4 s hs
     exact hdp.other s 128 h5 (by omega)
theorem DE.fin (d : DE c ly K ops ps prs Fn Mn Rn wm rl wl g X A) {α : Al} {w : World} {A1 : Nat → Prop} {α1 : Al} {a1 : Act} {w1 : World} {S : Nat → Prop} (hS : ∀ i, i < ps.length → S i) (hgw : g.wm ≤ (Mn ps.length).brk) (how : ∀ a, rB ≤ a → ly.own a ∨ A a)
    (h:InvD c ly K ps Fn Mn Rn g X A α w S A1 α1 a1 w1):MSem (Mn 0) (setG (Mn ps.length) g)∧FR ly K X A1 α1 w1 (Fn ps.length) a1∧Rel c.lk X 1048576 c.B (Cov g) A1 α1 (setG (Mn ps.length) g) w1∧Stp c.B (CovC g (Mn ps.length).brk) (News (Mn 0) (setG (Mn ps.length) g)) A α w A1 α1 w1:=by
  have hrr:=rB_gt
  have htel:=fun x=>d.newsTel (x:=x) (Nat.le_refl ps.length)
  have hnews:∀ x,News (Mn 0) (setG (Mn ps.length) g) x↔News (Mn 0) (Mn ps.length) x:=fun x=>Iff.rfl
  refine ⟨⟨(d.wf (Nat.le_refl _)).regs hgw,fun a h0 hlt hn=>?_,fun i hi hn=>?_,fun i hi hn=>?_,fun a hN hr=>?_⟩,⟨h.size,fun t ht=>?_,?_,fun a ha=>(how a ha).imp id fun h'=>(h.al a).2 (.inl h')⟩,⟨d.hX,fun a hd hlt h0 hne=>?_,fun i hi hd=>?_,fun i hi hd=>?_,h.glo.dom,h.glo.inj,h.glo.lt,h.glo.last,h.glo.room,h.glo.own,h.glo.kd⟩,?_⟩
  · have hb:=d.hw.brk
    have:∀ k,k≤ps.length→VM.memC (Mn k) a=VM.memC (Mn 0) a:=fun k=>by
      induction k with
      | zero=>intro _;rfl
      | succ k ih =>
        intro hk
        rw [d.memC h0 (by unfold mB at hrr;omega) (by omega:k<ps.length) fun hw=>hn (d.wTot (by omega) hw)]
        exact ih (by omega)
    exact this _ (Nat.le_refl _)
  · have : ∀ k, k ≤ ps.length → mpS (Mn k).x i = mpS (Mn 0).x i := fun k => by
      induction k with
      | zero=>intro _;rfl
      | succ k ih =>
        intro hk
        rw [← ih (by omega)]
        exact (map_const (d.st (by omega:k<ps.length)).st (d.sem k (by omega)) fun hw=>hn (d.wTot (by omega) hw)).2 (Nat.lt_of_lt_of_le hi (d.hm (Nat.zero_le k) (by omega)).2.nm)
    exact this _ (Nat.le_refl _)
  · have : ∀ k, k ≤ ps.length → lpS (Mn k).x i = lpS (Mn 0).x i := fun k => by
      induction k with
      | zero=>intro _;rfl
      | succ k ih =>
        intro hk
        rw [← ih (by omega)]
        exact (loop_const (d.st (by omega:k<ps.length)).st (d.sem k (by omega)) fun hw=>hn (d.wTot (by omega) hw)).2 (Nat.lt_of_lt_of_le hi (d.hm (Nat.zero_le k) (by omega)).2.nl)
    exact this _ (Nat.le_refl _)
  · rw [hnews,htel] at hN
    obtain ⟨j,hj,hN⟩:=hN
    exact d.wTot hj ((d.sem j hj).new a hN hr)
  · by_cases hex:∃ j,j<ps.length∧dstN ps j=some t
    · obtain ⟨j,hj,hd⟩:=hex
      rw [d.slotD hd _ (Nat.le_refl _) hj]
      exact h.s2 j t hj (hS j hj) hd
    · rw [d.slot0 ht _ (Nat.le_refl _) fun j hj hd=>hex ⟨j,hj,hd⟩]
      exact h.s1 t ht fun j hj _ hd=>hex ⟨j,hj,hd⟩
  · have:=h.df
    cases hdf:ly.df with
    | none=>rw [hdf] at this;exact this
    | some s =>
      rw [hdf] at this
      unfold DfR at this ⊢
      simp only at this ⊢
      rw [d.dfs hdf _ (Nat.le_refl _)];exact this
  · exact h.cell a (.inl hd) hlt h0 ps.length (Nat.le_refl _) (fun j hj _=>⟨fun _=>hj,fun _=>hS j hj⟩) hne
  · exact h.map i (.inl hd) ps.length (Nat.le_refl _) (fun j hj _=>⟨fun _=>hj,fun _=>hS j hj⟩) hi
  · exact h.loop i (.inl hd) ps.length (Nat.le_refl _) (fun j hj _=>⟨fun _=>hj,fun _=>hS j hj⟩) hi
  · refine h.stp.weak (fun x ⟨j,h1,_,h3⟩=>d.wTot h1 h3) fun x=>?_
    rw [hnews,htel]
    exact ⟨fun ⟨j,h1,_,h3⟩=>⟨j,h1,h3⟩,fun ⟨j,h1,h3⟩=>⟨j,h1,hS j h1,h3⟩⟩
theorem DE.any (d : DE c ly K ops ps prs Fn Mn Rn wm rl wl g X A) (zc : Fc c) {α : Al} {w : World} {a : Act} (hgw : g.wm ≤ (Mn ps.length).brk) (hF : FR ly K X A α w (Fn 0) a) (hr : Rel c.lk X 1048576 c.B (Cov g) A α (Mn 0) w) (hB : c.B ≤ w.heap.size) (Q : Exit → Act → World → Prop)
    (hQ:∀ a' A' α' w',MSem (Mn 0) (setG (Mn ps.length) g)→FR ly K X A' α' w' (Fn ps.length) a'→Rel c.lk X 1048576 c.B (Cov g) A' α' (setG (Mn ps.length) g) w'→Stp c.B (CovC g (Mn ps.length).brk) (News (Mn 0) (setG (Mn ps.length) g)) A α w A' α' w'→Q .normal a' w'):wpAnyIn zc.F 0 c.P .any ops Q ops.size (Array.replicate ops.size false) a w:=by
  have hsz:ops.size=ps.length:=d.hT.len
  have hdlt:∀ i,i<ps.length→∀ k∈depsOf ops i,k<i:=fun i hi=>d.hT.dep i (by omega)
  have key : ∀ (fuel : Nat) (listed : Array Bool) (A1 : Nat → Prop) (α1 : Al) (a1 : Act) (w1 : World), listed.size = ps.length → ((List.range ps.length).filter fun i => !listed.getD i false).length ≤ fuel →
      (∀ i,i<ps.length→listed.getD i false=true→∀ k∈depsOf ops i,listed.getD k false=true)→InvD c ly K ps Fn Mn Rn g X A α w (fun i=>listed.getD i false=true) A1 α1 a1 w1→wpAnyIn zc.F 0 c.P .any ops Q fuel listed a1 w1:=by
    intro fuel
    have hend:∀ (listed:Array Bool) (A1:Nat→Prop) (α1:Al) (a1:Act) (w1:World),(∀ i,i<ps.length→listed.getD i false=true)→InvD c ly K ps Fn Mn Rn g X A α w (fun i=>listed.getD i false=true) A1 α1 a1 w1→Q .normal a1 w1:=fun listed A1 α1 a1 w1 hall h=>by
      obtain ⟨h1,h2,h3,h4⟩:=d.fin hall hgw hF.ow h
      exact hQ a1 A1 α1 w1 h1 h2 h3 h4
    induction fuel with
    | zero =>
      intro listed A1 α1 a1 w1 hls hcnt hdn hinv
      have hall:∀ i,i<ps.length→listed.getD i false=true:=fun i hi=>by
        have:i ∉ (List.range ps.length).filter fun i=>!listed.getD i false:=by rw [List.length_eq_zero_iff.1 (Nat.le_zero.1 hcnt)];simp
        simp only [List.mem_filter,List.mem_range,hi,true_and,Bool.not_eq_true',Bool.not_eq_false] at this
        exact this
      refine ⟨?_,hend listed A1 α1 a1 w1 hall hinv⟩
      cases hr:Region.ready .any ops listed with
      | nil=>rfl
      | cons i r =>
        obtain ⟨k1,k2,_⟩:=ready_spec (i:=i) (by rw [hr];exact List.mem_cons_self ..)
        rw [hsz] at k1
        have:=hall i k1
        rw [getD_tf (by omega)] at k2
        rw [k2] at this;cases this
    | succ fuel ih =>
      intro listed A1 α1 a1 w1 hls hcnt hdn hinv
      refine ⟨fun hr=>?_,fun i hi=>?_⟩
      · have hall : ∀ i, i < ps.length → listed.getD i false = true := by
          intro i
          induction i using Nat.strongRecOn with
          | _ i ihi =>
            intro hi
            refine Classical.byContradiction fun hne=>?_
            have hmem:i∈Region.ready .any ops listed:=ready_mk (by omega) (by rw [getD_tf (by omega)];simpa using hne) fun j hj=>ihi j (hdlt i hi j hj) (by have:=hdlt i hi j hj;omega)
            rw [hr] at hmem;cases hmem
        exact hend listed A1 α1 a1 w1 hall hinv
      · obtain ⟨hi1,hi2,hi3⟩:=ready_spec hi
        rw [hsz] at hi1
        rw [getD_tf (by omega)] at hi2
        have ho:ops[i]?=some ps[i].o:=d.hT.o i _ (List.getElem?_eq_getElem hi1)
        have hcnt':((List.range ps.length).filter fun k=>!(listed.setIfInBounds i true).getD k false).length≤fuel:=by
          have hsub:((List.range ps.length).filter fun k=>!(listed.setIfInBounds i true).getD k false).length<((List.range ps.length).filter fun k=>!listed.getD k false).length:=by
            have hperm:((List.range ps.length).filter fun k=>!(listed.setIfInBounds i true).getD k false)=((List.range ps.length).filter fun k=>!listed.getD k false).filter (fun k=>k != i):=by
              rw [List.filter_filter]
              refine List.filter_congr fun k hk=>?_
              by_cases hki:i=k
              · subst hki;rw [getD_ss (by omega)];simp
              · rw [getD_st hki];simp [Ne.symm hki]
            rw [hperm]
            refine List.length_filter_lt_length_iff_exists.2 ⟨i,List.mem_filter.2 ⟨List.mem_range.2 hi1,by simp [hi2]⟩,by simp⟩
          omega
        have hdn':∀ k,k<ps.length→(listed.setIfInBounds i true).getD k false=true→∀ e∈depsOf ops k,(listed.setIfInBounds i true).getD e false=true:=fun k hk hD e he=>by
          by_cases hdi:i=e
          · subst hdi;exact getD_ss (by omega)
          · rw [getD_st hdi]
            by_cases hki:i=k
            · subst hki;exact hi3 e he
            · rw [getD_st hki] at hD;exact hdn k hk hD e he
        have hst:=d.step zc (S:=fun i=>listed.getD i false) hdn hi1 hi3 hi2 hB hinv (wpAnyIn zc.F 0 c.P .any ops Q fuel (listed.setIfInBounds i true)) Q fun A2 α2 a2 w2 h2=>by
          refine ih (listed.setIfInBounds i true) A2 α2 a2 w2 (by rw [Array.size_setIfInBounds];exact hls) hcnt' hdn' (h2.congr fun j hj=>?_)
          by_cases hki:i=j
          · subst hki;rw [getD_ss (by omega)];simp
          · rw [getD_st hki];simp [Ne.symm hki]
        unfold wpOpIn
        rw [ho]
        exact hst
  have h0:∀ i:Nat,(Array.replicate ops.size false).getD i false=false:=fun i=>by
    rw [Array.getD_eq_getD_getElem?,Array.getElem?_replicate]
    split <;> rfl
  have hr0:=rel_tot d.hw hr
  have hcon:∀ (W:Nat→Prop) (k:Nat),k≤ps.length→(∀ j,j<ps.length→W j→((Array.replicate ops.size false).getD j false=true↔j<k))→∀ j,j<k→¬ W j:=fun W k hk h j hj hW=>by
    have:=(h j (by omega) hW).2 hj
    rw [h0] at this;cases this
  have hrr:=rB_gt
  refine key ops.size _ A α a w (by rw [Array.size_replicate,hsz]) (by rw [hsz];exact Nat.le_trans (List.length_filter_le _ _) (by simp)) (fun i hi h=>by rw [h0] at h;cases h) ⟨hF.size,fun t ht _=>hF.sl t ht,fun i e hi h=>absurd h (by rw [h0];simp),hF.df,fun x=>⟨.inl,fun h=>h.elim id fun ⟨j,hj,h,_⟩=>absurd h (by rw [h0];simp)⟩,hr0.glo,fun x h1 h2 h3 k hk h=>?_,fun i h1 k hk h=>?_,fun i h1 k hk h=>?_,?_⟩
  · have hnw:=hcon (fun j=>Wn Mn j x) k hk h
    have:∀ j,j≤k→CellC Mn X A α w x j:=fun j=>by
      induction j with
      | zero=>exact fun _ hne=>hr0.cell x h1 h2 h3 hne
      | succ j ih=>exact fun hj=>(d.cellC h3 (by omega) (by omega) (hnw j (by omega))).2 (ih (by omega))
    exact this k (Nat.le_refl _)
  · have hnw:=hcon (fun j=>Wn Mn j (mB+i)) k hk h
    have:∀ j,j≤k→MapC Mn X A α w i j:=fun j=>by
      induction j with
      | zero=>exact fun _ hi=>hr0.map i hi h1
      | succ j ih=>exact fun hj=>(d.mapC (by omega) (hnw j (by omega))).2 (ih (by omega))
    exact this k (Nat.le_refl _)
  · have hnw:=hcon (fun j=>Wn Mn j (lB+i)) k hk h
    have:∀ j,j≤k→LoopC c Mn X A α w i j:=fun j=>by
      induction j with
      | zero=>exact fun _ hi=>hr0.loop i hi h1
      | succ j ih=>exact fun hj=>(d.loopC (by omega) (hnw j (by omega))).2 (ih (by omega))
    exact this k (Nat.le_refl _)
  · exact (Stp.refl c.B (fun _=>False) A α w).weak (fun x h=>h.elim) fun x=>⟨fun h=>h.elim,fun ⟨j,hj,h,_⟩=>absurd h (by rw [h0];simp)⟩
end
section
variable {ly:Ly} {K:Nat→Prop} {ops:Array Oper} {ps:List Pc} {prs:List (Nat × Nat)} {v:Env} {n:Nat}
theorem code_drw {id:Nat} (hm:c.P.follows .mixedOrders=true) (h:∀ p∈ps,PcOk c ly ops v p) (hT:DrawT ly K ops ps prs):CodeOk c ly K v n (.region id ops true) (x_drw (drX (ps.length - 1) prs (ps.map (·.g)))):=by
 intro F m hok
 obtain ⟨wm,rl,wl,hgm⟩:∃ wm rl wl,m.g=⟨wm,rl,wl⟩:=⟨_,_,_,rfl⟩
 have e0:x_drw (drX (ps.length - 1) prs (ps.map (·.g))) v n F m=drX (ps.length - 1) prs (ps.map (·.g)) v wm rl wl [] F m:=by
   show Lo.rec (motive:=fun _=>Rs) (drL (drX (ps.length - 1) prs (ps.map (·.g))) v F m) m.g=_
   rw [hgm];rfl
 rw [e0] at hok ⊢
 obtain ⟨Fn,Mn,Rn,hF0,hM0,hs,e1⟩:=drX_run ps h [] F m hok
 rw [e1] at hok ⊢
 have e2:drN (ps.length - 1) prs v wm rl wl ((logs Mn ps.length).reverse++[]) (Fn ps.length) (Mn ps.length)=Bool.rec (motive:=fun _=>Rs) .bad (drE wm rl wl ((logs Mn ps.length).reverse++[]) (Fn ps.length) (Mn ps.length)) (pairsOk ((logs Mn ps.length).reverse++[]) (ps.length - 1) prs):=rfl
 rw [e2] at hok ⊢
 obtain ⟨hpr,hok,e3⟩:=ok_if hok
 rw [e3,drE_run]
 generalize hg:endG wm (Mn ps.length).brk rl wl ((logs Mn ps.length).reverse++[])=g at *
 have hpf:PairF ps.length prs Mn:=fun q hq h1 h2=>by
   have:=pairsOk_of hpr q hq
   rw [nthL_logs h1,nthL_logs h2] at this
   exact this
 have hm0:=mono_n (c:=c) hs (Nat.zero_le ps.length) (Nat.le_refl _)
 rw [hM0] at hm0
 have hgwm:g.wm=wm:=by
   rw [← hg];unfold endG;split
   · rename_i h;exact h.symm
   · rfl
 have hgle:GLe m.g g:=by
   rw [hgm,← hg]
   unfold endG
   split
   · rename_i h0
     exact ⟨h0.symm,fun _ h=>h,fun _ h=>h⟩
   · exact ⟨rfl,fun e he=>keepR_mem.1 he,fun e he=>keepW_mem.1 he⟩
 refine ⟨.nrm,Fn ps.length,setG (Mn ps.length) g,rfl,⟨hgle,hm0.1,hm0.2⟩,?_⟩
 intro zc X A α a w hX hL hc hw hF hr hn hB Q hQ
 have hwm:wm≤(Mn 0).brk:=by rw [hM0];have:=hw.wm;rw [hgm] at this;exact this
 have hn':∀ i,i<ps.length→∀ x,News (relog (Mn i)) (Mn (i+1)) x→¬ A x:=fun i hi x hx=>hn x (by
   have h1:=mono_n (c:=c) hs (Nat.zero_le i) (by omega)
   have h2:=mono_n (c:=c) hs (by omega:i+1≤ps.length) (Nat.le_refl _)
   rw [hM0] at h1
   unfold News at hx ⊢
   have b1:=h1.1;have b2:=h1.2.nm;have b3:=h1.2.nl
   have b4:=h2.1;have b5:=h2.2.nm;have b6:=h2.2.nl
   simp only [relog,setG] at hx ⊢
   omega)
 have hL':Lim (Mn ps.length):=⟨hL.brk,hL.nm,hL.nl⟩
 have hX':XLe (Mn ps.length).x X:=hX
 have hsem:=all_sem (wm:=wm) (rl:=rl) (wl:=wl) hT hs hg.symm hwm zc hX' hL' hc (by rw [hM0];exact hw) hF.size (by rw [hF0];exact hF.sl) (by rw [hM0];exact hr) hn' hB
 have d:DE c ly K ops ps prs Fn Mn Rn wm rl wl g X A:=⟨hT,hs,hg.symm,hwm,hpf,hX',hL',hc,by rw [hM0];exact hw,hsem,hn'⟩
 refine wpIn_region_any hm (d.any zc (α:=α) (w:={ w with drawn:=w.drawn+1 }) (by rw [hgwm];exact Nat.le_trans hwm (d.hm (Nat.zero_le _) (Nat.le_refl _)).1) (by rw [hF0];exact hF.drew) (by rw [hM0];exact ⟨hr.x,hr.cell,hr.map,hr.loop,hr.dom,hr.inj,hr.lt,hr.last,hr.room,hr.own,hr.kd⟩) hB Q fun a' A' α' w' h1 h2 h3 h4=>hQ a' A' α' w' (by rw [hM0] at h1;exact h1) h2 h3 ?_)
 rw [hM0] at h4
 exact ⟨h4.os,h4.output,h4.size,h4.all,h4.keep,h4.cells,h4.elder,h4.shape,h4.fix⟩
end
end Go.Proofs.YtceaohiahajolaaGreatDoor.VM
namespace Go.Proofs.YtceaohiahajolaaGreatDoor.VM
open Go Go.RowKit
variable {c:Cx}
def Sk.sg:Sk→Nat
 | .one=>1 | .agg n=>n+2
theorem Sk.sg_inj:∀ {k k':Sk},k.sg=k'.sg→k=k'
 | .one,.one,_=>rfl
 | .one,.agg n,h=>by simp only [Sk.sg] at h;omega
 | .agg n,.one,h=>by simp only [Sk.sg] at h;omega
 | .agg n, .agg m, h => by simp only [Sk.sg] at h; obtain rfl : n = m := by omega
                           rfl
theorem Sk.sg_pos (k:Sk):0<k.sg:=by cases k <;> simp [Sk.sg]
def sgOf:List Sk→Nat
 | []=>0 | k :: ks=>k.sg+256*sgOf ks
def sgFit (ks:List Sk):Prop:=∀ k∈ks,k.sg<256
theorem sgOf_inj:∀ {ks ks':List Sk},sgFit ks→sgFit ks'→sgOf ks=sgOf ks'→ks=ks'
 | [],[],_,_,_=>rfl
 | [],k :: ks,_,_,h=>by have:=k.sg_pos;simp only [sgOf] at h;omega
 | k :: ks,[],_,_,h=>by have:=k.sg_pos;simp only [sgOf] at h;omega
 | k :: ks,k' :: ks',h1,h2,h=>by
   have a1:=h1 k (by simp);have a2:=h2 k' (by simp)
   simp only [sgOf] at h
   have e:k.sg=k'.sg:=by omega
   have e2:ks=ks':=sgOf_inj (fun x hx=>h1 x (by simp [hx])) (fun x hx=>h2 x (by simp [hx])) (by omega)
   rw [Sk.sg_inj e,e2]
theorem sgOf_lt:∀ {ks:List Sk},sgFit ks→sgOf ks<256 ^ ks.length
 | [],_=>by simp [sgOf]
 | k :: ks,h=>by
   have h1:=h k (by simp)
   have h2:=sgOf_lt (ks:=ks) fun x hx=>h x (by simp [hx])
   simp only [sgOf,List.length_cons,Nat.pow_succ]
   omega
theorem sgOf_app:∀ (a b:List Sk),sgOf (a++b)=sgOf a+256 ^ a.length*sgOf b
 | [],b=>by simp [sgOf]
 | k :: a,b=>by
   simp only [List.cons_append,sgOf,sgOf_app a b,List.length_cons,Nat.pow_succ]
   rw [Nat.mul_add,← Nat.mul_assoc,Nat.mul_comm 256 (256 ^ a.length)]
   omega
theorem ones_eq (n:Nat):ones n=sgOf (List.replicate n .one):=by
 have key:∀ n,255*sgOf (List.replicate n .one)+1=256 ^ n:=by
   intro n
   induction n with
   | zero=>rfl
   | succ n ih =>
     rw [List.replicate_succ,Nat.pow_succ]
     simp only [sgOf,Sk.sg]
     omega
 show (Nat.pred (256 ^ n)) / 255=_
 have:=key n
 rw [Nat.pred_eq_sub_one]
 omega
def rkOf:Kd→Nat
 | .s k=>2*k.sg | .tup ks=>2*sgOf ks+1
def rkFit:Kd→Prop
 | .s _=>True | .tup ks=>sgFit ks
theorem rkOf_inj {k k':Kd} (h1:rkFit k) (h2:rkFit k') (h:rkOf k=rkOf k'):k=k':=by
 cases k <;> cases k' <;> simp only [rkOf] at h
 · rename_i a b
   have e:a=b:=Sk.sg_inj (by omega)
   rw [e]
 · omega
 · omega
 · rename_i a b
   have e:a=b:=sgOf_inj h1 h2 (by omega)
   rw [e]
def ArgR (X:Xs) (A:Nat→Prop) (α:Al) (ks:List Sk) (C:Nat) (args:Array Value):Prop:=args.size=ks.length∧∀ j k,ks[j]?=some k→SK X A α k (prt ks C j) (args.getD j undef)
theorem so_app1:∀ {a b:List Sk} {j:Nat},j≤a.length→so (a++b) j=so a j
 | [], b, j, h => by obtain rfl : j = 0 := by simpa using h
                     cases b <;> rfl
 | k :: a,b,0,h=>rfl
 | k :: a,b,j+1,h=>by
   show k.w+so (a++b) j=k.w+so a j
   rw [so_app1 (by simpa using h)]
theorem so_app2:∀ {a b:List Sk} {j:Nat},so (a++b) (a.length+j)=ws a+so b j
 | [],b,j=>by simp [ws]
 | k :: a,b,j=>by
   show so (k :: (a++b)) (a.length+1+j)=k.w+ws a+so b j
   rw [show a.length+1+j=(a.length+j)+1 by omega]
   show k.w+so (a++b) (a.length+j)=_
   rw [so_app2];omega
theorem ws_app:∀ (a b:List Sk),ws (a++b)=ws a+ws b
 | [],b=>by simp [ws]
 | k :: a,b=>by
   show k.w+ws (a++b)=k.w+ws a+ws b
   rw [ws_app a b];omega
theorem so_le:∀ {ks:List Sk} {j:Nat} {k:Sk},ks[j]?=some k→so ks j+k.w≤ws ks
 | x :: ks,0,k,h=>by
   cases h
   show 0+x.w≤x.w+ws ks
   omega
 | x :: ks,j+1,k,h=>by
   have:=so_le (ks:=ks) (j:=j) (k:=k) (by simpa using h)
   show x.w+so ks j+k.w≤x.w+ws ks
   omega
theorem prt_app1 {a b:List Sk} {C1 C2 j:Nat} {k:Sk} (hj:a[j]?=some k):prt (a++b) (C1 ||| C2 <<< (128*ws a)) j=prt a C1 j:=by
 have hlt:=(List.getElem?_eq_some_iff.1 hj).1
 have h1:(a++b)[j]?=some k:=by rw [List.getElem?_append_left hlt];exact hj
 unfold prt
 rw [h1,hj,so_app1 (Nat.le_of_lt hlt)]
 simp only [Option.map_some,Option.getD_some]
 rw [fld_lor,fld_shl_low (by have:=so_le hj;omega),Nat.or_zero]
theorem prt_app2 {a b:List Sk} {C1 C2 j:Nat} {k:Sk} (hC:C1<2 ^ (128*ws a)) (hj:b[j]?=some k):prt (a++b) (C1 ||| C2 <<< (128*ws a)) (a.length+j)=prt b C2 j:=by
 have h1:(a++b)[a.length+j]?=some k:=by rw [List.getElem?_append_right (by omega)];simpa using hj
 unfold prt
 rw [h1,hj,so_app2]
 simp only [Option.map_some,Option.getD_some]
 rw [fld_lor,Nat.mul_add,fld_shl,fld_big (Nat.lt_of_lt_of_le hC (Nat.pow_le_pow_right (by decide) (by omega))),Nat.zero_or]
section
variable {X:Xs} {A A':Nat→Prop} {α α':Al}
theorem ArgR.app {a b:List Sk} {C1 C2:Nat} {u v:Array Value} (h1:ArgR X A α a C1 u) (h2:ArgR X A α b C2 v) (hC:C1<2 ^ (128*ws a)):ArgR X A α (a++b) (C1 ||| C2 <<< (128*ws a)) (u++v):=by
 refine ⟨by rw [Array.size_append,h1.1,h2.1,List.length_append],fun j k hj=>?_⟩
 by_cases hlt:j<a.length
 · have hj':a[j]?=some k:=by rw [List.getElem?_append_left hlt] at hj;exact hj
   rw [prt_app1 hj']
   have e:(u++v).getD j undef=u.getD j undef:=by
     rw [Array.getD_eq_getD_getElem?,Array.getD_eq_getD_getElem?,Array.getElem?_append_left (by rw [h1.1];exact hlt)]
   rw [e];exact h1.2 j k hj'
 · obtain ⟨i,rfl⟩:∃ i,j=a.length+i:=⟨j - a.length,by omega⟩
   have hj':b[i]?=some k:=by rw [List.getElem?_append_right (by omega)] at hj;simpa using hj
   rw [prt_app2 hC hj']
   have e:(u++v).getD (a.length+i) undef=v.getD i undef:=by
     rw [Array.getD_eq_getD_getElem?,Array.getD_eq_getD_getElem?,Array.getElem?_append_right (by rw [h1.1];omega),h1.1]
     congr 2;omega
   rw [e];exact h2.2 i k hj'
theorem ArgR.mono (hs:AStep A α A' α') {ks:List Sk} {C:Nat} {v:Array Value} (h:ArgR X A α ks C v):ArgR X A' α' ks C v:=⟨h.1,fun j k hj=>(h.2 j k hj).mono hs⟩
theorem ws_rep (n:Nat):ws (List.replicate n .one)=n:=by rw [ws_one fun k hk=>(List.mem_replicate.1 hk).2];simp
theorem argR_ones {n C:Nat} {v:Array Value} (hs:v.size=n) (h:∀ j,j<n→NR X A α (cell C j) (v.getD j undef)):ArgR X A α (List.replicate n .one) C v:=by
 refine ⟨by simp [hs],fun j k hj=>?_⟩
 have hlt:j<n:=by simpa using (List.getElem?_eq_some_iff.1 hj).1
 have hk:k=.one:=by rw [List.getElem?_replicate,if_pos hlt] at hj;cases hj;rfl
 subst hk
 have e:prt (List.replicate n .one) C j=cell C j:=by
   have:=prt_one (l:=List.replicate n (Sk.one,ca0)) (C:=C) (j:=j) (fun p hp=>by rw [(List.mem_replicate.1 hp).2]) (by simpa using hlt)
   simpa [ksOf] using this
 rw [e];exact h j hlt
theorem argR_cat {l:List (Sk × O)} {xs:List Operand} {F:Nat} {act:Act} (hb:∀ p∈l,∀ F,p.2 F<2 ^ (128*p.1.w)) (hl:l.length=xs.length) (h:RLx l xs F X A α act):ArgR X A α (ksOf l) (cat F l) (xs.toArray.map act.eval):=by
 refine ⟨by simp [ksOf,hl],fun j k hj=>?_⟩
 unfold ksOf at hj
 rw [List.getElem?_map] at hj
 obtain ⟨p,hp,rfl⟩:=Option.map_eq_some_iff.1 hj
 have hlt:=(List.getElem?_eq_some_iff.1 hp).1
 have hx:xs[j]?=some xs[j]:=List.getElem?_eq_getElem (by omega)
 rw [cat_prt hb hp]
 have e:(xs.toArray.map act.eval).getD j undef=act.eval xs[j]:=by
   rw [Array.getD_eq_getD_getElem?,Array.getElem?_map,List.getElem?_toArray,hx];rfl
 rw [e];exact h j p _ hp hx
end
def CallS (c:Cx) (f:FuncId) (ks:List Sk) (kr:Kd) (C:Nat) (m:M) (r:Nat) (m':M):Prop :=
 ∀ (F:Fence) X A α w args,(∀ f,F.fn f)→Fr0 F→XLe m'.x X→Lim m'→c.cx X→Wf m→ArgR X A α ks C args→Rel c.lk X 1048576 c.B (Cov m'.g) A α m w→(∀ x,News m m' x→¬ A x)→c.B≤w.heap.size →
   ∀ R:Ending→World→Prop,(∀ v A' α' w',MSem m m'→SR X A' α' kr r v→Rel c.lk X 1048576 c.B (Cov m'.g) A' α' m' w'→Stp c.B (CovC m'.g m'.brk) (News m m') A α w A' α' w'→R (.returned v) w')→CallsIn F 0 c.P f args w R
def CavS (c:Cx) (x:Nat) (ks:List Sk) (kr:Kd) (C:Nat) (m:M) (r:Nat) (m':M):Prop :=
 ∀ (F:Fence) X A α w args fv (o:Oper) (a:Act),(∀ f,F.fn f)→Fr0 F→XLe m'.x X→Lim m'→c.cx X→Wf m→NR X A α x fv→ArgR X A α ks C args→Rel c.lk X 1048576 c.B (Cov m'.g) A α m w→(∀ y,News m m' y→¬ A y)→c.B≤w.heap.size →
   ∀ (K:Act→World→Prop) (Q:Exit→Act→World→Prop),(∀ v A' α' w',MSem m m'→SR X A' α' kr r v→Rel c.lk X 1048576 c.B (Cov m'.g) A' α' m' w'→Stp c.B (CovC m'.g m'.brk) (News m m') A α w A' α' w'→K (a.put o.dst v) w') →
     ∃ d,(Deferred.ofValue fv args).run c.P w=.ok d w∧o.uponIn F 0 c.P a K Q ((invoke d.target d.args).run c.P w)
def CavE (c:Cx) (x:Nat) (ks:List Sk) (kr:Kd) (C:Nat) (m:M) (r:Nat) (m':M):Prop :=
 ∀ (F:Fence) X A α w args fv,(∀ f,F.fn f)→Fr0 F→XLe m'.x X→Lim m'→c.cx X→Wf m→NR X A α x fv→ArgR X A α ks C args→Rel c.lk X 1048576 c.B (Cov m'.g) A α m w→(∀ y,News m m' y→¬ A y)→c.B≤w.heap.size →
   ∀ R:Ending→World→Prop,(∀ v A' α' w',MSem m m'→SR X A' α' kr r v→Rel c.lk X 1048576 c.B (Cov m'.g) A' α' m' w'→Stp c.B (CovC m'.g m'.brk) (News m m') A α w A' α' w'→R (.returned v) w') →
     ∃ d f args',(Deferred.ofValue fv args).run c.P w=.ok d w∧(invoke d.target d.args).run c.P w=.ok (.enter f args') w∧CallsIn F 0 c.P f args' w R
theorem CavE.cavS {x:Nat} {ks:List Sk} {kr:Kd} {C:Nat} {m:M} {r:Nat} {m':M} (h:CavE c x ks kr C m r m'):CavS c x ks kr C m r m':=by
 intro F X A α w args fv o a h1 h2 h3 h4 h5 h6 h7 h8 h9 h10 h11 K Q hK
 obtain ⟨d,f,args',k1,k2,k3⟩:=h F X A α w args fv h1 h2 h3 h4 h5 h6 h7 h8 h9 h10 h11 (fun | .returned v,w''=>K (a.put o.dst v) w'' | .panicked chain,w''=>Q (.panic chain) a w'' | .outgrown,_=>LetsOut Q) fun v A' α' w' k1 k2 k3 k4=>hK v A' α' w' k1 k2 k3 k4
 refine ⟨d,k1,?_⟩
 rw [k2]
 exact ⟨fun h=>absurd h (by rw [h2.1];simp),k3⟩
structure Sg where
 ks:List Sk
 kr:Kd
def NatS (c:Cx) (f:FuncId) (ks:List Sk) (kr:Kd) (C:Nat) (m:M) (r:Nat) (m':M):Prop :=
 ∀ X A α w args,XLe m'.x X→Lim m'→c.cx X→Wf m→ArgR X A α ks C args→Rel c.lk X 1048576 c.B (Cov m'.g) A α m w→(∀ x,News m m' x→¬ A x)→c.B≤w.heap.size →
   ∃ v w' A' α',(callFunc f args).run c.P w=.ok (.value v) w'∧MSem m m'∧SR X A' α' kr r v∧Rel c.lk X 1048576 c.B (Cov m'.g) A' α' m' w'∧Stp c.B (CovC m'.g m'.brk) (News m m') A α w A' α' w'
structure EnvOk (c:Cx) (sig:FuncId→Option Sg) (nsg:Nat→Option (FuncId × Sg)) (v:Env):Prop where
 call:∀ f s,sig f=some s→∀ C m k,C<2 ^ (128*ws s.ks)→Ok (v.call f C m k)→∃ r m',v.call f C m k=k r m'∧MStep m m'∧CallS c f s.ks s.kr C m r m'
 cav:∀ x ks kr,sgFit ks→rkFit kr→∀ C m k,C<2 ^ (128*ws ks)→Ok (v.cav x (sgOf ks) ks.length (128*ws ks) (rkOf kr) C m k)→∃ r m',v.cav x (sgOf ks) ks.length (128*ws ks) (rkOf kr) C m k=k r m'∧MStep m m'∧CavS c x ks kr C m r m'∧(kr≠.s .one→CavE c x ks kr C m r m')
 nat:∀ i f s,nsg i=some (f,s)→∀ C m k,C<2 ^ (128*ws s.ks)→Ok (v.nat i C m k)→∃ r m',v.nat i C m k=k r m'∧MStep m m'∧NatS c f s.ks s.kr C m r m'
def EntP (P:Program) (f:FuncId):Prop:=∀ args w,(callFunc f args).run P w=.ok (.enter f args) w
section
variable {d:Option Tmp} {ty:TypeId} {pos:String} {af:Array Edge} {g:Option (Nat × Bool)} {v:Env} {sig:FuncId→Option Sg} {nsg:Nat→Option (FuncId × Sg)} {at_:Array TypeId}
theorem run_resolve_val {act:Act} {y:Operand} {xs:List Operand} {w:World} {dd:Deferred} (h:(Deferred.ofValue (act.eval y) (xs.toArray.map act.eval)).run c.P w=.ok dd w):(execOp act.eval ⟨d,.call { callee:=.value y,args:=xs.toArray,argTypes:=at_ },ty,pos,af,g⟩).run c.P w=(invoke dd.target dd.args).run c.P w:=by
 unfold execOp resolve
 simp only [Sem.run_bind,h,Result.andThen_ok]
theorem st_cl {f : FuncId} {s : Sg} {l : List (Sk × O)} {xs : List Operand} (hv : EnvOk c sig nsg v) (hs : sig f = some s) (he : EntP c.P f) (hb : ∀ p ∈ l, ∀ F, p.2 F < 2 ^ (128 * p.1.w)) (hl : l.length = xs.length) (hk : ksOf l = s.ks) :
    StOk c ⟨d,.call { callee:=.value (.func f),args:=xs.toArray,argTypes:=at_ },ty,pos,af,g⟩ (fun F X A α act=>RLx l xs F X A α act) s.kr v (s_cl f (catO l)):=by
  intro F m kk hok
  have e:s_cl f (catO l) v F m kk=v.call f (cat F l) m kk:=by
    show natK (catO l F) _=_
    rw [natK_eq,catO_eq]
  rw [e] at hok ⊢
  obtain ⟨r,m',e1,h1,h2⟩:=hv.call f s hs (cat F l) m kk (by rw [← hk];exact cat_lt hb) hok
  refine ⟨r,m',e1,h1,?_⟩
  intro zc X A α a w hX hL hc hw hR hr hn hB K Q hK
  refine ⟨fun f _=>zc.hF f,?_⟩
  rw [Oper.semAt_eq _ _ _ (fun _ h=>by cases h)]
  have hdv:(Deferred.ofValue (a.eval (.func f)) (xs.toArray.map a.eval)).run c.P w=.ok { target:=.fn (.func f) #[],args:=xs.toArray.map a.eval } w:=by
    show (Deferred.ofValue (.func (.func f) #[] #[]) _).run c.P w=_
    simp [Deferred.ofValue]
  rw [run_resolve_val hdv]
  have hinv:(invoke (.fn (.func f) #[]) (xs.toArray.map a.eval)).run c.P w=.ok (.enter f (xs.toArray.map a.eval)) w:=by
    show (callFunc f (xs.toArray.map a.eval++#[])).run c.P w=_
    rw [he,Array.append_empty]
  rw [hinv]
  refine ⟨fun h=>absurd h (by rw [zc.hd.1];simp),?_⟩
  refine h2 zc.F X A α w _ zc.hF zc.hd hX hL hc hw (by rw [← hk];exact argR_cat hb hl hR) hr hn hB _ fun u A' α' w' k1 k2 k3 k4=>hK u A' α' w' k1 k2 k3 k4
theorem st_cv2 {y : Operand} {q : O} {kr : Kd} {l : List (Sk × O)} {xs : List Operand} (hv : EnvOk c sig nsg v) (hf : sgFit (ksOf l)) (hrf : rkFit kr) (hb : ∀ p ∈ l, ∀ F, p.2 F < 2 ^ (128 * p.1.w)) (hl : l.length = xs.length) :
    StOk c ⟨d,.call { callee:=.value y,args:=xs.toArray,argTypes:=at_ },ty,pos,af,g⟩ (fun F X A α act=>NR X A α (q F) (act.eval y)∧RLx l xs F X A α act) kr v (s_cv q (sgOf (ksOf l)) (ksOf l).length (128*ws (ksOf l)) (rkOf kr) (catO l)):=by
  intro F m kk hok
  have e:s_cv q (sgOf (ksOf l)) (ksOf l).length (128*ws (ksOf l)) (rkOf kr) (catO l) v F m kk=v.cav (q F) (sgOf (ksOf l)) (ksOf l).length (128*ws (ksOf l)) (rkOf kr) (cat F l) m kk:=by
    show natK (catO l F) _=_
    rw [natK_eq,catO_eq]
  rw [e] at hok ⊢
  obtain ⟨r,m',e1,h1,h2,_⟩:=hv.cav (q F) (ksOf l) kr hf hrf (cat F l) m kk (cat_lt hb) hok
  refine ⟨r,m',e1,h1,?_⟩
  intro zc X A α a w hX hL hc hw hR hr hn hB K Q hK
  refine ⟨fun f _=>zc.hF f,?_⟩
  rw [Oper.semAt_eq _ _ _ (fun _ h=>by cases h)]
  obtain ⟨dd,hd1,hd2⟩:=h2 zc.F X A α w (xs.toArray.map a.eval) (a.eval y) ⟨d,.call { callee:=.value y,args:=xs.toArray,argTypes:=at_ },ty,pos,af,g⟩ a zc.hF zc.hd hX hL hc hw hR.1 (argR_cat hb hl hR.2) hr hn hB K Q hK
  rw [run_resolve_val hd1]
  exact hd2
theorem st_nt {i : Nat} {f : FuncId} {s : Sg} {l : List (Sk × O)} {xs : List Operand} (hv : EnvOk c sig nsg v) (hs : nsg i = some (f, s)) (hb : ∀ p ∈ l, ∀ F, p.2 F < 2 ^ (128 * p.1.w)) (hl : l.length = xs.length) (hk : ksOf l = s.ks) :
    StOk c ⟨d,.call { callee:=.value (.func f),args:=xs.toArray,argTypes:=at_ },ty,pos,af,g⟩ (fun F X A α act=>RLx l xs F X A α act) s.kr v (s_nt i (catO l)):=by
  intro F m kk hok
  have e:s_nt i (catO l) v F m kk=v.nat i (cat F l) m kk:=by
    show natK (catO l F) _=_
    rw [natK_eq,catO_eq]
  rw [e] at hok ⊢
  obtain ⟨r,m',e1,h1,h2⟩:=hv.nat i f s hs (cat F l) m kk (by rw [← hk];exact cat_lt hb) hok
  refine ⟨r,m',e1,h1,?_⟩
  intro zc X A α a w hX hL hc hw hR hr hn hB K Q hK
  refine ⟨fun f _=>zc.hF f,?_⟩
  rw [Oper.semAt_eq _ _ _ (fun _ h=>by cases h)]
  have hdv:(Deferred.ofValue (a.eval (.func f)) (xs.toArray.map a.eval)).run c.P w=.ok { target:=.fn (.func f) #[],args:=xs.toArray.map a.eval } w:=by
    show (Deferred.ofValue (.func (.func f) #[] #[]) _).run c.P w=_
    simp [Deferred.ofValue]
  rw [run_resolve_val hdv]
  obtain ⟨u,w',A',α',k0,k1,k2,k3,k4⟩:=h2 X A α w (xs.toArray.map a.eval) hX hL hc hw (by rw [← hk];exact argR_cat hb hl hR) hr hn hB
  have hinv:(invoke (.fn (.func f) #[]) (xs.toArray.map a.eval)).run c.P w=.ok (.value u) w':=by
    show (callFunc f (xs.toArray.map a.eval++#[])).run c.P w=_
    rw [Array.append_empty,k0]
  rw [hinv]
  exact hK u A' α' w' k1 k2 k3 k4
end
end Go.Proofs.YtceaohiahajolaaGreatDoor.VM
namespace Go.Proofs.YtceaohiahajolaaGreatDoor.VM
open Go Go.RowKit
variable {c:Cx}
def SltR (ly:Ly) (K:Nat→Prop) (X:Xs) (A:Nat→Prop) (α:Al) (F:Nat) (tmps:Array Value):Prop:=∀ t,K t→SR X A α (ly.kd t) (fld F (ly.off t) (ly.w t)) (tmps.getD t undef)
def rvRun (tmps:Array Value):ResultVar→Sem Value
 | .tmp t=>pure (tmps.getD t undef)
 | .cell a t=>do loadVar t (← asAddr (tmps.getD a undef))
def RvOk (c:Cx) (ly:Ly) (K:Nat→Prop) (rv:ResultVar) (k:Sk) (x:Nat→Rv):Prop :=
 ∀ sh F m acc kk,Ok (x (128*sh) F m acc kk)→∃ C m',x (128*sh) F m acc kk=kk (acc ||| C <<< (128*sh)) m'∧SameM m m'∧C<2 ^ (128*k.w) ∧
   ∀ X A α w tmps,c.cx X→SltR ly K X A α F tmps→Rel c.lk X 1048576 c.B (Cov m'.g) A α m w→∃ u,(rvRun tmps rv).run c.P w=.ok u w∧SK X A α k C u
theorem rvA_eq (sh acc:Nat) (k:Nat→M→Rs) (m:M) (r:Nat):rvA sh acc k m r=k (acc ||| r <<< sh) m:=natK_eq _ _
theorem rv_s {ly:Ly} {K:Nat→Prop} {t:Nat} {k:Sk} (hk:ly.kd t=.s k) (hK:K t):RvOk c ly K (.tmp t) k (r_s (ly.off t) k.w):=by
 intro sh F m acc kk hok
 refine ⟨fld F (ly.off t) (128*k.w),m,?_,SameM.refl m,fld_lt _ _ _,fun X A α w tmps _ hF _=>⟨tmps.getD t undef,rfl,?_⟩⟩
 · show rvA _ _ _ _ (fld F (ly.off t) (Nat.shiftLeft k.w 7))=_
   rw [rvA_eq,shl7]
 · have:=hF t hK
   unfold Ly.w at this
   rw [hk] at this
   exact this
theorem rv_c {ly:Ly} {K:Nat→Prop} {t:Nat} {ty:TypeId} {k:Sk} (hk:ly.kd t=.s .one) (hK:K t) (ht:skOf c.P ty=some k):RvOk c ly K (.cell t ty) k (r_c (ly.off t) k.w):=by
 intro sh F m acc kk hok
 have e0:r_c (ly.off t) k.w (128*sh) F m acc kk=ldS k.w m (rvB (128*sh) acc kk) (oS (ly.off t) F):=rfl
 rw [e0] at hok ⊢
 obtain ⟨m',e1,hs,h5,hn,hl,hc⟩:=ldS_eq hok
 refine ⟨rd m' (ptA (oS (ly.off t) F)) k.w,m',?_,hs,rd_lt _ _ _,fun X A α w tmps _ hF hr=>?_⟩
 · rw [e1];exact rvA_eq _ _ _ _ _
 · have hx:=hF t hK
   unfold Ly.w at hx
   rw [hk] at hx
   have hx:NR X A α (fld F (ly.off t) 128) (tmps.getD t undef):=hx
   rw [← oS_eq] at hx
   obtain ⟨hsz,h0,hkk⟩:=sk_split ht
   obtain ⟨b,o,hv,f,hf⟩:=ld_cells (hr.log hs) hx h5 hn hl hc
   rcases hkk with ⟨rfl,hag⟩ | ⟨n,rfl,hag⟩
   · obtain ⟨_,h2,_,_,h4⟩:=hf 0 (by decide)
     refine ⟨f 0,?_,?_⟩
     · have e9:=run_ld1 (P:=c.P) hag h2
       simp only [rvRun]
       rw [hv]
       simpa [Instr.loadAt,Instr.sureAddr,asAddr,Sem.run_bind] using e9
     · have e:cell (rd m' (ptA (oS (ly.off t) F)) 1) 0=rd m' (ptA (oS (ly.off t) F)) 1:=cell_one (rd_lt _ _ _)
       rw [Sk.w,e] at h4
       exact h4
   · refine ⟨.agg ((List.range n).map f).toArray,?_,?_⟩
     · have e9:=run_ld (P:=c.P) (w:=w) (b:=b) (o:=o) f hsz hag fun j hj=>(hf j hj).2.1
       simp only [rvRun]
       rw [hv]
       simpa [Instr.loadAt,Instr.sureAddr,asAddr,Sem.run_bind,Sk.w] using e9
     · refine .inr (.inr ⟨_,rfl,by simp,fun j hj=>⟨(hf j hj).2.2.2.1,?_⟩⟩)
       have e:(((List.range n).map f).toArray).getD j undef=f j:=by simp [Array.getD_eq_getD_getElem?,hj]
       rw [e]
       exact (hf j hj).2.2.2.2
def ResOk (c:Cx) (ly:Ly) (K:Nat→Prop) (fn:Func) (kr:Kd) (res:Rv):Prop :=
 ∀ F m kk,Ok (res F m 0 kk)→∃ r m',res F m 0 kk=kk r m'∧SameM m m'∧∀ X A α w tmps,c.cx X→SltR ly K X A α F tmps→Rel c.lk X 1048576 c.B (Cov m'.g) A α m w→∃ u,(results fn tmps).run c.P w=.ok u w∧SR X A α kr r u
theorem results_eq (fn:Func) (tmps:Array Value):(results fn tmps)=(fn.results.mapM (rvRun tmps) >>= fun vs=>pure (if h:vs.size=1 then vs[0] else .tuple vs)):=by
 unfold results
 congr 1
structure Rp where
 rv:ResultVar
 k:Sk
 x:Nat→Rv
def rvChain:List Rp→Nat→Rv
 | [],_=>r_0 | [p],sh=>p.x (128*sh) | p :: ps,sh=>r_t (p.x (128*sh)) (rvChain ps (sh+p.k.w))
theorem rvChain_run (p:Rp) (ps:List Rp) (sh F:Nat) (m:M) (acc:Nat) (k:Nat→M→Rs):rvChain (p :: ps) sh F m acc k=p.x (128*sh) F m acc (fun acc m=>rvChain ps (sh+p.k.w) F m acc k):=by
 cases ps with
 | nil=>rfl
 | cons q l=>rfl
theorem run_mapM_list {f:ResultVar→Sem Value} {P:Program} {w:World}:∀ (l:List ResultVar) (us:List Value),l.length=us.length→(∀ (j:Nat) (rv:ResultVar) (u:Value),l[j]?=some rv→us[j]?=some u→(f rv).run P w=.ok u w)→(l.mapM f).run P w=.ok us w
 | [],[],_,_=>by simp
 | a :: l,u :: us,hl,h=>by
   have h0:=h 0 a u rfl rfl
   have ih:=run_mapM_list (f:=f) (P:=P) (w:=w) l us (by simpa using hl) fun j rv u hj hu=>h (j+1) rv u (by simpa using hj) (by simpa using hu)
   rw [List.mapM_cons]
   simp [Sem.run_bind,h0,ih,Result.andThen]
theorem chain_ok {ly : Ly} {K : Nat → Prop} : ∀ (ps : List Rp), (∀ p ∈ ps, RvOk c ly K p.rv p.k p.x) → ∀ sh F m acc kk, Ok (rvChain ps sh F m acc kk) → ∃ (l : List (Sk × O)) (m' : M), rvChain ps sh F m acc kk = kk (acc ||| (cat F l) <<< (128 * sh)) m' ∧ SameM m m' ∧ ksOf l = ps.map (·.k) ∧ (∀ p ∈ l, ∀ F, p.2 F < 2 ^ (128 * p.1.w)) ∧
    ∀ X A α w tmps,c.cx X→SltR ly K X A α F tmps→Rel c.lk X 1048576 c.B (Cov m'.g) A α m w→∃ us:List Value,us.length=ps.length∧∀ (j:Nat) (p:Rp),ps[j]?=some p→∃ u q,us[j]?=some u∧l[j]?=some q∧(rvRun tmps p.rv).run c.P w=.ok u w∧SK X A α p.k (q.2 F) u
  | [],_,sh,F,m,acc,kk,hok=>⟨[],m,by show kk acc m=_;simp [cat],SameM.refl m,rfl,fun p hp=>by simp at hp,fun X A α w tmps _ _ _=>⟨[],rfl,fun j p h=>by simp at h⟩⟩
  | p :: ps,h,sh,F,m,acc,kk,hok=>by
    rw [rvChain_run] at hok ⊢
    obtain ⟨C,m1,e1,s1,hC,g1⟩:=h p (by simp) sh F m acc _ hok
    rw [e1] at hok ⊢
    obtain ⟨l,m',e2,s2,hk,hb,g2⟩:=chain_ok ps (fun q hq=>h q (by simp [hq])) (sh+p.k.w) F m1 _ kk hok
    refine ⟨(p.k,fun _=>C) :: l,m',?_,⟨s2.brk.trans s1.brk,s2.cur.trans s1.cur,s2.pg.trans s1.pg,s2.x.trans s1.x,s1.g.trans s2.g⟩,?_,fun q hq F=>?_,fun X A α w tmps hc hF hr=>?_⟩
    · rw [e2]
      congr 1
      show (acc ||| C <<< (128*sh)) ||| (cat F l) <<< (128*(sh+p.k.w))=acc ||| (C ||| (cat F l) <<< (128*p.k.w)) <<< (128*sh)
      rw [Nat.shiftLeft_or_distrib,← Nat.shiftLeft_add,Nat.or_assoc]
      congr 3;omega
    · show p.k :: ksOf l=_
      rw [hk];rfl
    · rcases List.mem_cons.1 hq with rfl | hq
      · exact hC
      · exact hb q hq F
    · obtain ⟨u,hu1,hu2⟩:=g1 X A α w tmps hc hF (hr.sub fun x hx=>hx.mono s2.g)
      obtain ⟨us,hl,hus⟩:=g2 X A α w tmps hc hF (hr.log s1)
      refine ⟨u :: us,by simp [hl],fun j q hj=>?_⟩
      cases j with
      | zero=>cases hj;exact ⟨u,_,rfl,rfl,hu1,hu2⟩
      | succ j=>exact hus j q (by simpa using hj)
def kdOfRes:List Sk→Kd
 | [k]=>.s k | ks=>.tup ks
theorem res_chain {ly:Ly} {K:Nat→Prop} {fn:Func} {ps:List Rp} (h:∀ p∈ps,RvOk c ly K p.rv p.k p.x) (hr:fn.results.toList=ps.map (·.rv)):ResOk c ly K fn (kdOfRes (ps.map (·.k))) (rvChain ps 0):=by
 intro F m kk hok
 obtain ⟨l,m',e,hs,hk,hb,g⟩:=chain_ok ps h 0 F m 0 kk hok
 refine ⟨cat F l,m',by rw [e];simp,hs,fun X A α w tmps hc hF hrel=>?_⟩
 obtain ⟨us,hl,hus⟩:=g X A α w tmps hc hF hrel
 have hrun:(results fn tmps).run c.P w=.ok (if h:us.toArray.size=1 then us.toArray[0] else .tuple us.toArray) w:=by
   rw [results_eq,← Array.toArray_toList (xs:=fn.results),hr]
   have:=run_mapM_list (f:=rvRun tmps) (P:=c.P) (w:=w) (ps.map (·.rv)) us (by simp [hl]) fun j rv u hj hu=>by
     rw [List.getElem?_map] at hj
     obtain ⟨p,hp,rfl⟩:=Option.map_eq_some_iff.1 hj
     obtain ⟨u',q,h1,_,h3,_⟩:=hus j p hp
     rw [h1] at hu;cases hu;exact h3
   simp only [List.mapM_toArray,Sem.run_bind,Sem.run_map,this,Result.andThen_ok,Sem.run_pure]
 refine ⟨_,hrun,?_⟩
 have hll:l.length=ps.length:=by
   have:=congrArg List.length hk
   simpa [ksOf] using this
 cases ps with
 | nil =>
   have:us=[]:=List.length_eq_zero_iff.1 hl
   subst this
   have hl0:l=[]:=List.length_eq_zero_iff.1 hll
   subst hl0
   exact .inl rfl
 | cons p ps =>
   cases ps with
   | nil =>
     obtain ⟨u,q,h1,h2,_,h4⟩:=hus 0 p rfl
     have:us=[u]:=by
       cases us with
       | nil=>simp at hl
       | cons a us=>cases us with
         | nil=>cases h1;rfl
         | cons b us=>simp at hl
     subst this
     have hl1:l=[q]:=by
       cases l with
       | nil=>simp at hll
       | cons a l=>cases l with
         | nil=>cases h2;rfl
         | cons b l=>simp at hll
     subst hl1
     have e2:cat F [q]=q.2 F:=by
       obtain ⟨k,x⟩:=q
       show x F ||| 0 <<< _=_
       simp
     rw [e2];exact h4
   | cons p2 ps =>
     have h2:¬ us.toArray.size=1:=by simp at hl ⊢;omega
     rw [dif_neg h2]
     refine .inr (.inr ⟨us.toArray,rfl,by simp [hl],fun j k hj=>?_⟩)
     have hj':((p :: p2 :: ps).map (·.k))[j]?=some k:=hj
     rw [List.getElem?_map] at hj'
     obtain ⟨q0,hq0,rfl⟩:=Option.map_eq_some_iff.1 hj'
     obtain ⟨u,q,h1,h3,_,h4⟩:=hus j q0 hq0
     have e3:=cat_prt (F:=F) hb h3
     rw [hk] at e3
     have e4:us.toArray.getD j undef=u:=by simp [Array.getD_eq_getD_getElem?,h1]
     rw [e4]
     show SK X A α q0.k (prt ((p :: p2 :: ps).map (·.k)) (cat F l) j) u
     rw [e3];exact h4
theorem res_one {ly:Ly} {K:Nat→Prop} {fn:Func} {t:Nat} (hk:ly.kd t=.s .one) (hK:K t) (hr:fn.results.toList=[.tmp t]):ResOk c ly K fn (.s .one) (r_1 (ly.off t)):=by
 intro F m kk hok
 refine ⟨oS (ly.off t) F,m,natK_eq _ _,SameM.refl m,fun X A α w tmps _ hF _=>⟨tmps.getD t undef,?_,?_⟩⟩
 · rw [results_eq,← Array.toArray_toList (xs:=fn.results),hr]
   have:=run_mapM_list (f:=rvRun tmps) (P:=c.P) (w:=w) [.tmp t] [tmps.getD t undef] rfl fun j rv u hj hu=>by
     cases j with
     | zero=>cases hj;cases hu;rfl
     | succ j=>simp at hj
   simp only [List.mapM_toArray,Sem.run_bind,Sem.run_map,this,Result.andThen_ok,Sem.run_pure]
   rfl
 · have hx:=hF t hK
   unfold Ly.w at hx
   rw [hk] at hx
   have hx:NR X A α (fld F (ly.off t) 128) (tmps.getD t undef):=hx
   rw [← oS_eq] at hx
   exact hx
end Go.Proofs.YtceaohiahajolaaGreatDoor.VM
namespace Go.Proofs.YtceaohiahajolaaGreatDoor.VM
open Go Go.RowKit
variable {c:Cx}
section
variable {w:World} {r:Nat} {ds:List Deferred}
theorem putD_heap (b:Nat) (h:b≠r):(w.putObj r (.deferred none)).heap[b]?=w.heap[b]?:=World.putObj_heap_other h
theorem putD_cell (h:w.heap[r]?=some (.deferred (some ds))) (ad:Addr):(w.putObj r (.deferred none)).cell? ad=w.cell? ad:=by
 have hlt:r<w.heap.size:=(Array.getElem?_eq_some_iff.1 h).1
 unfold World.cell?
 by_cases hb:ad.block=r
 · rw [hb,World.putObj_heap_same hlt,h]
 · rw [World.putObj_heap_other hb]
theorem putD_fz (h:w.heap[r]?=some (.deferred (some ds))) (ad:Addr):fz (w.putObj r (.deferred none)) ad=fz w ad:=by
 have hlt:r<w.heap.size:=(Array.getElem?_eq_some_iff.1 h).1
 unfold fz
 by_cases hb:ad.block=r
 · rw [hb,World.putObj_heap_same hlt,h]
 · rw [World.putObj_heap_other hb]
theorem putD_isC (h:w.heap[r]?=some (.deferred (some ds))) (b:Nat):isC (w.putObj r (.deferred none)) b↔isC w b:=by
 have hlt:r<w.heap.size:=(Array.getElem?_eq_some_iff.1 h).1
 unfold isC
 by_cases hb:b=r
 · rw [hb,World.putObj_heap_same hlt,h];simp
 · rw [World.putObj_heap_other hb]
theorem Rel.take {lk:Lk} {X:Xs} {E B:Nat} {D A:Nat→Prop} {α:Al} {m:M} (h:Rel lk X E B D A α m w) (hr:w.heap[r]?=some (.deferred (some ds))):Rel lk X E B D A α m (w.putObj r (.deferred none)):=by
 refine ⟨h.x,fun a h1 h2 h3 h4=>?_,fun i h1 h2=>?_,fun i h1 h2=>?_,h.dom,h.inj,fun a b o l ha=>by rw [World.putObj_size];exact h.lt a b o l ha,h.last,fun a b o q ha j hj=>?_,h.own,fun a b o l ha=>?_⟩
 · obtain ⟨b,o,l,v,k1,k2,k3,k4⟩:=h.cell a h1 h2 h3 h4
   exact ⟨b,o,l,v,k1,by rw [putD_cell hr];exact k2,by rw [putD_fz hr];exact k3,k4⟩
 · obtain ⟨kk,kv,b,es,k0,k1,k2,k3,k4,k5⟩:=h.map i h1 h2
   have hb:b≠r:=fun e=>by rw [e,hr] at k4;cases k4
   exact ⟨kk,kv,b,es,k0,k1,k2,k3,by rw [putD_heap b hb];exact k4,k5⟩
 · obtain ⟨b,rr,k1,k2,k3⟩:=h.loop i h1 h2
   have hb:b≠r:=fun e=>by rw [e,hr] at k2;cases k2
   exact ⟨b,rr,k1,by rw [putD_heap b hb];exact k2,k3⟩
 · rw [putD_cell hr,putD_fz hr]
   exact h.room a b o q ha j hj
 · rw [putD_isC hr]
   exact h.kd a b o l ha
theorem Stp.take {B : Nat} {C N A A' : Nat → Prop} {α α' : Al} {w0 : World} {i : Nat} (h : Stp B C N A α w0 A' α' w) (hr : w.heap[r]? = some (.deferred (some ds))) (hα : α' (rB + i) = some (r, 0, 0)) (hnA : ¬ A (rB + i))
    (hinj:∀ (a a' b o l l':Nat),α' a=some (b,o,l)→α' a'=some (b,o,l')→a=a') (hB:B≤r) (hkd:∀ (a b o l:Nat),α a=some (b,o,l)→(a<mB→isC w0 b)∧(mB≤a→o=0∧l=0∧¬ isC w0 b)):Stp B C N A α w0 A' α' (w.putObj r (.deferred Option.none)):=by
  refine ⟨h.os,h.output,by rw [World.putObj_size];exact h.size,h.all,h.keep,fun a b o l hA ha hn=>?_,fun b hb=>?_,fun b o hc=>?_,fun a b o l h1 h2 h3=>?_⟩
  · obtain ⟨h1,h2,h3⟩:=h.cells a b o l hA ha hn
    rw [putD_cell hr,putD_fz hr]
    refine ⟨h1,h2,fun hnc=>?_⟩
    have hb:b≠r:=fun e=>by
      obtain ⟨g1,g2⟩:=hkd a b o l ha
      by_cases hlt:a<mB
      · obtain ⟨cs,t,f,hx⟩:=g1 hlt
        exact hnc cs t f hx
      · obtain ⟨e1,e2,_⟩:=g2 (by omega)
        have hk:α' a=α a:=(h.keep a hA).resolve_right fun h=>hn h.1
        rw [ha,e,e1,e2] at hk
        have:=hinj a (rB+i) r 0 0 0 hk hα
        exact hnA (this ▸ hA)
    rw [putD_heap b hb]
    exact h3 hnc
  · rw [putD_heap b (by omega)];exact h.elder b hb
  · rw [putD_cell hr,putD_fz hr];exact h.shape b o hc
  · obtain ⟨g1,g2⟩:=h.fix a b o l h1 h2 h3
    have hb:b≠r:=fun e=>by
      have hrr:=rB_gt
      obtain ⟨e1,e2,_⟩:=(hkd a b o l h3).2 (by omega)
      rw [e,e1,e2] at g1
      have:=hinj a (rB+i) r 0 0 0 g1 hα
      exact hnA (this ▸ h2)
    rw [putD_heap b hb]
    exact ⟨g1,g2⟩
end
theorem leave_marks {F : Fence} {fn : Func} {tmps : Array Value} {R : Ending → World → Prop} {own A A' : Nat → Prop} {α α' : Al} {X : Xs} {D : Nat → Prop} {m' : M} {w0 : World} {C N : Nat → Prop} (hown : ∀ a, own a → ¬ A a)
    (hkd:∀ (a b o l:Nat),α a=some (b,o,l)→(a<mB→isC w0 b)∧(mB≤a→o=0∧l=0∧¬ isC w0 b)):∀ (ds:List Deferred) (w:World),ds.Nodup→(∀ d∈ds,MkR own A' α' w d)→Rel c.lk X 1048576 c.B D A' α' m' w→Stp c.B C N A α w0 A' α' w →
      (∀ w',Rel c.lk X 1048576 c.B D A' α' m' w'→Stp c.B C N A α w0 A' α' w'→∃ v,(results fn tmps).run c.P w'=.ok v w'∧R (.returned v) w')→LeavesInM F 0 c.P fn tmps R ds .returning w
  | [],w,_,_,hr,hs,hQ=>hQ w hr hs
  | d :: ds,w,hnd,hmk,hr,hs,hQ=>by
    obtain ⟨i,r,h0,h1,h2,h3,h4⟩:=hmk d (by simp)
    have hrr:=rB_gt
    refine ⟨by simp,.inl ⟨r,_,by rw [h4],run_takeDeferred h3,?_⟩⟩
    refine leave_marks hown hkd ds _ (List.nodup_cons.1 hnd).2 (fun d' hd'=>?_) (hr.take h3) (hs.take h3 h2 (hown _ h0) hr.inj (hr.own _ _ _ _ h2 (by unfold rB;omega)) hkd) hQ
    obtain ⟨i',r',k0,k1,k2,k3,k4⟩:=hmk d' (by simp [hd'])
    have hne:r'≠r:=fun e=>(List.nodup_cons.1 hnd).1 (by rw [h4,← e,← k4];exact hd')
    exact ⟨i',r',k0,k1,k2,by rw [putD_heap _ hne];exact k3,k4⟩
structure FnD where
 fn:Func
 code:Code
 ly:Ly
 K:Nat→Prop
 s:Sg
def Ly.of (ly:Ly) (own:Nat→Prop):Ly:={ ly with own:=own }
structure FnOk (c:Cx) (sig:FuncId→Option Sg) (nsg:Nat→Option (FuncId × Sg)) (f:FuncId) (e:Fn) (d:FnD):Prop where
 hf:c.P.funcs[f]?=some d.fn
 hb:d.fn.body=some d.code
 nt:d.fn.ntmps=d.ly.nt
 le:d.s.ks.length≤d.ly.nt
 fit:sgFit d.s.ks
 rfit:rkFit d.s.kr
 sg:e.sg=sgOf d.s.ks
 rk:e.rk=rkOf d.s.kr
 par:∀ j k,d.s.ks[j]?=some k→d.ly.kd j=.s k∧d.ly.off j=128+128*so d.s.ks j
 rest:∀ t,d.K t→d.s.ks.length≤t→128+128*ws d.s.ks≤d.ly.off t
 df:match d.ly.df with | none=>e.dfr=0 | some s=>e.dfr=s∧128+128*ws d.s.ks≤s
 body:∀ own v n,EnvOk c sig nsg v→CodeOk c (d.ly.of own) d.K v n d.code e.body
 res:ResOk c d.ly d.K d.fn d.s.kr e.res
def EntF (C F:Nat):Prop:=∀ s n,fld F (128+s) n=fld C s n
theorem entF_mix (C:Nat):EntF C (mix (Nat.shiftLeft C 128)):=fun s n=>by
 rw [fld_mix _ (by omega)]
 exact fld_shl
theorem entF_shl (C:Nat):EntF C (Nat.shiftLeft C 128):=fun s n=>fld_shl
section
variable {sig:FuncId→Option Sg} {nsg:Nat→Option (FuncId × Sg)} {f:FuncId} {e:Fn} {d:FnD}
theorem FnOk.enter (h:FnOk c sig nsg f e d) {X:Xs} {A:Nat→Prop} {α:Al} {w:World} {C F:Nat} {args:Array Value} (hC:C<2 ^ (128*ws d.s.ks)) (hF:EntF C F) (ha:ArgR X A α d.s.ks C args):FR (d.ly.of fun a=>¬ A a) d.K X A α w F { tmps:=args++Array.replicate (d.fn.ntmps - args.size) undef,defers:=[] }:=by
 refine ⟨?_,fun t ht=>?_,?_,fun a _=>(Classical.em (A a)).elim .inr .inl⟩
 · show (args++Array.replicate (d.fn.ntmps - args.size) undef).size=d.ly.nt
   have:=h.le
   rw [Array.size_append,Array.size_replicate,h.nt,ha.1];omega
 · show SR X A α (d.ly.kd t) (fld F (d.ly.off t) (128*(d.ly.kd t).w)) ((args++Array.replicate (d.fn.ntmps - args.size) undef).getD t undef)
   by_cases hlt:t<d.s.ks.length
   · have hk:d.s.ks[t]?=some d.s.ks[t]:=List.getElem?_eq_getElem hlt
     obtain ⟨h1,h2⟩:=h.par t _ hk
     rw [h1,h2,hF]
     have e1:fld C (128*so d.s.ks t) (128*(Kd.s d.s.ks[t]).w)=prt d.s.ks C t:=by unfold prt;rw [hk];rfl
     have e2:(args++Array.replicate (d.fn.ntmps - args.size) undef).getD t undef=args.getD t undef:=by
       rw [Array.getD_eq_getD_getElem?,Array.getD_eq_getD_getElem?,Array.getElem?_append_left (by rw [ha.1];exact hlt)]
     rw [e1,e2]
     exact ha.2 t _ hk
   · have h1:=h.rest t ht (by omega)
     obtain ⟨s,hs⟩:∃ s,d.ly.off t=128+s:=⟨d.ly.off t - 128,by omega⟩
     rw [hs,hF,fld_big (Nat.lt_of_lt_of_le hC (Nat.pow_le_pow_right (by decide) (by omega)))]
     exact SR.junk _ _
 · have:=h.df
   show DfR _ d.ly.nm X A α w F [] d.ly.df
   cases hd:d.ly.df with
   | none=>exact ⟨List.nodup_nil,fun _=>rfl,fun d hd=>by simp at hd⟩
   | some s =>
     rw [hd] at this
     obtain ⟨_,h2⟩:=this
     left
     obtain ⟨s',hs⟩:∃ s',s=128+s':=⟨s - 128,by omega⟩
     rw [hs,hF,fld_big (Nat.lt_of_lt_of_le hC (Nat.pow_le_pow_right (by decide) (by omega)))]
     exact ⟨rfl,rfl⟩
theorem FnOk.run0 (h : FnOk c sig nsg f e d) (hrd : c.rd = false) (hdf : d.ly.df = none) {v : Env} {n : Nat} (hv : EnvOk c sig nsg v) {C F : Nat} (hF : EntF C F) {m : M} {k : Kn} (hok : Ok (fin0 e.res k (e.body v n F m))) :
    ∃ r m',fin0 e.res k (e.body v n F m)=k r m'∧MStep m m'∧(C<2 ^ (128*ws d.s.ks)→CallS c f d.s.ks d.s.kr C m r m'):=by
  have hx:Ok (e.body v n F m):=fun hb=>by rw [hb] at hok;exact hok rfl
  have hbody:=fun own=>h.body own v n hv F m hx
  obtain ⟨x,F',m1,e1,s1,_⟩:=hbody fun _=>True
  have hres:∃ r m',fin0 e.res k (e.body v n F m)=k r m'∧SameM m1 m'∧(x=.nrm∨x=.ret)∧∀ X A α w tmps,c.cx X→SltR d.ly d.K X A α F' tmps→Rel c.lk X 1048576 c.B (Cov m'.g) A α m1 w→∃ u,(results d.fn tmps).run c.P w=.ok u w∧SR X A α d.s.kr r u:=by
    rw [e1] at hok ⊢
    cases x with
    | nrm =>
      obtain ⟨r,m',e2,s2,g⟩:=h.res F' m1 k hok
      exact ⟨r,m',e2,s2,.inl rfl,g⟩
    | ret =>
      obtain ⟨r,m',e2,s2,g⟩:=h.res F' m1 k hok
      exact ⟨r,m',e2,s2,.inr rfl,g⟩
    | ex id=>exact absurd rfl hok
    | gt l=>exact absurd rfl hok
  obtain ⟨r,m',e2,s2,hx2,g⟩:=hres
  refine ⟨r,m',e2,s1.trans s2.step,?_⟩
  intro hC Fc X A α w args hFf hFd hX hL hc hw ha hr hn hB R hR
  have hcode:CodeS c (d.ly.of fun a=>¬ A a) d.K d.K F m (exO x) F' m1 d.code:=by
    obtain ⟨x',F'',m1',e1',_,g1⟩:=hbody fun a=>¬ A a
    rw [e1] at e1'
    cases e1'
    exact g1
  show CallsIn Fc.plain 0 c.P f args w R
  refine callsIn_of_wp_marks h.hf h.hb (hFf f) ?_ rfl
  refine hcode ⟨Fc.plain,hFf,hFd,by unfold rdIn;rw [hrd];rfl⟩ X A α _ w (hX.back s2.step.x) (hL.back s2.step) hc hw (h.enter hC hF ha) (hr.sub fun y hy=>hy.mono s2.g) (fun y hy=>hn y (by unfold News at hy ⊢;rw [s2.brk,s2.x];exact hy)) hB _ fun a' A' α' w' k1 k2 k3 k4=>?_
  have hfin:LeavesInM Fc.plain 0 c.P d.fn a'.tmps R a'.defers .returning w':=by
    have hdfr:=k2.df
    have hdf':(d.ly.of fun a=>¬ A a).df=none:=hdf
    rw [hdf'] at hdfr
    have hr':Rel c.lk X 1048576 c.B (Cov m'.g) A' α' m1 w':=hr.frame k1 k4 k3
    refine leave_marks (A:=A) (α:=α) (w0:=w) (own:=fun a=>¬ A a) (fun a h=>h) hr.kd a'.defers w' hdfr.1 hdfr.2.2 hr' k4 fun w2 hr2 hs2=>?_
    obtain ⟨u,hu1,hu2⟩:=g X A' α' w2 a'.tmps hc k2.sl hr2
    refine ⟨u,hu1,hR u A' α' w2 (MSem.trans s1 s2.step k1 (s2.sem k1.wf)) hu2 (hr2.log s2) ?_⟩
    exact hs2.weak (fun y hy=>hy.mono s2.g (Nat.le_of_eq s2.brk.symm)) fun y=>by unfold News;rw [s2.brk,s2.x]
  rcases hx2 with rfl | rfl
  · exact hfin
  · exact hfin
end
end Go.Proofs.YtceaohiahajolaaGreatDoor.VM
namespace Go.Proofs.YtceaohiahajolaaGreatDoor.VM
open Go Go.RowKit
variable {c:Cx}
theorem NR.fn_inv2 {X : Xs} {A : Nat → Prop} {α : Al} {x : Nat} {v : Value} (h : NR X A α x v) (ht : tag x = 11) : (∃ f, x = mkI 11 (2 * f + 1) ∧ v = .func (.func f) #[] #[]) ∨
    ∃ q f n1 n2 v1 v2,x=mkI 11 (2*q)∧v=.func (.func f) v1 v2∧X.clo q=⟨f,n1,n2,(X.clo q).fc,(X.clo q).cc⟩∧(X.clo q).fc<2 ^ (128*n1)∧(X.clo q).cc<2 ^ (128*n2)∧v1.size=n1∧v2.size=n2∧(∀ j,j<n1→NR X A α (cell (X.clo q).fc j) (v1.getD j undef))∧∀ j,j<n2→NR X A α (cell (X.clo q).cc j) (v2.getD j undef):=by
  rw [tag_eq] at ht
  cases h with
  | bool b=>rw [bN_eq] at ht;cases b <;> simp at ht <;> try omega
  | int=>rename_i k' p hp;rw [mkI_eq] at ht;have:=kt_odd k';omega
  | yld=>rw [mkI_eq] at ht;omega
  | ptr=>rw [mkPtr_eq] at ht;omega
  | sl=>rw [mkSl_eq] at ht;omega
  | str=>rw [mkStr_eq] at ht;omega
  | fnS=>exact .inl ⟨_,rfl,rfl⟩
  | fnC g hc hf1 hf2 h1 h2 g1 g2 o1 o2 =>
    rename_i q f n1 n2 v1 v2
    refine .inr ⟨q,f,n1,n2,v1,v2,rfl,rfl,hc,hf1,hf2,h1,h2,fun j hj=>?_,fun j hj=>?_⟩
    · have e:v1.getD j undef=g 0 j:=by rw [Array.getD_eq_getD_getElem?,g1 j (by omega)];rfl
      rw [e];exact o1 j hj
    · have e:v2.getD j undef=g 1 j:=by rw [Array.getD_eq_getD_getElem?,g2 j (by omega)];rfl
      rw [e];exact o2 j hj
  | map=>rw [mkI_eq] at ht;omega
  | ifc=>omega
  | _=>omega
theorem lor_add {a b i:Nat} (h:a<2 ^ i):a ||| b <<< i=a+2 ^ i*b:=by
 rw [Nat.or_comm,← Nat.shiftLeft_add_eq_or_of_lt h,Nat.shiftLeft_eq]
 rw [Nat.mul_comm,Nat.add_comm]
theorem pow256 (n:Nat):(256:Nat) ^ n=2 ^ (8*n):=by rw [Nat.pow_mul]
theorem sgFit_one (n:Nat):sgFit (List.replicate n .one):=fun k hk=>by rw [(List.mem_replicate.1 hk).2];decide
theorem sgFit_app {a b:List Sk} (h1:sgFit a) (h2:sgFit b):sgFit (a++b):=fun k hk=>(List.mem_append.1 hk).elim (h1 k) (h2 k)
theorem valK_eq {m : M} {x : Nat} {ks : List Sk} {C : Nat} {k : Nat → Nat → Nat → Rs} (hks : sgFit ks) (hC : C < 2 ^ (128 * ws ks)) (hok : Ok (valK m x (sgOf ks) ks.length (128 * ws ks) C k)) :
    ∃ f n1 n2 C',valK m x (sgOf ks) ks.length (128*ws ks) C k=k f (sgOf (List.replicate n1 .one++ks++List.replicate n2 .one)) C'∧tag x=11 ∧
      ∀ X A α fv args,XLe m.x X→NR X A α x fv→ArgR X A α ks C args→∃ v1 v2,fv=.func (.func f) v1 v2∧C'<2 ^ (128*ws (List.replicate n1 .one++ks++List.replicate n2 .one))∧ArgR X A α (List.replicate n1 .one++ks++List.replicate n2 .one) C' (v1++args++v2):=by
  obtain ⟨h1,hok,e1⟩:=ok_if (r:=Nat.rec (motive:=fun _=>Rs) (valC m x (sgOf ks) ks.length (128*ws ks) C k) (fun _ _=>k (Nat.shiftRight x 6) (sgOf ks) C) (Nat.mod (pay x) 2)) hok
  have h1:tag x=11:=beq_iff.1 h1
  have e0:valK m x (sgOf ks) ks.length (128*ws ks) C k=_:=e1
  rw [e0]
  have hsh:∀ p,Nat.shiftRight (mkI 11 p) 6=p / 2:=fun p=>by
    show (mkI 11 p) >>> 6=_
    rw [mkI_eq,Nat.shiftRight_eq_div_pow];omega
  have hpy:∀ p,pay (mkI 11 p)=p:=fun p=>by rw [pay_eq,mkI_eq];omega
  rcases Nat.mod_two_eq_zero_or_one (pay x) with hm | hm
  · have hm':Nat.mod (pay x) 2=0:=hm
    rw [hm'] at hok ⊢
    have hok:Ok (valC m x (sgOf ks) ks.length (128*ws ks) C k):=hok
    obtain ⟨h2,hok2,e2⟩:=ok_if (r:=Clo.rec (motive:=fun _=>Rs) (vK1 (sgOf ks) ks.length (128*ws ks) C k) (tget dClo m.x.clo (Nat.shiftRight x 6))) hok
    have h2:Nat.shiftRight x 6+1≤m.x.nc:=ble_iff.1 h2
    obtain ⟨f,n1,n2,fc,cc,hcl⟩:∃ f n1 n2 fc cc,tget dClo m.x.clo (Nat.shiftRight x 6)=⟨f,n1,n2,fc,cc⟩:=⟨_,_,_,_,_,rfl⟩
    have e3:Clo.rec (motive:=fun _=>Rs) (vK1 (sgOf ks) ks.length (128*ws ks) C k) (tget dClo m.x.clo (Nat.shiftRight x 6))=k f (sgOf (List.replicate n1 .one++ks++List.replicate n2 .one)) (Nat.lor fc (Nat.lor (Nat.shiftLeft C (Nat.shiftLeft n1 7)) (Nat.shiftLeft cc (Nat.add (Nat.shiftLeft n1 7) (128*ws ks))))):=by
      rw [hcl]
      show natK _ _=_
      rw [natK_eq]
      congr 1
      show (ones n1) ||| ((sgOf ks) <<< (Nat.shiftLeft n1 3) ||| (ones n2) <<< (Nat.shiftLeft (n1+ks.length) 3))=_
      rw [shl_eq,shl_eq,ones_eq,ones_eq,List.append_assoc,sgOf_app,sgOf_app]
      have l1:=sgOf_lt (sgFit_one n1)
      have l2:=sgOf_lt hks
      rw [pow256] at l1 l2
      rw [show (n1+ks.length)*2 ^ 3=8*ks.length+n1*2 ^ 3 by omega,Nat.shiftLeft_add,← Nat.shiftLeft_or_distrib,lor_add l2,pow256,pow256,List.length_replicate]
      rw [List.length_replicate] at l1
      rw [show n1*2 ^ 3=8*n1 by omega,lor_add l1]
    refine ⟨f,n1,n2,_,e2.trans e3,h1,fun X A α fv args hX hx ha=>?_⟩
    rcases hx.fn_inv2 h1 with ⟨f',rfl,_⟩ | ⟨q,f',n1',n2',v1,v2,rfl,hfv,hclo,hf1,hf2,hs1,hs2,o1,o2⟩
    · rw [hpy] at hm;omega
    · rw [hsh] at hcl h2
      have hq:2*q / 2=q:=by omega
      rw [hq] at hcl h2
      have hXq:=hX.clo q (by omega)
      have hcl':cloS m.x q=⟨f,n1,n2,fc,cc⟩:=hcl
      rw [hcl'] at hXq
      rw [hXq] at hclo hf1 hf2 o1 o2
      cases hclo
      refine ⟨v1,v2,hfv,?_,?_⟩
      · rw [ws_app,ws_app,ws_rep,ws_rep]
        show fc ||| (C <<< (Nat.shiftLeft n1 7) ||| cc <<< (Nat.shiftLeft n1 7+128*ws ks))<_
        rw [shl7]
        exact lor_lt (Nat.lt_of_lt_of_le hf1 (Nat.pow_le_pow_right (by decide) (by omega))) (lor_lt (shl_lt hC (by omega)) (shl_lt hf2 (by omega)))
      · have p1:ArgR X A α (List.replicate n1 .one) fc v1:=argR_ones hs1 o1
        have p2:ArgR X A α (List.replicate n2 .one) cc v2:=argR_ones hs2 o2
        have p3:=p1.app (ha.app p2 hC) (by rw [ws_rep];exact hf1)
        rw [List.append_assoc,Array.append_assoc]
        have e5:fc ||| (C ||| cc <<< (128*ws ks)) <<< (128*ws (List.replicate n1 Sk.one))=Nat.lor fc (Nat.lor (Nat.shiftLeft C (Nat.shiftLeft n1 7)) (Nat.shiftLeft cc (Nat.add (Nat.shiftLeft n1 7) (128*ws ks)))):=by
          show _=fc ||| (C <<< (Nat.shiftLeft n1 7) ||| cc <<< (Nat.shiftLeft n1 7+128*ws ks))
          rw [shl7,ws_rep,Nat.shiftLeft_or_distrib,← Nat.shiftLeft_add,Nat.add_comm (128*n1)]
        rw [e5] at p3
        exact p3
  · have hm':Nat.mod (pay x) 2=1:=hm
    rw [hm'] at hok ⊢
    refine ⟨Nat.shiftRight x 6,0,0,C,?_,h1,fun X A α fv args hX hx ha=>?_⟩
    · show k _ (sgOf ks) C=k _ (sgOf ([]++ks++[])) C
      rw [List.nil_append,List.append_nil]
    · rcases hx.fn_inv2 h1 with ⟨f',rfl,hfv⟩ | ⟨q,f',n1',n2',v1,v2,rfl,_⟩
      · refine ⟨#[],#[],?_,?_,?_⟩
        · rw [hfv,hsh]
          have:(2*f'+1) / 2=f':=by omega
          rw [this]
        · show C<2 ^ (128*ws ([]++ks++[]))
          rw [List.nil_append,List.append_nil];exact hC
        · show ArgR X A α ([]++ks++[]) C (#[]++args++#[])
          rw [List.nil_append,List.append_nil,Array.empty_append,Array.append_empty];exact ha
      · rw [hpy] at hm;omega
end Go.Proofs.YtceaohiahajolaaGreatDoor.VM
namespace Go.Proofs.YtceaohiahajolaaGreatDoor.VM
open Go Go.RowKit
variable {c:Cx}
def Takes (P:Program):List Deferred→World→World→Prop
 | [],w,w'=>w'=w
 | d :: ds,w,w'=>∃ r w1,d.target=.collected r∧(Instr.takeDeferred r).run P w=.ok [] w1∧Takes P ds w1 w'
theorem takes_steps {P:Program} {F:Fence} {n:Nat}:∀ (ds:List Deferred) (w w':World) (fr:Frame) (cs:List Frame),fr.mode≠.run→fr.defers=ds→F.fn fr.fn→F.room (cs.length+1+n)→Takes P ds w w'→StepsIn (Machine.fenced P F) P (lone fr cs w) (lone { fr with defers:=[] } cs w')
 | [],w,w',fr,cs,hm,hd,hb,hr,ht=>by
   have ht:w'=w:=ht
   subst ht
   have:{ fr with defers:=[] }=fr:=by rw [← hd]
   rw [this]
   exact StepsIn.refl _
 | d :: ds,w,w',fr,cs,hm,hd,hb,hr,⟨r,w1,htar,htk,ht⟩=>by
   have h1:=step_collected (cs:=cs) hm hd htar htk
   have i1:(lone fr cs w).fenced P F:=fenced_out hb hr hm hd (fun g hg=>by rw [htar] at hg;simp [Target.leads] at hg)
   exact StepsIn.trans (.one i1 h1) (takes_steps ds w1 w' { fr with defers:=[]++ds } cs hm rfl hb hr ht)
def bodyPostT (P:Program) (fn:Func) (R:Value→World→Prop):Exit→Act→World→Prop
 | .normal,a,w | .ret,a,w=>∃ w' v,Takes P a.defers w w'∧(results fn a.tmps).run P w'=.ok v w'∧R v w'
 | _,_,_=>False
theorem callsDIn_of_wp_marks {P : Program} {F : Fence} {n : Nat} {f : FuncId} {fn : Func} {code : Code} {args : Array Value} {u : FrameMode} {w : World} {R : Value → World → Prop} (hf : P.funcs[f]? = some fn) (hb : fn.body = some code) (hF : F.fn f)
    (h:code.wpIn F n P (bodyPostT P fn R) { tmps:=args++Array.replicate (fn.ntmps - args.size) undef,defers:=[] } w) (hro:F.round=none:=by rfl) :
    CallsDIn F n P f args u w fun e u' w'=>u'=u∧∃ v,e=.returned v∧R v w':=by
  refine ⟨hF,fun c₀ cs hu hr=>?_⟩
  let b:Frame:={ (default:Frame) with fn:=f,kind:=.deferred,roundOf:=none }
  have henter:Frame.enter P f args .deferred=b.atR { tmps:=args++Array.replicate (fn.ntmps - args.size) undef,defers:=[] } [.code code]:=by
    simp [Frame.enter,Frame.atR,hf,hb,b]
  have hc:({ c₀ with mode:=u }:Frame)=c₀:=by subst hu;rfl
  obtain ⟨e,a',w',hq,harr⟩:=h b [] (c₀ :: cs) hro.symm hF hr
  rw [← henter] at harr
  cases e with
  | normal =>
    obtain ⟨w2,v,ht,hv,hR⟩:=hq
    have s1:=takes_steps (n:=n) a'.defers w' w2 { b.atR a' [] with mode:=.returning } (c₀ :: cs) (by simp) rfl hF hr ht
    refine ⟨.returned v,u,w2,{ { b.atR a' [] with mode:=.returning } with defers:=[] },⟨rfl,v,rfl,hR⟩,?_,rfl,rfl,rfl,rfl,fn,hf,hv⟩
    rw [hc]
    exact StepsIn.trans harr (StepsIn.trans (.one (fenced_calm (fr:=b.atR a' []) hF hr rfl) (stepR_end rfl)) s1)
  | ret =>
    obtain ⟨w2,v,ht,hv,hR⟩:=hq
    obtain ⟨todo,hs⟩:=harr.1 rfl
    have s1:=takes_steps (n:=n) a'.defers w' w2 { b.atR a' todo with mode:=.returning } (c₀ :: cs) (by simp) rfl hF hr ht
    refine ⟨.returned v,u,w2,{ { b.atR a' todo with mode:=.returning } with defers:=[] },⟨rfl,v,rfl,hR⟩,?_,rfl,rfl,rfl,rfl,fn,hf,hv⟩
    rw [hc]
    exact StepsIn.trans hs s1
  | panic chain=>exact hq.elim
  | exit id=>exact hq.elim
  | goto l=>exact hq.elim
  | outgrown=>exact hq.elim
theorem take_marks {own A A' : Nat → Prop} {α α' : Al} {X : Xs} {D : Nat → Prop} {m' : M} {w0 : World} {C N : Nat → Prop} (hown : ∀ a, own a → ¬ A a)
    (hkd:∀ (a b o l:Nat),α a=some (b,o,l)→(a<mB→isC w0 b)∧(mB≤a→o=0∧l=0∧¬ isC w0 b)):∀ (ds:List Deferred) (w:World),ds.Nodup→(∀ d∈ds,MkR own A' α' w d)→Rel c.lk X 1048576 c.B D A' α' m' w→Stp c.B C N A α w0 A' α' w →
      ∃ w',Takes c.P ds w w'∧Rel c.lk X 1048576 c.B D A' α' m' w'∧Stp c.B C N A α w0 A' α' w'
  | [],w,_,_,hr,hs=>⟨w,rfl,hr,hs⟩
  | d :: ds,w,hnd,hmk,hr,hs=>by
    obtain ⟨i,r,h0,h1,h2,h3,h4⟩:=hmk d (by simp)
    have hrr:=rB_gt
    obtain ⟨w',g1,g2,g3⟩:=take_marks hown hkd ds _ (List.nodup_cons.1 hnd).2 (fun d' hd'=>by
      obtain ⟨i',r',k0,k1,k2,k3,k4⟩:=hmk d' (by simp [hd'])
      have hne:r'≠r:=fun e=>(List.nodup_cons.1 hnd).1 (by rw [h4,← e,← k4];exact hd')
      exact ⟨i',r',k0,k1,k2,by rw [putD_heap _ hne];exact k3,k4⟩) (hr.take h3) (hs.take h3 h2 (hown _ h0) hr.inj (hr.own _ _ _ _ h2 (by unfold rB;omega)) hkd)
    exact ⟨w',⟨r,_,by rw [h4],run_takeDeferred h3,g1⟩,g2,g3⟩
def DefS (c:Cx) (f:FuncId) (ks:List Sk) (C:Nat) (m:M) (m':M):Prop :=
 ∀ (F:Fence) X A α w args,(∀ f,F.fn f)→Fr0 F→XLe m'.x X→Lim m'→c.cx X→Wf m→ArgR X A α ks C args→Rel c.lk X 1048576 c.B (Cov m'.g) A α m w→(∀ x,News m m' x→¬ A x)→c.B≤w.heap.size →
   ∀ (u:FrameMode) (R:World→Prop),u=.returning→(∀ A' α' w',MSem m m'→Rel c.lk X 1048576 c.B (Cov m'.g) A' α' m' w'→Stp c.B (CovC m'.g m'.brk) (News m m') A α w A' α' w'→R w')→CallsDIn F 0 c.P f args u w fun e u' w'=>u'=u∧∃ v,e=.returned v∧R w'
section
variable {sig:FuncId→Option Sg} {nsg:Nat→Option (FuncId × Sg)} {f:FuncId} {e:Fn} {d:FnD}
theorem FnOk.runD (h : FnOk c sig nsg f e d) (hrd : c.rd = false) (hdf : d.ly.df = none) {v : Env} {n : Nat} (hv : EnvOk c sig nsg v) {C F : Nat} (hF : EntF C F) {m : M} {k : Kn} (hok : Ok (fin0 e.res k (e.body v n F m))) :
    ∃ r m',fin0 e.res k (e.body v n F m)=k r m'∧MStep m m'∧(C<2 ^ (128*ws d.s.ks)→DefS c f d.s.ks C m m'):=by
  have hx:Ok (e.body v n F m):=fun hb=>by rw [hb] at hok;exact hok rfl
  have hbody:=fun own=>h.body own v n hv F m hx
  obtain ⟨x,F',m1,e1,s1,_⟩:=hbody fun _=>True
  have hres:∃ r m',fin0 e.res k (e.body v n F m)=k r m'∧SameM m1 m'∧(x=.nrm∨x=.ret)∧∀ X A α w tmps,c.cx X→SltR d.ly d.K X A α F' tmps→Rel c.lk X 1048576 c.B (Cov m'.g) A α m1 w→∃ u,(results d.fn tmps).run c.P w=.ok u w∧SR X A α d.s.kr r u:=by
    rw [e1] at hok ⊢
    cases x with
    | nrm =>
      obtain ⟨r,m',e2,s2,g⟩:=h.res F' m1 k hok
      exact ⟨r,m',e2,s2,.inl rfl,g⟩
    | ret =>
      obtain ⟨r,m',e2,s2,g⟩:=h.res F' m1 k hok
      exact ⟨r,m',e2,s2,.inr rfl,g⟩
    | ex id=>exact absurd rfl hok
    | gt l=>exact absurd rfl hok
  obtain ⟨r,m',e2,s2,hx2,g⟩:=hres
  refine ⟨r,m',e2,s1.trans s2.step,?_⟩
  intro hC Fc X A α w args hFf hFd hX hL hc hw ha hr hn hB u R _ hR
  have hcode:CodeS c (d.ly.of fun a=>¬ A a) d.K d.K F m (exO x) F' m1 d.code:=by
    obtain ⟨x',F'',m1',e1',_,g1⟩:=hbody fun a=>¬ A a
    rw [e1] at e1'
    cases e1'
    exact g1
  have key:CallsDIn Fc.plain 0 c.P f args u w fun e u' w'=>u'=u∧∃ v,e=.returned v∧R w':=by
    refine callsDIn_of_wp_marks (R:=fun _ w'=>R w') h.hf h.hb (hFf f) ?_ rfl
    refine hcode ⟨Fc.plain,hFf,hFd,by unfold rdIn;rw [hrd];rfl⟩ X A α _ w (hX.back s2.step.x) (hL.back s2.step) hc hw (h.enter hC hF ha) (hr.sub fun y hy=>hy.mono s2.g) (fun y hy=>hn y (by unfold News at hy ⊢;rw [s2.brk,s2.x];exact hy)) hB _ fun a' A' α' w' k1 k2 k3 k4=>?_
    have hfin:∃ w2 v,Takes c.P a'.defers w' w2∧(results d.fn a'.tmps).run c.P w2=.ok v w2∧R w2:=by
      have hdfr:=k2.df
      have hdf':(d.ly.of fun a=>¬ A a).df=none:=hdf
      rw [hdf'] at hdfr
      have hr':Rel c.lk X 1048576 c.B (Cov m'.g) A' α' m1 w':=hr.frame k1 k4 k3
      obtain ⟨w2,ht,hr2,hs2⟩:=take_marks (A:=A) (α:=α) (w0:=w) (own:=fun a=>¬ A a) (fun a h=>h) hr.kd a'.defers w' hdfr.1 hdfr.2.2 hr' k4
      obtain ⟨u,hu1,hu2⟩:=g X A' α' w2 a'.tmps hc k2.sl hr2
      refine ⟨w2,u,ht,hu1,hR A' α' w2 (MSem.trans s1 s2.step k1 (s2.sem k1.wf)) (hr2.log s2) ?_⟩
      exact hs2.weak (fun y hy=>hy.mono s2.g (Nat.le_of_eq s2.brk.symm)) fun y=>by unfold News;rw [s2.brk,s2.x]
    rcases hx2 with rfl | rfl
    · exact hfin
    · exact hfin
  exact key
structure HandS (c:Cx) (sig:FuncId→Option Sg) (nsg:Nat→Option (FuncId × Sg)) (f:FuncId) (s:Sg) (w:Nat) (h:Hf):Prop where
 fit:sgFit s.ks
 rfit:rkFit s.kr
 ent:EntP c.P f
 hsg:∀ s',sig f=some s'→s'=s
 run:∀ v n C m,EnvOk c sig nsg v→C<2 ^ (128*ws s.ks)→Ok (h v n C m hEnd)→∃ r m',h v n C m hEnd=hEnd r m'∧r<2 ^ (128*w)∧MStep m m'∧CallS c f s.ks s.kr C m r m'
structure IdleS (c:Cx) (sig:FuncId→Option Sg) (f:FuncId) (ks:List Sk):Prop where
 fit:sgFit ks
 ent:EntP c.P f
 hsg:sig f=none
 run:∀ C m,C<2 ^ (128*ws ks)→DefS c f ks C m m
def TabOk (c:Cx) (sig:FuncId→Option Sg) (nsg:Nat→Option (FuncId × Sg)) (T:Tr Fn):Prop:=∀ f,tget dFn T f=dFn∨(∃ d,FnOk c sig nsg f (tget dFn T f) d∧EntP c.P f∧∀ s,sig f=some s→s=d.s) ∨
 (∃ s w h,tget dFn T f=hFn h (128*ws s.ks) w (sgOf s.ks) (rkOf s.kr)∧HandS c sig nsg f s w h) ∨
 ∃ ks,tget dFn T f=iFn (sgOf ks)∧IdleS c sig f ks
theorem HandS.call {sig : FuncId → Option Sg} {nsg : Nat → Option (FuncId × Sg)} {f : FuncId} {s : Sg} {w : Nat} {h : Hf} (hh : HandS c sig nsg f s w h) {v : Env} (hv : EnvOk c sig nsg v) {T : Tr Fn} (hT : tget dFn T f = hFn h (128 * ws s.ks) w (sgOf s.ks) (rkOf s.kr)) {n C : Nat} {m : M} {k : Kn} (hok : Ok (callS T v n f C m k)) :
    ∃ r m',callS T v n f C m k=k r m'∧MStep m m'∧(C<2 ^ (128*ws s.ks)→CallS c f s.ks s.kr C m r m'):=by
  have e0:callS T v n f C m k=Rs.rec (motive:=fun _=>Rs) .bad (end1 T v n (r_s 256 w 0) 128 k) (h v n (fld (mix (Nat.shiftLeft C 128)) 128 (128*ws s.ks)) m hEnd):=by
    have e1:callS T v n f C m k=natK (mix (Nat.shiftLeft C 128)) (callF T v n f m k):=rfl
    rw [e1,natK_eq]
    show Fn.rec (motive:=fun _=>Rs) (cs1 T v n _ m k) (tget dFn T f)=_
    rw [hT]
    show Rs.rec (motive:=fun _=>Rs) .bad (end1 T v n (r_s 256 w 0) 128 k) (natK _ _)=_
    rw [natK_eq];rfl
  have eC:fld (mix (Nat.shiftLeft C 128)) 128 (128*ws s.ks)=fld C 0 (128*ws s.ks):=entF_mix C 0 _
  rw [e0,eC] at hok ⊢
  obtain ⟨r,m',e2,hr,st,g⟩:=hh.run v n (fld C 0 (128*ws s.ks)) m hv (fld_lt _ _ _) fun hb=>by rw [hb] at hok;exact hok rfl
  refine ⟨r,m',?_,st,fun hC=>by rw [fld_all hC] at g;exact g⟩
  rw [e2]
  have hz:oS 128 (Nat.shiftLeft r 256)=0:=by
    rw [oS_eq];exact fld_shl_low (by omega)
  have e3:Rs.rec (motive:=fun _=>Rs) .bad (end1 T v n (r_s 256 w 0) 128 k) (hEnd r m')=Nat.rec (motive:=fun _=>Rs) (r_s 256 w 0 (Nat.shiftLeft r 256) m' 0 k) (fun _ _=>valK m' (oS 128 (Nat.shiftLeft r 256)) 0 0 0 0 (call0 T v n m' (en1 (Nat.shiftLeft r 256) (r_s 256 w 0) k))) (oS 128 (Nat.shiftLeft r 256)):=rfl
  rw [e3,hz]
  show natK (Nat.lor 0 (Nat.shiftLeft (fld (Nat.shiftLeft r 256) 256 (Nat.shiftLeft w 7)) 0)) (kN k m')=k r m'
  rw [natK_eq]
  have e4:fld (Nat.shiftLeft r 256) 256 (Nat.shiftLeft w 7)=r:=by
    have:Nat.shiftLeft w 7=128*w:=by show w <<< 7=_;rw [Nat.shiftLeft_eq];omega
    rw [this]
    have:=fld_shl (F:=r) (s:=256) (n:=128*w) (k:=0)
    exact this.trans (fld_all hr)
  rw [e4]
  show k (0 ||| r <<< 0) m'=_
  rw [Nat.zero_or];rfl
theorem invoke_fn {f:FuncId} (he:EntP c.P f) (v1 v2:Array Value) (w:World):(invoke (.fn (.func f) v2) v1).run c.P w=.ok (.enter f (v1++v2)) w:=he _ _
theorem FnOk.run1 (h : FnOk c sig nsg f e d) (hrd : c.rd = false) {s : Nat} (hdf : d.ly.df = some s) {T : Tr Fn} (hT : TabOk c sig nsg T) {v : Env} {n : Nat} (hv : EnvOk c sig nsg v) {C F : Nat} (hF : EntF C F) {m : M} {k : Kn}
    (hok:Ok (Rs.rec (motive:=fun _=>Rs) .bad (end1 T v n e.res s k) (e.body v n F m))) :
    ∃ r m',Rs.rec (motive:=fun _=>Rs) .bad (end1 T v n e.res s k) (e.body v n F m)=k r m'∧MStep m m'∧(C<2 ^ (128*ws d.s.ks)→CallS c f d.s.ks d.s.kr C m r m'):=by
  have hx:Ok (e.body v n F m):=fun hb=>by rw [hb] at hok;exact hok rfl
  have hbody:=fun own=>h.body own v n hv F m hx
  obtain ⟨x,F',m1,e1,s1,_⟩:=hbody fun _=>True
  have hend:(x=.nrm∨x=.ret)∧Rs.rec (motive:=fun _=>Rs) .bad (end1 T v n e.res s k) (e.body v n F m)=endS T v n e.res s k F' m1:=by
    rw [e1] at hok ⊢
    cases x with
    | nrm=>exact ⟨.inl rfl,rfl⟩
    | ret=>exact ⟨.inr rfl,rfl⟩
    | ex id=>exact absurd rfl hok
    | gt l=>exact absurd rfl hok
  obtain ⟨hx2,e2⟩:=hend
  rw [e2] at hok ⊢
  have hcode:∀ A:Nat→Prop,CodeS c (d.ly.of fun a=>¬ A a) d.K d.K F m (exO x) F' m1 d.code:=fun A=>by
    obtain ⟨x',F'',m1',e1',_,g1⟩:=hbody fun a=>¬ A a
    rw [e1] at e1'
    cases e1'
    exact g1
  have e3:endS T v n e.res s k F' m1=Nat.rec (motive:=fun _=>Rs) (e.res F' m1 0 k) (fun _ _=>valK m1 (oS s F') 0 0 0 0 (call0 T v n m1 (en1 F' e.res k))) (oS s F'):=rfl
  rw [e3] at hok ⊢
  cases hs:oS s F' with
  | zero =>
    rw [hs] at hok
    obtain ⟨r,m',e4,s2,g⟩:=h.res F' m1 k hok
    refine ⟨r,m',e4,s1.trans s2.step,?_⟩
    intro hC Fc X A α w args hFf hFd hX hL hc hw ha hr hn hB R hR
    have key:CallsIn Fc.plain 0 c.P f args w R:=by
      refine callsIn_of_wp_defers h.hf h.hb (hFf f) ?_ rfl
      refine hcode A ⟨Fc.plain,hFf,hFd,by unfold rdIn;rw [hrd];rfl⟩ X A α _ w (hX.back s2.step.x) (hL.back s2.step) hc hw (h.enter hC hF ha) (hr.sub fun y hy=>hy.mono s2.g) (fun y hy=>hn y (by unfold News at hy ⊢;rw [s2.brk,s2.x];exact hy)) hB _ fun a' A' α' w' k1 k2 k3 k4=>?_
      have hfin:LeavesIn Fc.plain 0 c.P d.fn a'.tmps R a'.defers .returning w':=by
        have hdfr:=k2.df
        have hdf':(d.ly.of fun a=>¬ A a).df=some s:=hdf
        rw [hdf'] at hdfr
        have hr':Rel c.lk X 1048576 c.B (Cov m'.g) A' α' m1 w':=hr.frame k1 k4 k3
        rcases hdfr with ⟨_,hds⟩ | ⟨h0,_⟩
        · rw [hds]
          obtain ⟨u,hu1,hu2⟩:=g X A' α' w' a'.tmps hc k2.sl hr'
          refine ⟨u,hu1,hR u A' α' w' (MSem.trans s1 s2.step k1 (s2.sem k1.wf)) hu2 (hr'.log s2) ?_⟩
          exact k4.weak (fun y hy=>hy.mono s2.g (Nat.le_of_eq s2.brk.symm)) fun y=>by unfold News;rw [s2.brk,s2.x]
        · rw [← oS_eq,hs] at h0;exact absurd rfl h0
      rcases hx2 with rfl | rfl
      · exact hfin
      · exact hfin
    exact key
  | succ q =>
    rw [hs] at hok
    have hok:Ok (valK m1 (q+1) 0 0 0 0 (call0 T v n m1 (en1 F' e.res k))):=hok
    obtain ⟨f2,n1,n2,C2,e4,htag,hval⟩:=valK_eq (ks:=[]) (C:=0) (fun k hk=>by simp at hk) (by decide) hok
    have e4:valK m1 (q+1) 0 0 0 0 (call0 T v n m1 (en1 F' e.res k))=_:=e4
    show ∃ r m',valK m1 (q+1) 0 0 0 0 (call0 T v n m1 (en1 F' e.res k))=k r m'∧_
    rw [e4] at hok ⊢
    generalize hks2:List.replicate n1 Sk.one++[]++List.replicate n2 Sk.one=ks2 at *
    rcases hT f2 with hd | ⟨d2,h2,hent,_⟩ | ⟨s2,w2,hf,hd,_⟩ | ⟨ks',hd,hi⟩
    · have e5:call0 T v n m1 (en1 F' e.res k) f2 (sgOf ks2) C2=Fn.rec (motive:=fun _=>Rs) (c01 v n (Nat.shiftLeft C2 128) m1 (en1 F' e.res k) (sgOf ks2)) (tget dFn T f2):=rfl
      rw [e5,hd] at hok
      obtain ⟨_,hok,_⟩:=ok_if hok
      exact absurd rfl hok
    · have e5 : call0 T v n m1 (en1 F' e.res k) f2 (sgOf ks2) C2 = Bool.rec (motive := fun _ => Rs) .bad (Nat.rec (motive := fun _ => Rs) (fin0 (tget dFn T f2).res (en1 F' e.res k) ((tget dFn T f2).body v n (Nat.shiftLeft C2 128) m1)) (fun _ _ => .bad) (tget dFn T f2).dfr) (Nat.beq (tget dFn T f2).sg (sgOf ks2)) := by
        rfl
      rw [e5] at hok ⊢
      obtain ⟨hsg,hok,e6⟩:=ok_if hok
      rw [e6]
      have hsg:=beq_iff.1 hsg
      have hfit2:sgFit ks2:=by rw [← hks2];exact sgFit_app (sgFit_app (sgFit_one _) (fun k hk=>by simp at hk)) (sgFit_one _)
      rw [h2.sg] at hsg
      have hkk:d2.s.ks=ks2:=sgOf_inj h2.fit hfit2 hsg
      have hdf2:d2.ly.df=none∧(tget dFn T f2).dfr=0:=by
        have:=h2.df
        cases hd2:d2.ly.df with
        | none=>rw [hd2] at this;exact ⟨rfl,this⟩
        | some s2 =>
          rw [hd2] at this
          obtain ⟨g1,g2⟩:=this
          obtain ⟨z,hz⟩:∃ z,s2=z+1:=⟨s2 - 1,by omega⟩
          rw [g1,hz] at hok
          exact absurd rfl hok
      obtain ⟨hdf2,hz2⟩:=hdf2
      rw [hz2] at hok ⊢
      have hok:Ok (fin0 (tget dFn T f2).res (en1 F' e.res k) ((tget dFn T f2).body v n (Nat.shiftLeft C2 128) m1)):=hok
      show ∃ r m',fin0 (tget dFn T f2).res (en1 F' e.res k) ((tget dFn T f2).body v n (Nat.shiftLeft C2 128) m1)=k r m'∧_
      · obtain ⟨r2,m2,e7,s2,g2⟩:=h2.runD hrd hdf2 hv (entF_shl C2) hok
        rw [e7] at hok ⊢
        have hok:Ok (e.res F' m2 0 k):=hok
        obtain ⟨r,m',e8,s3,g⟩:=h.res F' m2 k hok
        refine ⟨r,m',e8,(s1.trans s2).trans s3.step,?_⟩
        intro hC Fc X A α w args hFf hFd hX hL hc hw ha hr hn hB R hR
        have key:CallsIn Fc.plain 0 c.P f args w R:=by
          refine callsIn_of_wp_defers h.hf h.hb (hFf f) ?_ rfl
          have s23:=s2.trans s3.step
          refine hcode A ⟨Fc.plain,hFf,hFd,by unfold rdIn;rw [hrd];rfl⟩ X A α _ w (hX.back s23.x) (hL.back s23) hc hw (h.enter hC hF ha) (hr.sub fun y hy=>hy.mono s23.g) (fun y hy=>hn y (hy.mono1 s1 s23)) hB _ fun a' A' α' w' k1 k2 k3 k4=>?_
          have hfin:LeavesIn Fc.plain 0 c.P d.fn a'.tmps R a'.defers .returning w':=by
            have hdfr:=k2.df
            have hdf':(d.ly.of fun a=>¬ A a).df=some s:=hdf
            rw [hdf'] at hdfr
            have hr':Rel c.lk X 1048576 c.B (Cov m'.g) A' α' m1 w':=hr.frame k1 k4 k3
            rcases hdfr with ⟨h0,_⟩ | ⟨_,f',v1,v2,hnr,hds⟩
            · rw [← oS_eq,hs] at h0;cases h0
            · rw [← oS_eq,hs] at hnr
              rw [hds]
              obtain ⟨u1,u2,hfv,hC2,harg⟩:=hval X A' α' _ #[] (hX.back s23.x) hnr ⟨rfl,fun j k hj=>by simp at hj⟩
              cases hfv
              refine leavesIn_cons (by simp) (fun h=>absurd h (by rw [show Fc.plain.depth=Fc.depth from rfl,hFd.1];simp)) (invoke_fn hent _ _ w') (fun g _=>hFf g) ?_
              rw [← hkk] at harg hC2
              refine (g2 hC2 Fc.plain X A' α' w' (v1++#[]++v2) hFf hFd (hX.back s3.step.x) (hL.back s3.step) hc k1.wf harg (hr'.sub fun y hy=>hy.mono s3.g) (fun y hy=>?_) (Nat.le_trans hB k4.size) .returning (fun w2=>∃ u,(results d.fn a'.tmps).run c.P w2=.ok u w2∧R (.returned u) w2) rfl fun A2 α2 w2 p1 p2 p3=>?_).mono ?_
              · have hy2:=hy.mono1 s2 s3.step
                rw [k4.all]
                rintro (hA | hN)
                · exact hn y (hy2.mono2 s1 s23) hA
                · exact News.apart s1 s23 hL hN hy2
              · have hr2:Rel c.lk X 1048576 c.B (Cov m'.g) A2 α2 m2 w2:=hr'.frame p1 p3 p2
                obtain ⟨u,hu1,hu2⟩:=g X A2 α2 w2 a'.tmps hc (fun t ht=>(k2.sl t ht).mono p3.ast) hr2
                refine ⟨u,hu1,hR u A2 α2 w2 (MSem.trans (s1.trans s2) s3.step (MSem.trans s1 s2 k1 p1) (s3.sem p1.wf)) hu2 (hr2.log s3) ?_⟩
                exact (Stp.chain s1 s2 k4 p3).weak (fun y hy=>hy.mono s3.g (Nat.le_of_eq s3.brk.symm)) fun y=>by unfold News;rw [s3.brk,s3.x]
              · rintro ee u' w2 ⟨rfl,vv,rfl,u,hu1,hu2⟩
                exact ⟨u,hu1,hu2⟩
          rcases hx2 with rfl | rfl
          · exact hfin
          · exact hfin
        exact key
    · have e5:call0 T v n m1 (en1 F' e.res k) f2 (sgOf ks2) C2=Fn.rec (motive:=fun _=>Rs) (c01 v n (Nat.shiftLeft C2 128) m1 (en1 F' e.res k) (sgOf ks2)) (tget dFn T f2):=rfl
      rw [e5,hd] at hok
      obtain ⟨_,hok,_⟩:=ok_if hok
      exact absurd rfl hok
    · have e5:call0 T v n m1 (en1 F' e.res k) f2 (sgOf ks2) C2=Fn.rec (motive:=fun _=>Rs) (c01 v n (Nat.shiftLeft C2 128) m1 (en1 F' e.res k) (sgOf ks2)) (tget dFn T f2):=rfl
      rw [e5,hd] at hok ⊢
      have e6:Fn.rec (motive:=fun _=>Rs) (c01 v n (Nat.shiftLeft C2 128) m1 (en1 F' e.res k) (sgOf ks2)) (iFn (sgOf ks'))=Bool.rec (motive:=fun _=>Rs) .bad (e.res F' m1 0 k) (Nat.beq (sgOf ks') (sgOf ks2)):=rfl
      rw [e6] at hok ⊢
      obtain ⟨hsg,hok2,e7⟩:=ok_if hok
      rw [e7]
      have hfit2:sgFit ks2:=by rw [← hks2];exact sgFit_app (sgFit_app (sgFit_one _) (fun k hk=>by simp at hk)) (sgFit_one _)
      have hkk:ks'=ks2:=sgOf_inj hi.fit hfit2 (beq_iff.1 hsg)
      subst hkk
      have s2:MStep m1 m1:=⟨GLe.refl _,Nat.le_refl _,XtLe.refl _⟩
      have g2:=fun h=>hi.run C2 m1 h
      obtain ⟨r,m',e8,s3,g⟩:=h.res F' m1 k hok2
      refine ⟨r,m',e8,(s1.trans s2).trans s3.step,?_⟩
      intro hC Fc X A α w args hFf hFd hX hL hc hw ha hr hn hB R hR
      have key:CallsIn Fc.plain 0 c.P f args w R:=by
        refine callsIn_of_wp_defers h.hf h.hb (hFf f) ?_ rfl
        have s23:=s2.trans s3.step
        refine hcode A ⟨Fc.plain,hFf,hFd,by unfold rdIn;rw [hrd];rfl⟩ X A α _ w (hX.back s23.x) (hL.back s23) hc hw (h.enter hC hF ha) (hr.sub fun y hy=>hy.mono s23.g) (fun y hy=>hn y (hy.mono1 s1 s23)) hB _ fun a' A' α' w' k1 k2 k3 k4=>?_
        have hfin:LeavesIn Fc.plain 0 c.P d.fn a'.tmps R a'.defers .returning w':=by
          have hdfr:=k2.df
          have hdf':(d.ly.of fun a=>¬ A a).df=some s:=hdf
          rw [hdf'] at hdfr
          have hr':Rel c.lk X 1048576 c.B (Cov m'.g) A' α' m1 w':=hr.frame k1 k4 k3
          rcases hdfr with ⟨h0,_⟩ | ⟨_,f',v1,v2,hnr,hds⟩
          · rw [← oS_eq,hs] at h0;cases h0
          · rw [← oS_eq,hs] at hnr
            rw [hds]
            obtain ⟨u1,u2,hfv,hC2,harg⟩:=hval X A' α' _ #[] (hX.back s23.x) hnr ⟨rfl,fun j k hj=>by simp at hj⟩
            cases hfv
            refine leavesIn_cons (by simp) (fun h=>absurd h (by rw [show Fc.plain.depth=Fc.depth from rfl,hFd.1];simp)) (invoke_fn hi.ent _ _ w') (fun g _=>hFf g) ?_
            skip
            refine (g2 hC2 Fc.plain X A' α' w' (v1++#[]++v2) hFf hFd (hX.back s3.step.x) (hL.back s3.step) hc k1.wf harg (hr'.sub fun y hy=>hy.mono s3.g) (fun y hy=>?_) (Nat.le_trans hB k4.size) .returning (fun w2=>∃ u,(results d.fn a'.tmps).run c.P w2=.ok u w2∧R (.returned u) w2) rfl fun A2 α2 w2 p1 p2 p3=>?_).mono ?_
            · have hy2:=hy.mono1 s2 s3.step
              rw [k4.all]
              rintro (hA | hN)
              · exact hn y (hy2.mono2 s1 s23) hA
              · exact News.apart s1 s23 hL hN hy2
            · have hr2:Rel c.lk X 1048576 c.B (Cov m'.g) A2 α2 m1 w2:=hr'.frame p1 p3 p2
              obtain ⟨u,hu1,hu2⟩:=g X A2 α2 w2 a'.tmps hc (fun t ht=>(k2.sl t ht).mono p3.ast) hr2
              refine ⟨u,hu1,hR u A2 α2 w2 (MSem.trans (s1.trans s2) s3.step (MSem.trans s1 s2 k1 p1) (s3.sem p1.wf)) hu2 (hr2.log s3) ?_⟩
              exact (Stp.chain s1 s2 k4 p3).weak (fun y hy=>hy.mono s3.g (Nat.le_of_eq s3.brk.symm)) fun y=>by unfold News;rw [s3.brk,s3.x]
            · rintro ee u' w2 ⟨rfl,vv,rfl,u,hu1,hu2⟩
              exact ⟨u,hu1,hu2⟩
        rcases hx2 with rfl | rfl
        · exact hfin
        · exact hfin
      exact key
end
end Go.Proofs.YtceaohiahajolaaGreatDoor.VM
