/-
  The kind of a byte. No conditions.
-/
import Derived.WalkKit
import Derived.WalkSpells
import Derived.WalkLawsBesides
import Derived.Below
import Derived.Deep.RegionHeld
import Derived.Deep.Draws
import Derived.Maps.AppendAt
import Derived.Deep.DeepMust
import Derived.Lib.Hide
import Derived.ChangeMaps4
import Derived.Test.YtceaohiahajolaaGreatDoorProg
import Derived.Outline
import Derived.Lib.Strings
import Derived.Lib.Slices
import Derived.Lib.Walk
import Derived.Lib.Bytealg
import Derived.Lib.BytesEntry
import Derived.Deep.RegionWith
import Derived.Deep.RegionLaw
import Derived.Deep.RegionHeld3
import Derived.Deep.QuietTactic
import Derived.BigQuiet
import Derived.Laws.IdiomStrings
import Derived.Laws.IdiomRangeMap
set_option linter.all false
set_option linter.unusedVariables false
set_option linter.unusedSimpArgs false
namespace Go.Proofs.YtceaohiahajolaaGreatDoor
structure Tok where
 kind:Nat
 at_:Nat
 en:Nat
 text:List UInt8
 n:Nat
 deriving DecidableEq,Inhabited
structure Node where
 kind:Nat
 at_:Nat
 text:List UInt8
 n:Nat
 kids:List Nat
 deriving DecidableEq,Inhabited
structure PS where
 toks:List Tok
 nodes:List Node
 deep:Nat
inductive Res (α:Type) where
 | ok (a:α) (s:PS)
 | err (c:Nat) (s:PS)
inductive Ex where
 | leaf (kind at_:Nat) (text:List UInt8) (n:Nat)
 | un (at_:Nat) (e:Ex)
 | bin (kind at_:Nat) (a b:Ex)
def Ex.at_:Ex→Nat
 | .leaf _ a _ _=>a
 | .un a _=>a
 | .bin _ a _ _=>a
end Go.Proofs.YtceaohiahajolaaGreatDoor
namespace Go.Proofs.YtceaohiahajolaaGreatDoor
open Go Go.RowKit
structure Fr (S:Nat→Prop) (w w':World):Prop where
 os:w'.os=w.os
 output:w'.output=w.output
 size:w.heap.size≤w'.heap.size
 block:∀ k,k<w.heap.size→¬ S k→w'.heap[k]?=w.heap[k]?
namespace Fr
variable {S S':Nat→Prop} {w w1 w2:World}
theorem refl (S:Nat→Prop) (w:World):Fr S w w:=⟨rfl,rfl,Nat.le_refl _,fun _ _ _=>rfl⟩
theorem mono (h:Fr S w w1) (hs:∀ b,S b→S' b):Fr S' w w1:=⟨h.os,h.output,h.size,fun k hk hn=>h.block k hk fun h'=>hn (hs k h')⟩
theorem trans (h:Fr S w w1) (h':Fr S' w1 w2) (hs:∀ b,S' b→S b∨w.heap.size≤b):Fr S w w2 :=
 ⟨h'.os.trans h.os,h'.output.trans h.output,Nat.le_trans h.size h'.size,fun k hk hn =>
   (h'.block k (Nat.lt_of_lt_of_le hk h.size) fun h2=>by
     rcases hs k h2 with h3 | h3
     · exact hn h3
     · omega).trans (h.block k hk hn)⟩
theorem trans' (h:Fr S w w1) (h':Fr S w1 w2):Fr S w w2:=h.trans h' fun _ hb=>.inl hb
theorem alloc (h:Fr S w w1) (o:Obj):Fr S w (w1.alloc o) :=
 h.trans (S':=fun _=>False) ⟨rfl,rfl,by simp,fun k hk _=>Below.heap_alloc _ _ _ hk⟩ fun _ hb=>hb.elim
theorem drew (h:Fr S w w1):Fr S w w1.drew:=⟨h.os,h.output,h.size,h.block⟩
theorem below (h:Fr S w w1) (hb:Below w1.heap.size w1 w2):Fr S w w2 :=
 h.trans (S':=fun _=>False) ⟨hb.os,hb.output,hb.size,fun k hk _=>hb.block k hk⟩ fun _ hb=>hb.elim
theorem cell (h:Fr S w w1) {p:Addr} {v:Value} (hp:¬ S p.block) (hc:w.cell? p=some v):w1.cell? p=some v :=
 (World.cell?_of_block (h.block p.block (World.block_lt_of_cell? w p hc) hp)).trans hc
end Fr
abbrev Rdr (α:Type):=World→Nat→α→List Value→Prop
structure Good {α:Type} (k:Nat) (R:Rdr α):Prop where
 len:∀ {w B x cs},R w B x cs→cs.length=k
 keep:∀ {w w' B x cs},R w B x cs→(∀ b,b<B→w'.heap[b]?=w.heap[b]?)→R w' B x cs
 mono:∀ {w B B' x cs},R w B x cs→B≤B'→R w B' x cs
def SliceIs {α:Type} (k:Nat) (R:Rdr α) (w:World) (B:Nat) (xs:List α) (u:Value):Prop :=
 ∃ A cap,u=.slice A xs.length cap∧xs.length≤cap∧cap≤maxLen∧(xs≠[]→∃ b o,A=some ⟨b,o,none⟩∧b<B ∧
   ∀ i x,xs[i]?=some x→∃ cs,R w B x cs∧∀ j c,cs[j]?=some c→w.cell? ⟨b,o+i*k+j,none⟩=some c)
section
variable {α:Type} {k:Nat} {R:Rdr α} {w w':World} {B B':Nat} {xs:List α} {u:Value}
theorem cell_of_heap {b i:Nat} (h:w'.heap[b]?=w.heap[b]?):w'.cell? ⟨b,i,none⟩=w.cell? ⟨b,i,none⟩:=World.cell?_of_block (a:=⟨b,i,none⟩) h
theorem SliceIs.keep (hR:Good k R) (h:SliceIs k R w B xs u) (hb:∀ b,b<B→w'.heap[b]?=w.heap[b]?):SliceIs k R w' B xs u:=by
 obtain ⟨A,cap,h1,h2,h3,h4⟩:=h
 refine ⟨A,cap,h1,h2,h3,fun hne=>?_⟩
 obtain ⟨b,o,h5,h6,h7⟩:=h4 hne
 refine ⟨b,o,h5,h6,fun i x hx=>?_⟩
 obtain ⟨cs,h8,h9⟩:=h7 i x hx
 exact ⟨cs,hR.keep h8 hb,fun j c hc=>(cell_of_heap (hb b h6)).trans (h9 j c hc)⟩
theorem SliceIs.mono (hR:Good k R) (h:SliceIs k R w B xs u) (hB:B≤B'):SliceIs k R w B' xs u:=by
 obtain ⟨A,cap,h1,h2,h3,h4⟩:=h
 refine ⟨A,cap,h1,h2,h3,fun hne=>?_⟩
 obtain ⟨b,o,h5,h6,h7⟩:=h4 hne
 refine ⟨b,o,h5,by omega,fun i x hx=>?_⟩
 obtain ⟨cs,h8,h9⟩:=h7 i x hx
 exact ⟨cs,hR.mono h8 hB,h9⟩
theorem SliceIs.below (hR:Good k R) (h:SliceIs k R w B xs u) (hb:Below B w w'):SliceIs k R w' B xs u:=h.keep hR fun b h'=>hb.block b h'
end
section lists
variable {α:Type}
end lists
abbrev str (l:List UInt8):Value:=.string ⟨l.toArray⟩
section append
variable {P:Program} (w:World)
end append
end Go.Proofs.YtceaohiahajolaaGreatDoor
namespace Go.Proofs.YtceaohiahajolaaGreatDoor
open Go Go.RowKit
section
variable {P:Program} {w:World} {b:Nat} {es:Array MapEntry} {clock:Nat} {T k e:TypeId} {d:TypeDesc}
def setMap (w:World) (b:Nat) (o:Obj):World:={ w with heap:=w.heap.setIfInBounds b o }
theorem setMap_same {o:Obj} (h:b<w.heap.size):(setMap w b o).heap[b]?=some o:=by simp [setMap,h]
theorem setMap_other {o:Obj} {c:Nat} (h:c≠b):(setMap w b o).heap[c]?=w.heap[c]?:=by
 simp only [setMap,Array.getElem?_setIfInBounds]
 rw [if_neg (Ne.symm h)]
theorem Fr.setMap {S:Nat→Prop} {w w1:World} (h:Fr S w w1) {b:Nat} (hb:S b∨w.heap.size≤b) (o:Obj):Fr S w (setMap w1 b o) :=
 h.trans (S':=fun c=>c=b) ⟨rfl,rfl,by simp [Go.Proofs.YtceaohiahajolaaGreatDoor.setMap],fun _ _ hn=>setMap_other hn⟩ fun c hc=>by subst hc;exact hb
theorem key_plain (hd:d=.string∨∃ q,d=.int q) (hk:P.underlying k=some d) (em:Bool) (n:Nat) (v:Value):(Instr.checkKey em (n+1) k v).run P w=.ok () w:=by
 rcases hd with rfl | ⟨q,rfl⟩ <;> simp [Instr.checkKey,run_underlying hk,Sem.run_bind]
theorem ins_run (hb : w.heap[b]? = some (.map es clock)) (ht : P.underlying T = some (.map k e)) (hd : d = .string ∨ ∃ q, d = .int q) (hk : P.underlying k = some d) (key v : Value) (hf : Instr.findNow d key es.toList 0 = some none) :
    (Instr.mapUpdate T (.map (some b)) key v).run P w=.ok () (setMap w b (.map (es.push ⟨key,v,clock⟩) (clock+1))):=by
  have hg:(getObj b).run P w=.ok (.map es clock) w:=by simp [getObj,Sem.run,hb]
  simp only [Instr.mapUpdate,Sem.run_bind,run_underlying ht,Result.andThen_ok,hg,key_plain hd hk,Instr.findKey,run_underlying hk,hf,Sem.run_pure]
  simp [setObj,Sem.run,hb,setMap]
theorem ins_step {S : Nat → Prop} {w0 : World} (f : Fr S w0 w) (hS : S b ∨ w0.heap.size ≤ b) (hb : w.heap[b]? = some (.map es clock)) (ht : P.underlying T = some (.map k e)) (hd : d = .string ∨ ∃ q, d = .int q) (hk : P.underlying k = some d) (key v : Value) (hf : Instr.findNow d key es.toList 0 = some none) :
    ∃ w',(Instr.mapUpdate T (.map (some b)) key v).run P w=.ok () w'∧w'.heap[b]?=some (.map (es.push ⟨key,v,clock⟩) (clock+1))∧Fr S w0 w':=by
  have hl:b<w.heap.size:=by
    rcases Nat.lt_or_ge b w.heap.size with h | h
    · exact h
    · rw [Array.getElem?_eq_none h] at hb;cases hb
  exact ⟨_,ins_run hb ht hd hk key v hf,setMap_same hl,f.setMap hS _⟩
end
end Go.Proofs.YtceaohiahajolaaGreatDoor
namespace Go.Proofs.YtceaohiahajolaaGreatDoor
open Go Go.RowKit Go.Proofs
set_option maxRecDepth 100000 in
theorem indexByteString_c (s : ByteArray) (c : Int) (w : World) :
    Calls Tryz.prog 248 #[.string s,.int .u8 c] w fun e w'=>e=.returned (.int .i64 (Lib.indexByte s.data.toList c.toNat.toUInt8))∧w'=w:=by
  go_enter Tryz.func248,Tryz.ntmps248
  go_wp2
  rw [run_callFunc_extern Tryz.func303 (by kernel_rfl) (by kernel_rfl) (by kernel_rfl) (e:=Extern.BytealgIndexByte.indexByte) (by kernel_rfl),Lib.run_indexByteString]
  simp only [Result.andThen]
  rw [Oper.upon_value]
  go_wp2
  go_ret
  exact ⟨rfl,rfl⟩
set_option maxRecDepth 100000 in
theorem indexByteS_c (s : ByteArray) (c : Int) (w : World) :
    Calls Tryz.prog 182 #[.string s,.int .u8 c] w fun e w'=>e=.returned (.int .i64 (Lib.indexByte s.data.toList c.toNat.toUInt8))∧w'=w:=by
  go_enter Tryz.func182,Tryz.ntmps182
  go_wp2_with (go_at_call 248;refine (indexByteString_c _ _ _).mono ?_;rintro e w' ⟨rfl,rfl⟩)
  go_ret
  exact ⟨rfl,rfl⟩
end Go.Proofs.YtceaohiahajolaaGreatDoor
namespace Go.Proofs.YtceaohiahajolaaGreatDoor
open Go Go.RowKit Go.Proofs
attribute [local go_sem] World.cell?_alloc_some
structure LI (w:World) (rb:Nat) (b o cap:Nat) (src:List UInt8) (at_:Nat):Prop where
 blk:w.heap[rb]?=some (.cells #[.slice (some ⟨b,o,none⟩) src.length cap,.int .i64 (at_:Int)] 216 (0,0))
 ne:b≠rb
 lt:b<w.heap.size
 le:src.length≤cap
 max:cap≤maxLen
 by_:∀ i c,src[i]?=some c→w.cell? ⟨b,o+i,none⟩=some (.int .u8 (c.toNat:Int))
 at_:at_≤src.length
section
variable {w:World} {rb b o cap at_:Nat} {src:List UInt8}
theorem has_index (l:List UInt8) (c:UInt8):(Lib.indexByte l c ≥ 0)↔l.contains c=true:=by
 induction l with
 | nil=>simp [Lib.indexByte]
 | cons a l ih =>
   have:=Lib.indexByte_ge l c
   unfold Lib.indexByte
   by_cases h:a=c
   · subst h;simp
   · rw [if_neg (by simpa using h)]
     have hc:(a :: l).contains c=l.contains c:=by simp [Ne.symm h]
     rw [hc,← ih]
     split
     · rename_i h1
       have:Lib.indexByte l c=-1:=by simpa using h1
       omega
     · rename_i h1
       have:¬ Lib.indexByte l c=-1:=by simpa using h1
       omega
end
end Go.Proofs.YtceaohiahajolaaGreatDoor
namespace Go.Proofs.YtceaohiahajolaaGreatDoor
open Go Go.RowKit Go.Proofs
attribute [local go_sem] World.cell?_alloc_some
section
variable {w:World} {rb b o cap at_:Nat} {src:List UInt8}
end
end Go.Proofs.YtceaohiahajolaaGreatDoor
namespace Go.Proofs.YtceaohiahajolaaGreatDoor
open Go Go.RowKit Go.Proofs
attribute [local go_sem] World.cell?_alloc_some
end Go.Proofs.YtceaohiahajolaaGreatDoor
namespace Go.Proofs.YtceaohiahajolaaGreatDoor
open Go Go.RowKit Go.Proofs
attribute [local go_sem] World.cell?_alloc_some
def lettersL:List UInt8:=[97,98,99,100,101,102,103,104,105,106,107,108,109,110,111,112,113,114,115,116,117,118,119,120,121,122]
def digitsL:List UInt8:=[48,49,50,51,52,53,54,55,56,57]
def marksL:List UInt8:=[123,125,40,41,91,93,59,44,46,43,45,42,60,61]
def kindB (c:UInt8):Nat:=if lettersL.contains c then 1 else if digitsL.contains c then 2 else if marksL.contains c then 3 else 0
def kindEs:Array MapEntry:=#[⟨.int .u8 1,str lettersL,0⟩,⟨.int .u8 2,str digitsL,1⟩,⟨.int .u8 3,str marksL,2⟩]
theorem far_of (a b:List UInt8) (h:(a.all fun x=>!b.contains x)=true) (c:UInt8) (hc:a.contains c=true):b.contains c=false:=by
 have:=List.all_eq_true.1 h c (by simpa using hc)
 simpa using this
theorem kind_of {c:UInt8} {e:MapEntry} (he:e∈kindEs.toList):∃ (k:Nat) (l:List UInt8),e.key=.int .u8 (k:Int)∧e.val=str l∧(l.contains c=true→kindB c=k):=by
 simp only [kindEs,List.mem_cons,List.not_mem_nil,or_false] at he
 rcases he with rfl | rfl | rfl
 · exact ⟨1,lettersL,rfl,rfl,fun h=>by unfold kindB;rw [if_pos h]⟩
 · refine ⟨2,digitsL,rfl,rfl,fun h=>?_⟩
   have h1:lettersL.contains c=false:=(far_of digitsL lettersL (by decide) c h)
   unfold kindB;rw [if_neg (by rw [h1];decide),if_pos h]
 · refine ⟨3,marksL,rfl,rfl,fun h=>?_⟩
   have h1:lettersL.contains c=false:=(far_of marksL lettersL (by decide) c h)
   have h2:digitsL.contains c=false:=(far_of marksL digitsL (by decide) c h)
   unfold kindB;rw [if_neg (by rw [h1];decide),if_neg (by rw [h2];decide),if_pos h]
theorem kind_none {c:UInt8} (h:∀ e∈kindEs.toList,∀ l,e.val=str l→l.contains c=false):kindB c=0:=by
 have h1:=h ⟨.int .u8 1,str lettersL,0⟩ (by simp [kindEs]) lettersL rfl
 have h2:=h ⟨.int .u8 2,str digitsL,1⟩ (by simp [kindEs]) digitsL rfl
 have h3:=h ⟨.int .u8 3,str marksL,2⟩ (by simp [kindEs]) marksL rfl
 unfold kindB
 rw [if_neg (by rw [h1];decide),if_neg (by rw [h2];decide),if_neg (by rw [h3];decide)]
theorem left_of {es:Array MapEntry} {seen:Array Nat} (h:(leftOf es seen).size=0) {e:MapEntry} (he:e∈es.toList):seen.contains e.born=true:=by
 cases hs:seen.contains e.born with
 | true=>rfl
 | false =>
   have:e∈leftOf es seen:=by
     unfold leftOf
     rw [Array.mem_filter]
     exact ⟨by simpa using he,by simp only [hs,Bool.not_false]⟩
   rw [Array.size_eq_zero_iff.1 h] at this
   simp at this
set_option maxRecDepth 1000000 in
set_option maxHeartbeats 4000000 in
theorem kind_c (c : UInt8) (w : World) :
    Calls Tryz.prog 181 #[.int .u8 (c.toNat:Int)] w fun e w'=>e=.returned (.int .u8 (kindB c:Int))∧Fr (fun _=>False) w w':=by
  have hmm:=@run_makeMap Tryz.prog
  have f0:Fr (fun _=>False) w (w.alloc (.map #[] 0)):=(Fr.refl _ w).alloc _
  have hb0:(w.alloc (.map #[] 0)).heap[w.heap.size]?=some (.map #[] 0):=heap_alloc_new w _
  obtain ⟨W1,hr1,hb1,f1⟩:=ins_step f0 (.inr (Nat.le_refl _)) hb0 Tryz.underlying282 (.inr ⟨.u8,rfl⟩) Tryz.underlying5 (.int .u8 1) (str lettersL) (by rfl)
  obtain ⟨W2,hr2,hb2,f2⟩:=ins_step f1 (.inr (Nat.le_refl _)) hb1 Tryz.underlying282 (.inr ⟨.u8,rfl⟩) Tryz.underlying5 (.int .u8 2) (str digitsL) (by rfl)
  obtain ⟨W3,hr3,hb3,f3⟩:=ins_step f2 (.inr (Nat.le_refl _)) hb2 Tryz.underlying282 (.inr ⟨.u8,rfl⟩) Tryz.underlying5 (.int .u8 3) (str marksL) (by rfl)
  have hb:W3.heap[w.heap.size]?=some (.map kindEs 3):=hb3
  have hst:MapKept.Stamped kindEs 3:=⟨by simp [kindEs],by simp [kindEs],by simp [kindEs]⟩
  clear hb0 hb1 hb2 hb3 f0 f1 f2
  have hrg:=run_range_map (P:=Tryz.prog) W3 282 5 9 w.heap.size kindEs 3 Tryz.underlying282 hb
  have hix:=fun (s:ByteArray) w=>indexByteS_c s (c.toNat:Int) w
  unfold lettersL at hr1
  unfold digitsL at hr2
  unfold marksL at hr3
  go_enter Tryz.func181,Tryz.ntmps181
  go_wp2_with fail
  go_loopw [] (fun wr=>∃ (w1:World) (seen:Array Nat),w1.Alike W3∧wr=w1.alloc (.mapIter (some w.heap.size) 3 seen 3)∧∀ e∈kindEs.toList,seen.contains e.born=true→∀ l,e.val=str l→l.contains c=false) (fun wr=>(leftOf kindEs (wr.iterSeen W3.heap.size)).size)
  case atStart=>exact ⟨W3,#[],⟨rfl,rfl,rfl⟩,rfl,fun e _ h=>by simp at h⟩
  case round =>
    obtain ⟨w1,seen,hal,rfl,hsn⟩:=hrel
    have hsz:w1.heap.size=W3.heap.size:=by rw [hal.1]
    have hb1:w1.heap[w.heap.size]?=some (.map kindEs 3):=by rw [hal.1];exact hb
    have fal:∀ (w2:World) o,w2.Alike W3→Fr (fun _=>False) w (w2.alloc o):=fun w2 o h=>(f3.trans' (w2:=w2) ⟨h.2.1,h.2.2,by rw [h.1];exact Nat.le_refl _,fun k _ _=>by rw [h.1]⟩).alloc o
    have law:=run_next_map (P:=Tryz.prog) w1 0 w.heap.size 3 3 seen kindEs 3 hb1 hst.1 (Nat.le_refl _)
    rw [hsz] at law
    rcases law with ⟨h0,hrun⟩ | ⟨e,he,w2,hal2,hrun⟩
    · have hnx:∀ ty,(Instr.next (.pointer (some ⟨W3.heap.size,0,none⟩)) false ty).run Tryz.prog (w1.alloc (.mapIter (some w.heap.size) 3 seen 3))=_:=fun _=>hrun
      have hk0:=Lib.hid (kind_none (c:=c) (fun e he l hl=>hsn e he (left_of h0 he) l hl))
      clear hsn hrun hrg
      go_wp2_with fail
      go_ret
      rw [hk0.out]
      exact ⟨rfl,fal _ _ hal⟩
    · obtain ⟨he1,he2⟩:=mem_left he
      obtain ⟨k,l,hke,hve,hkl⟩:=kind_of (c:=c) he1
      rw [hke,hve] at hrun
      have hnx:∀ ty,(Instr.next (.pointer (some ⟨W3.heap.size,0,none⟩)) false ty).run Tryz.prog (w1.alloc (.mapIter (some w.heap.size) 3 seen 3))=_:=fun _=>hrun
      have hsz2:w2.heap.size=W3.heap.size:=by rw [hal2.1,hal.1]
      have hb2:w2.heap[w.heap.size]?=some (.map kindEs 3):=by rw [hal2.1];exact hb1
      have hen:=run_entry_map (P:=Tryz.prog) w2 w.heap.size 3 seen kindEs 3 e hb2 he1 hst.2.1
      rw [hsz2,hke,hve] at hen
      have hal3:w2.Alike W3:=⟨hal2.1.trans hal.1,hal2.2.1.trans hal.2.1,hal2.2.2.trans hal.2.2⟩
      have hixl:=hix ⟨l.toArray⟩
      cases hcon:l.contains c with
      | true =>
        have hd:decide (0≤Lib.indexByte l c)=true:=decide_eq_true ((has_index l c).2 hcon)
        have hk1:=Lib.hid (hkl hcon)
        have hd':0≤Lib.indexByte l c:=(has_index l c).2 hcon
        clear hsn hrun hrg hkl hcon hix
        go_wp2_with fail
        refine (hixl _).mono ?_
        rintro x w4 ⟨rfl,rfl⟩
        go_wp2_with fail
        go_ret
        rw [hk1.out]
        exact ⟨rfl,fal _ _ hal3⟩
      | false =>
        have hd':¬ 0≤Lib.indexByte l c:=fun h=>by
          have:=(has_index l c).1 h
          rw [hcon] at this;cases this
        have hd'':Lib.indexByte l c<0:=by omega
        have hsn2:∀ e'∈kindEs.toList,(seen.push e.born).contains e'.born=true→∀ l',e'.val=str l'→l'.contains c=false:=by
          intro e' he' hs' l' hl'
          by_cases hb':seen.contains e'.born=true
          · exact hsn e' he' hb' l' hl'
          · have hee : e'.born = e.born := by
              simp only [Array.contains_push,Bool.or_eq_true,beq_iff_eq] at hs'
              rcases hs' with h | h
              · exact absurd h hb'
              · exact h
            have:e'=e:=by
              simp only [kindEs,List.mem_cons,List.not_mem_nil,or_false] at he' he1
              rcases he' with rfl | rfl | rfl <;> rcases he1 with rfl | rfl | rfl <;> simp_all
            subst this
            rw [hve] at hl'
            have:l'=l:=by simpa using hl'.symm
            rw [this];exact hcon
        have hshr:=left_shrinks kindEs seen e he
        have hsn2:=Lib.hid hsn2
        clear hsn hrun hrg hkl hcon hix
        go_wp2_with fail
        refine (hixl _).mono ?_
        rintro x w4 ⟨rfl,rfl⟩
        go_wp2_with fail
        go_roundw
        case rel=>exact ⟨w2,seen.push e.born,hal3,rfl,hsn2.out⟩
        case measure =>
          rw [← hsz2,World.iterSeen_alloc,hsz2,← hsz,World.iterSeen_alloc]
          exact hshr
end Go.Proofs.YtceaohiahajolaaGreatDoor
