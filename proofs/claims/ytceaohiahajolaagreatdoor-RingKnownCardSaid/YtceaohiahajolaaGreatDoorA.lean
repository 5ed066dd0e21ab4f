/-
  A machine of numbers, that the kernel runs; strings and constants of the program. No conditions.
-/

namespace Go.Proofs.YtceaohiahajolaaGreatDoor.VM
set_option linter.unusedVariables false
noncomputable section
def natK {β:Type} (n:Nat) (k:Nat→β):β:=Nat.rec (k 0) (fun n _=>k (Nat.succ n)) n
def cnd (b:Bool) (x y:Nat):Nat:=Bool.rec y x b
def fld (F s n:Nat):Nat:=Nat.mod (Nat.shiftRight F s) (Nat.pow 2 n)
def mix (G:Nat):Nat:=Nat.xor G (Nat.mod G 18446744073709551557)
def puc (F s n v:Nat):Nat:=Nat.xor F (Nat.shiftLeft (Nat.xor (Nat.mod (Nat.shiftRight F s) (Nat.pow 2 n)) v) s)
def put (F s n v:Nat):Nat:=mix (Nat.xor F (Nat.shiftLeft (Nat.xor (Nat.mod (Nat.shiftRight F s) (Nat.pow 2 n)) v) s))
def put1 (F s v:Nat):Nat:=mix (Nat.xor F (Nat.shiftLeft (Nat.xor (Nat.mod (Nat.shiftRight F s) 340282366920938463463374607431768211456) v) s))
def bAnd (a b:Bool):Bool:=Bool.rec false b a
def bOr (a b:Bool):Bool:=Bool.rec b true a
def bNot (a:Bool):Bool:=Bool.rec true false a
def bN (b:Bool):Nat:=Bool.rec 3 35 b
inductive Tr (α:Type) | nil | node (l:Tr α) (x:α) (r:Tr α)
def tget {α:Type} (d:α) (t:Tr α):Nat→α :=
  Tr.rec (fun _=>d) (fun _ x _ gl gr n=>Nat.rec x (fun m _=>Nat.rec (gl (Nat.div m 2)) (fun _ _=>gr (Nat.div m 2)) (Nat.mod m 2)) n) t
def tput {α β:Type} (d v:α) (f:Nat):Nat→Tr α→(Tr α→β)→β :=
  Nat.rec (fun _ t k=>k t)
    (fun _ ih n t k=>Nat.rec (Tr.rec (k (.node .nil v .nil)) (fun l _ r _ _=>k (.node l v r)) t)
      (fun m _=>Nat.rec (Tr.rec (ih (Nat.div m 2) .nil fun l=>k (.node l d .nil)) (fun l x r _ _=>ih (Nat.div m 2) l fun l=>k (.node l x r)) t)
        (fun _ _=>Tr.rec (ih (Nat.div m 2) .nil fun r=>k (.node .nil d r)) (fun l x r _ _=>ih (Nat.div m 2) r fun r=>k (.node l x r)) t) (Nat.mod m 2)) n) f
inductive Ex | nrm | ret | ex (id:Nat) | gt (l:Nat)
structure Clo where
  f:Nat
  n1:Nat
  n2:Nat
  fc:Nat
  cc:Nat
inductive Ml | nil | cons (k v born:Nat) (r:Ml)
structure Mp where
  kd:Nat
  es:Ml
  clock:Nat
structure Lp where
  no:Nat
  F:Nat
  st:Nat
  pend:Ex
structure Xt where
  ns:Nat
  str:Tr Nat
  nc:Nat
  clo:Tr Clo
  nm:Nat
  mp:Tr Mp
  nl:Nat
  lp:Tr Lp
structure Lo where
  wm:Nat
  rl:List Nat
  wl:List Nat
structure M where
  brk:Nat
  cur:Nat
  pg:Tr Nat
  x:Xt
  g:Lo
inductive Rs | bad | ok (e:Ex) (F:Nat) (m:M)
abbrev Kn:=Nat→M→Rs
def pgOf (a:Nat):Nat:=Nat.shiftRight a 20
def pOff (a:Nat):Nat:=Nat.shiftLeft (Nat.mod a 1048576) 7
def page (m:M) (a:Nat):Nat:=cnd (Nat.beq (pgOf a) (pgOf m.brk)) m.cur (tget 0 m.pg (pgOf a))
def rd (m:M) (a n:Nat):Nat:=fld (page m a) (pOff a) (Nat.shiftLeft n 7)
def flags (n:Nat):Nat:=Nat.div (Nat.sub (Nat.pow 2 (Nat.shiftLeft n 7)) 1) 340282366920938463463374607431768211455
def live (x n:Nat):Bool:=Nat.beq (Nat.land x (flags n)) (flags n)
def ent (a n:Nat):Nat:=Nat.add a (Nat.shiftLeft n 48)
def setL (k:M→Rs) (l:Lo) (brk cur:Nat) (pg:Tr Nat) (x:Xt) (_g:Lo):Rs:=k ⟨brk,cur,pg,x,l⟩
def rl1 (e:Nat) (m:M) (k:M→Rs) (wm:Nat) (rl wl:List Nat):Rs:=M.rec (setL k ⟨wm,e :: rl,wl⟩) m
def wl1 (e:Nat) (m:M) (k:M→Rs) (wm:Nat) (rl wl:List Nat):Rs:=M.rec (setL k ⟨wm,rl,e :: wl⟩) m
def log0 (m:M) (k:M→Rs):Rs:=k m
def rlg (e:Nat) (m:M) (k:M→Rs):Rs:=Lo.rec (rl1 e m k) m.g
def wlg (e:Nat) (m:M) (k:M→Rs):Rs:=Lo.rec (wl1 e m k) m.g
def rlog (m:M) (a n:Nat) (k:M→Rs):Rs:=Bool.rec (log0 m k) (rlg (ent a n) m k) (Nat.ble (Nat.succ a) m.g.wm)
def wlog (m:M) (a n:Nat) (k:M→Rs):Rs:=Bool.rec (log0 m k) (wlg (ent a n) m k) (Nat.ble (Nat.succ a) m.g.wm)
def wPg (k:M→Rs) (t:Tr Nat) (brk cur:Nat) (_pg:Tr Nat) (x:Xt) (g:Lo):Rs:=k ⟨brk,cur,t,x,g⟩
def withPg (m:M) (k:M→Rs) (t:Tr Nat):Rs:=M.rec (wPg k t) m
def wCur (k:M→Rs) (c brk _cur:Nat) (pg:Tr Nat) (x:Xt) (g:Lo):Rs:=k ⟨brk,c,pg,x,g⟩
def withCur (m:M) (k:M→Rs) (c:Nat):Rs:=M.rec (wCur k c) m
def wrT1 (m:M) (a:Nat) (k:M→Rs) (p:Nat):Rs:=tput 0 p 40 (pgOf a) m.pg (withPg m k)
def wrT (m:M) (a n v:Nat) (k:M→Rs):Rs:=natK (put (tget 0 m.pg (pgOf a)) (pOff a) (Nat.shiftLeft n 7) v) (wrT1 m a k)
def wrC (m:M) (a n v:Nat) (k:M→Rs):Rs:=natK (put m.cur (pOff a) (Nat.shiftLeft n 7) v) (withCur m k)
def wr (m:M) (a n v:Nat) (k:M→Rs):Rs:=Bool.rec (wrT m a n v k) (wrC m a n v k) (Nat.beq (pgOf a) (pgOf m.brk))
def alcP4 (v a:Nat) (k:Kn) (t:Tr Nat) (b _brk _cur:Nat) (_pg:Tr Nat) (x:Xt) (g:Lo):Rs:=k a ⟨b,mix (Nat.shiftLeft v 128),t,x,g⟩
def alcP3 (m:M) (v a:Nat) (k:Kn) (t:Tr Nat) (b:Nat):Rs:=M.rec (alcP4 v a k t b) m
def alcP2 (m:M) (n v:Nat) (k:Kn) (a:Nat) (t:Tr Nat):Rs:=natK (Nat.add a n) (alcP3 m v a k t)
def alcP1 (m:M) (n v:Nat) (k:Kn) (a:Nat):Rs:=tput 0 m.cur 40 (pgOf m.brk) m.pg (alcP2 m n v k a)
def alcP0 (m:M) (n v:Nat) (k:Kn):Rs:=natK (Nat.succ (Nat.shiftLeft (Nat.succ (pgOf m.brk)) 20)) (alcP1 m n v k)
def alcP (m:M) (n v:Nat) (k:Kn):Rs:=Bool.rec .bad (alcP0 m n v k) (bAnd (Nat.ble n 1048574) (Nat.ble m.brk 70368744177664))
def alcC3 (k:Kn) (c b brk _cur:Nat) (pg:Tr Nat) (x:Xt) (g:Lo):Rs:=k brk ⟨b,c,pg,x,g⟩
def alcC2 (m:M) (k:Kn) (c b:Nat):Rs:=M.rec (alcC3 k c b) m
def alcC1 (m:M) (n:Nat) (k:Kn) (c:Nat):Rs:=natK (Nat.add m.brk n) (alcC2 m k c)
def alcC (m:M) (n v:Nat) (k:Kn):Rs:=natK (mix (Nat.lor m.cur (Nat.shiftLeft v (pOff m.brk)))) (alcC1 m n k)
def alc (m:M) (n v:Nat) (k:Kn):Rs:=Bool.rec (alcP m n v k) (alcC m n v k) (Nat.ble (Nat.add (Nat.mod m.brk 1048576) n) 256)
def mkPtr (a n:Nat):Nat:=Nat.add 5 (Nat.shiftLeft (Nat.add a (Nat.shiftLeft n 48)) 5)
def mkSl (k ex a len cap:Nat):Nat:=Nat.add 7 (Nat.shiftLeft (Nat.add k (Nat.shiftLeft (Nat.add ex (Nat.shiftLeft (Nat.add a (Nat.shiftLeft (Nat.add len (Nat.shiftLeft cap 24)) 48)) 1)) 8)) 5)
def slA (c:Nat):Nat:=Nat.mod (Nat.shiftRight c 14) 281474976710656
def slLen (c:Nat):Nat:=Nat.mod (Nat.shiftRight c 62) 16777216
def slCap (c:Nat):Nat:=Nat.shiftRight c 86
def slEx (c:Nat):Nat:=Nat.mod (Nat.shiftRight c 13) 2
def isSl (k c:Nat):Bool:=Nat.beq (Nat.mod c 8192) (Nat.add 7 (Nat.shiftLeft k 5))
def mkStr (sid len:Nat):Nat:=Nat.add 9 (Nat.shiftLeft (Nat.add sid (Nat.shiftLeft len 40)) 5)
def stId (c:Nat):Nat:=Nat.mod (Nat.shiftRight c 5) 1099511627776
def stLen (c:Nat):Nat:=Nat.shiftRight c 45
def mkI (t p:Nat):Nat:=Nat.add t (Nat.shiftLeft p 5)
def pay (c:Nat):Nat:=Nat.shiftRight c 5
def tag (c:Nat):Nat:=Nat.mod c 32
abbrev O:=Nat→Nat
def oS (s:Nat):O:=fun F=>Nat.mod (Nat.shiftRight F s) 340282366920938463463374607431768211456
def oW (s n:Nat):O:=fun F=>Nat.mod (Nat.shiftRight F s) (Nat.pow 2 n)
def oK (c:Nat):O:=fun _=>c
def ca0:O:=fun _=>0
def ca1 (s:Nat) (x:O) (r:O):O:=fun F=>Nat.lor (Nat.shiftLeft (x F) s) (r F)
def fl0 (z:Nat):O:=fun _=>z
def fl1 (s n:Nat) (x:O) (r:O):O:=fun F=>puc (r F) s n (x F)
def two (t:Nat) (X Y r:Nat):Nat:=cnd (Nat.beq (tag X) t) (cnd (Nat.beq (tag Y) t) r 0) 0
def ord (md hf:Nat) (c:Nat):Nat:=Nat.mod (Nat.add (pay c) hf) md
def idxN (c:Nat):Nat:=cnd (bOr (Nat.beq (tag c) 23) (bOr (Nat.beq (tag c) 25) (Nat.beq (tag c) 31))) (pay c) 36893488147419103232
def p_add (t md:Nat) (x y:O):O:=fun F=>two t (x F) (y F) (mkI t (Nat.mod (Nat.add (pay (x F)) (pay (y F))) md))
def p_sub (t md:Nat) (x y:O):O:=fun F=>two t (x F) (y F) (mkI t (Nat.mod (Nat.sub (Nat.add (pay (x F)) md) (pay (y F))) md))
def p_mul (t md:Nat) (x y:O):O:=fun F=>two t (x F) (y F) (mkI t (Nat.mod (Nat.mul (pay (x F)) (pay (y F))) md))
def p_and (t:Nat) (x y:O):O:=fun F=>two t (x F) (y F) (mkI t (Nat.land (pay (x F)) (pay (y F))))
def p_or (t:Nat) (x y:O):O:=fun F=>two t (x F) (y F) (mkI t (Nat.lor (pay (x F)) (pay (y F))))
def p_xor (t:Nat) (x y:O):O:=fun F=>two t (x F) (y F) (mkI t (Nat.xor (pay (x F)) (pay (y F))))
def p_andn (t md:Nat) (x y:O):O:=fun F=>two t (x F) (y F) (mkI t (Nat.land (pay (x F)) (Nat.xor (pay (y F)) (Nat.pred md))))
def dvOk (hf X Y:Nat):Bool:=bAnd (Nat.ble 1 (pay Y)) (bAnd (Nat.ble (Nat.succ (pay X)) hf) (Nat.ble (Nat.succ (pay Y)) hf))
def p_quo (t hf:Nat) (x y:O):O:=fun F=>two t (x F) (y F) (cnd (dvOk hf (x F) (y F)) (mkI t (Nat.div (pay (x F)) (pay (y F)))) 0)
def p_rem (t hf:Nat) (x y:O):O:=fun F=>two t (x F) (y F) (cnd (dvOk hf (x F) (y F)) (mkI t (Nat.mod (pay (x F)) (pay (y F)))) 0)
def p_shl (t md:Nat) (x y:O):O:=fun F=>cnd (bAnd (Nat.beq (tag (x F)) t) (Nat.ble (idxN (y F)) 63)) (mkI t (Nat.mod (Nat.shiftLeft (pay (x F)) (pay (y F))) md)) 0
def p_shr (t hf:Nat) (x y:O):O:=fun F=>cnd (bAnd (Nat.beq (tag (x F)) t) (bAnd (Nat.ble (Nat.succ (pay (x F))) hf) (Nat.ble (idxN (y F)) 63))) (mkI t (Nat.shiftRight (pay (x F)) (pay (y F)))) 0
def p_lss (t md hf:Nat) (x y:O):O:=fun F=>two t (x F) (y F) (bN (Nat.ble (Nat.succ (ord md hf (x F))) (ord md hf (y F))))
def p_leq (t md hf:Nat) (x y:O):O:=fun F=>two t (x F) (y F) (bN (Nat.ble (ord md hf (x F)) (ord md hf (y F))))
def eqP (mk pat X Y r:Nat):Nat:=cnd (Nat.beq (Nat.land X mk) pat) (cnd (Nat.beq (Nat.land Y mk) pat) r 0) 0
def p_eq (mk pat:Nat) (x y:O):O:=fun F=>eqP mk pat (x F) (y F) (bN (Nat.beq (x F) (y F)))
def p_ne (mk pat:Nat) (x y:O):O:=fun F=>eqP mk pat (x F) (y F) (bN (bNot (Nat.beq (x F) (y F))))
def p_isn (nil t:Nat) (x:O):O:=fun F=>cnd (Nat.beq (x F) nil) 35 (cnd (Nat.beq (tag (x F)) t) 3 0)
def p_non (nil t:Nat) (x:O):O:=fun F=>cnd (Nat.beq (x F) nil) 3 (cnd (Nat.beq (tag (x F)) t) 35 0)
def p_not (x:O):O:=fun F=>cnd (Nat.beq (x F) 3) 35 (cnd (Nat.beq (x F) 35) 3 0)
def p_neg (t md:Nat) (x:O):O:=fun F=>cnd (Nat.beq (tag (x F)) t) (mkI t (Nat.mod (Nat.sub md (pay (x F))) md)) 0
def p_cv (t1 hf1 sh t2 md2:Nat) (x:O):O:=fun F=>cnd (Nat.beq (tag (x F)) t1) (mkI t2 (Nat.mod (Nat.add (pay (x F)) (cnd (Nat.ble hf1 (pay (x F))) sh 0)) md2)) 0
def ptA (p:Nat):Nat:=Nat.mod (Nat.shiftRight p 5) 281474976710656
def ptN (p:Nat):Nat:=Nat.shiftRight p 53
def isPt (n p:Nat):Bool:=bAnd (Nat.beq (tag p) 5) (Nat.ble n (ptN p))
def p_fa (off n:Nat) (x:O):O:=fun F=>cnd (isPt (Nat.add off n) (x F)) (mkPtr (Nat.add (ptA (x F)) off) n) 0
def p_ia (k:Nat) (x i:O):O:=fun F=>cnd (bAnd (isSl k (x F)) (Nat.ble (Nat.succ (idxN (i F))) (slLen (x F)))) (mkPtr (Nat.add (slA (x F)) (Nat.mul (pay (i F)) k)) k) 0
def p_iaa (len k:Nat) (x i:O):O:=fun F=>cnd (bAnd (isPt (Nat.mul len k) (x F)) (Nat.ble (Nat.succ (idxN (i F))) len)) (mkPtr (Nat.add (ptA (x F)) (Nat.mul (pay (i F)) k)) k) 0
def p_len (x:O):O:=fun F=>cnd (Nat.beq (x F) 33) 23 (cnd (Nat.beq (tag (x F)) 7) (mkI 23 (slLen (x F))) 0)
def p_sln (x:O):O:=fun F=>cnd (bAnd (Nat.beq (tag (x F)) 9) (Nat.ble (stLen (x F)) 1099511627775)) (mkI 23 (stLen (x F))) 0
def odd (c:Nat):Bool:=Nat.beq (Nat.mod c 2) 1
def p_prt (s n:Nat) (x:O):O:=fun F=>cnd (odd (x F)) (fld (x F) s n) 0
def p_ixa (len k:Nat) (x i:O):O:=fun F=>cnd (bAnd (odd (x F)) (Nat.ble (Nat.succ (idxN (i F))) len)) (fld (x F) (Nat.shiftLeft (Nat.mul (pay (i F)) k) 7) (Nat.shiftLeft k 7)) 0
def p_pik (c x y:O):O:=fun F=>cnd (Nat.beq (c F) 35) (x F) (cnd (Nat.beq (c F) 3) (y F) 0)
def p_nck (x:O):O:=fun F=>cnd (bOr (Nat.beq (tag (x F)) 5) (Nat.beq (tag (x F)) 11)) (x F) 0
def p_mif (t:Nat) (x:O):O:=fun F=>cnd (bAnd (odd (x F)) (Nat.ble (x F) 1267650600228229401496703205375)) (Nat.add 15 (Nat.shiftLeft (Nat.add t (Nat.shiftLeft (x F) 20)) 5)) 0
def p_bld (n:Nat) (x:O):O:=fun F=>cnd (live (x F) n) (x F) 0
def slcR (k c lo hi mx ex:Nat):Nat:=cnd (bAnd (Nat.ble lo hi) (bAnd (Nat.ble hi mx) (Nat.ble mx (slCap c)))) (mkSl k ex (Nat.add (slA c) (cnd (Nat.beq lo mx) 0 (Nat.mul lo k))) (Nat.sub hi lo) (Nat.sub mx lo)) 0
def oI (x:O):O:=fun F=>idxN (x F)
def p_slc (k:Nat) (x:O) (lo:O):O:=fun F=>cnd (Nat.beq (x F) 33) (cnd (Nat.beq (oI lo F) 0) 33 0) (cnd (isSl k (x F)) (slcR k (x F) (oI lo F) (slLen (x F)) (slCap (x F)) (slEx (x F))) 0)
def p_slh (k:Nat) (x lo hi:O):O:=fun F=>cnd (Nat.beq (x F) 33) (cnd (bAnd (Nat.beq (oI lo F) 0) (Nat.beq (oI hi F) 0)) 33 0) (cnd (isSl k (x F)) (slcR k (x F) (oI lo F) (oI hi F) (slCap (x F)) (slEx (x F))) 0)
def p_slm (k:Nat) (x lo hi mx:O):O:=fun F=>cnd (Nat.beq (x F) 33) (cnd (bAnd (Nat.beq (oI lo F) 0) (bAnd (Nat.beq (oI hi F) 0) (Nat.beq (oI mx F) 0))) 33 0) (cnd (isSl k (x F)) (slcR k (x F) (oI lo F) (oI hi F) (oI mx F) 1) 0)
def p_min (t md hf:Nat) (x y:O):O:=fun F=>two t (x F) (y F) (cnd (Nat.ble (ord md hf (x F)) (ord md hf (y F))) (x F) (y F))
def p_max (t md hf:Nat) (x y:O):O:=fun F=>two t (x F) (y F) (cnd (Nat.ble (ord md hf (x F)) (ord md hf (y F))) (y F) (x F))
structure Env where
  call:Nat→Nat→M→Kn→Rs
  cav:Nat→Nat→Nat→Nat→Nat→Nat→M→Kn→Rs
  nat:Nat→Nat→M→Kn→Rs
def kN (k:Kn) (m:M) (r:Nat):Rs:=k r m
def fK (k:Kn) (r:Nat) (m:M):Rs:=natK r (kN k m)
abbrev St:=Env→Nat→M→Kn→Rs
def okr (m:M) (k:Kn) (n r:Nat):Rs:=Bool.rec .bad (k r m) (live r n)
def ld2 (n p:Nat) (k:Kn) (m:M):Rs:=natK (rd m (ptA p) n) (okr m k n)
def ld1 (n p:Nat) (m:M) (k:Kn):Rs:=rlog m (ptA p) n (ld2 n p k)
def ldS (n:Nat) (m:M) (k:Kn) (p:Nat):Rs:=Bool.rec .bad (ld1 n p m k) (isPt n p)
def k2 (k:Kn) (m:M):Rs:=k 2 m
def st2 (n p v:Nat) (k:Kn) (m:M):Rs:=wr m (ptA p) n v (k2 k)
def st1 (n p v:Nat) (m:M) (k:Kn):Rs:=wlog m (ptA p) n (st2 n p v k)
def stS (n v:Nat) (m:M) (k:Kn) (p:Nat):Rs :=
  Bool.rec .bad (st1 n p v m k) (bAnd (isPt n p) (bAnd (live v n) (bAnd (live (rd m (ptA p) n) n) (Nat.ble 1048576 (ptA p)))))
def rep (z w:Nat) (n:Nat):Nat:=Nat.rec 0 (fun _ ih=>Nat.lor z (Nat.shiftLeft ih w)) n
def slK (k ex len cap:Nat) (kk:Kn) (b:Nat) (m:M):Rs:=natK (mkSl k ex b len cap) (kN kk m)
def apE1 (k len n v:Nat) (kk:Kn) (m:M):Rs:=alc m (Nat.mul (Nat.add len n) k) v (slK k 0 (Nat.add len n) (Nat.add len n) kk)
def apE (k a len n:Nat) (m:M) (kk:Kn) (v:Nat):Rs:=rlog m a (Nat.mul len k) (apE1 k len n v kk)
def apO1 (k a len n v cap:Nat) (kk:Kn) (m:M):Rs:=wr m a (Nat.mul cap k) 0 (apE1 k len n v kk)
def apO (k a len n cap:Nat) (m:M) (kk:Kn) (v:Nat):Rs:=wlog m a (Nat.mul cap k) (apO1 k a len n v cap kk)
def apO0 (k a len n cap:Nat) (m:M) (kk:Kn) (v:Nat):Rs:=Bool.rec .bad (apO k a len n cap m kk v) (bAnd (Nat.ble 1 cap) (bAnd (Nat.ble 1048576 a) (live (rd m a (Nat.mul cap k)) (Nat.mul cap k))))
def apX (k a len ex n cap:Nat) (m:M) (kk:Kn) (v:Nat):Rs:=Bool.rec (apO0 k a len n cap m kk v) (apE k a len n m kk v) (Nat.beq ex 1)
def apG2 (k a len ex n xs cap:Nat) (m:M) (kk:Kn) (old:Nat):Rs:=natK (Nat.lor old (Nat.shiftLeft xs (Nat.shiftLeft (Nat.mul len k) 7))) (apX k a len ex n cap m kk)
def apG1 (k a len ex n xs cap:Nat) (m:M) (kk:Kn) (old:Nat):Rs:=Bool.rec .bad (apG2 k a len ex n xs cap m kk old) (live old (Nat.mul len k))
def apG (k s n xs:Nat) (m:M) (kk:Kn):Rs:=natK (rd m (slA s) (Nat.mul (slLen s) k)) (apG1 k (slA s) (slLen s) (slEx s) n xs (slCap s) m kk)
def apI1 (k s n:Nat) (kk:Kn) (_r:Nat) (m:M):Rs:=natK (mkSl k (slEx s) (slA s) (Nat.add (slLen s) n) (slCap s)) (kN kk m)
def apI (k s n xs:Nat) (m:M) (kk:Kn):Rs:=stS (Nat.mul n k) xs m (apI1 k s n kk) (mkPtr (Nat.add (slA s) (Nat.mul (slLen s) k)) (Nat.mul n k))
def apI0 (k s n xs:Nat) (m:M) (kk:Kn):Rs:=Bool.rec (apI k s n xs m kk) (kk s m) (Nat.beq n 0)
def apS (k s n xs:Nat) (m:M) (kk:Kn):Rs:=Bool.rec (apG k s n xs m kk) (apI0 k s n xs m kk) (Nat.ble (Nat.add (slLen s) n) (slCap s))
def apS0 (k s n xs:Nat) (m:M) (kk:Kn):Rs:=Bool.rec .bad (apS k s n xs m kk) (isSl k s)
def apN (k n xs:Nat) (m:M) (kk:Kn):Rs:=alc m (Nat.mul n k) xs (slK k 0 n n kk)
def apN0 (k s n xs:Nat) (m:M) (kk:Kn):Rs:=Bool.rec (apN k n xs m kk) (kk s m) (Nat.beq n 0)
def apQ (k s n xs:Nat) (m:M) (kk:Kn):Rs:=Bool.rec (apS0 k s n xs m kk) (apN0 k s n xs m kk) (Nat.beq s 33)
def appS (k s n:Nat) (m:M) (kk:Kn) (xs:Nat):Rs:=Bool.rec .bad (apQ k s n xs m kk) (live xs (Nat.mul n k))
def ap12 (k s x:Nat) (kk:Kn) (m:M):Rs:=natK (rd m (slA x) (Nat.mul (slLen x) k)) (appS k s (slLen x) m kk)
def ap11 (k s x:Nat) (m:M) (kk:Kn):Rs:=rlog m (slA x) (Nat.mul (slLen x) k) (ap12 k s x kk)
def ap10 (k s x:Nat) (m:M) (kk:Kn):Rs:=Bool.rec .bad (ap11 k s x m kk) (isSl k x)
def app1 (k s x:Nat) (m:M) (kk:Kn):Rs:=Bool.rec (ap10 k s x m kk) (appS k s 0 m kk 0) (Nat.beq x 33)
def cellsOf (b:Nat) (n:Nat):Nat:=Nat.rec (fun _=>0) (fun _ ih b=>Nat.lor (Nat.add 25 (Nat.shiftLeft (Nat.mod b 256) 5)) (Nat.shiftLeft (ih (Nat.div b 256)) 128)) n b
def bytesOf (c:Nat) (n:Nat):Nat:=Nat.rec (fun _=>0) (fun _ ih c=>Nat.add (Nat.mod (Nat.shiftRight c 5) 256) (Nat.shiftLeft (ih (Nat.shiftRight c 128)) 8)) n c
def pats (n p:Nat):Nat:=Nat.mul (flags n) p
def allU8 (c n:Nat):Bool:=Nat.beq (Nat.land c (pats n 31)) (pats n 25)
def setX (k:M→Rs) (x:Xt) (brk cur:Nat) (pg:Tr Nat) (_x:Xt) (g:Lo):Rs:=k ⟨brk,cur,pg,x,g⟩
def withX (m:M) (k:M→Rs) (x:Xt):Rs:=M.rec (setX k x) m
def nst4 (k:M→Rs) (m:M) (n:Nat) (t:Tr Nat) (_ns:Nat) (_str:Tr Nat) (nc:Nat) (clo:Tr Clo) (nm:Nat) (mp:Tr Mp) (nl:Nat) (lp:Tr Lp):Rs:=withX m k ⟨n,t,nc,clo,nm,mp,nl,lp⟩
def nst3 (len:Nat) (m:M) (k:Kn) (t:Tr Nat) (n:Nat):Rs:=Xt.rec (nst4 (k (mkStr m.x.ns len)) m n t) m.x
def nst2 (len:Nat) (m:M) (k:Kn) (t:Tr Nat):Rs:=natK (Nat.succ m.x.ns) (nst3 len m k t)
def nst1 (len:Nat) (m:M) (k:Kn) (b:Nat):Rs:=tput 0 b 40 m.x.ns m.x.str (nst2 len m k)
def low (n:Nat) (r:Rs):Rs:=Bool.rec .bad r (Nat.ble n 549755813887)
def newStr (b len:Nat) (m:M) (k:Kn):Rs:=low m.x.ns (natK b (nst1 len m (fK k)))
def strB (m:M) (c:Nat):Nat:=tget 0 m.x.str (stId c)
def isSt (m:M) (c:Nat):Bool:=bAnd (Nat.beq (tag c) 9) (Nat.ble (Nat.succ (stId c)) m.x.ns)
def kOk (m:M) (str:Bool) (mk kd key:Nat):Bool:=bAnd (Nat.beq (Nat.land key mk) (Nat.shiftRight kd 16)) (Bool.rec true (isSt m key) str)
def sEq (m:M) (x y:Nat):Bool:=bAnd (Nat.beq (stLen x) (stLen y)) (Nat.beq (strB m x) (strB m y))
def mKey (m:M) (str:Bool) (k k':Nat):Bool:=Bool.rec (Nat.beq k k') (sEq m k k') str
def mfind (m:M) (str:Bool) (k:Nat) (no:Rs) (yes:Nat→Nat→Rs) (es:Ml):Rs :=
  Ml.rec no (fun k' v born _ ih=>Bool.rec ih (yes v born) (mKey m str k k')) es
def mset (born v:Nat) (es:Ml):(Ml→Rs)→Rs:=Ml.rec (fun k=>k .nil) (fun key v' b r ih k=>Bool.rec (ih fun r=>k (.cons key v' b r)) (k (.cons key v b r)) (Nat.beq b born)) es
def mpu3 (k:M→Rs) (m:M) (t:Tr Mp) (ns:Nat) (str:Tr Nat) (nc:Nat) (clo:Tr Clo) (nm:Nat) (_mp:Tr Mp) (nl:Nat) (lp:Tr Lp):Rs:=withX m k ⟨ns,str,nc,clo,nm,t,nl,lp⟩
def mpu2 (m:M) (k:M→Rs) (t:Tr Mp):Rs:=Xt.rec (mpu3 k m t) m.x
def mput (m:M) (kd a clk:Nat) (k:M→Rs) (es:Ml):Rs:=tput ⟨0,.nil,0⟩ ⟨kd,es,clk⟩ 40 a m.x.mp (mpu2 m k)
def mlog (i:Nat):Nat:=Nat.add (Nat.add 140737488355328 i) 281474976710656
def mlogR (m:M) (i:Nat) (k:M→Rs):Rs:=Nat.rec (log0 m k) (fun _ _=>rlg (mlog i) m k) m.g.wm
def mlogW (m:M) (i:Nat) (k:M→Rs):Rs:=Nat.rec (log0 m k) (fun _ _=>wlg (mlog i) m k) m.g.wm
def getM1 (kd:Nat) (k:Ml→Nat→Rs) (kd':Nat) (es:Ml) (clk:Nat):Rs:=Bool.rec .bad (k es clk) (Nat.beq kd' kd)
def getM (m:M) (kd c:Nat) (k:Ml→Nat→Rs):Rs:=Bool.rec .bad (Mp.rec (getM1 kd k) (tget ⟨0,.nil,0⟩ m.x.mp (pay c))) (Nat.beq (tag c) 13)
def nz (m:M) (k:Kn) (r:Nat):Rs:=Nat.rec .bad (fun _ _=>k r m) r
def ptK (n:Nat) (k:Kn) (a:Nat) (m:M):Rs:=natK (mkPtr a n) (kN k m)
def s_p (q:O):St:=fun _ F m k=>natK (q F) (nz m k)
def s_ld (n:Nat) (a:O):St:=fun _ F m k=>natK (a F) (ldS n m k)
def s_st (n:Nat) (a x:O):St:=fun _ F m k=>natK (a F) (stS n (x F) m k)
def s_al (n z:Nat):St:=fun _ _ m k=>alc m n z (ptK n k)
def s_bx (n:Nat) (x:O):St:=fun _ F m k=>Bool.rec .bad (alc m n (x F) (ptK n k)) (live (x F) n)
def bs1 (w len:Nat) (m:M) (k:Kn) (v:Nat):Rs:=Bool.rec .bad (alc m (Nat.mul w len) v (slK w 1 len len k)) (live v (Nat.mul w len))
def s_bs (w len:Nat) (x:O):St:=fun _ F m k=>natK (x F) (bs1 w len m k)
def ms1 (w len cap:Nat) (m:M) (k:Kn) (v:Nat):Rs:=alc m (Nat.mul w cap) v (slK w 1 len cap k)
def ms0 (w z len cap:Nat) (m:M) (k:Kn):Rs:=natK (rep z (Nat.shiftLeft w 7) cap) (ms1 w len cap m k)
def s_ms (w z : Nat) (len cap : O) : St := fun _ F m k => Bool.rec .bad (ms0 w z (pay (len F)) (pay (cap F)) m k)
      (bAnd (Nat.ble (pay (len F)) (pay (cap F))) (bAnd (Nat.ble (idxN (cap F)) 65535) (Nat.ble (idxN (len F)) 65535)))
def s_app (w:Nat) (s x:O):St:=fun _ F m k=>app1 w (s F) (x F) m k
def aps0 (s x:Nat) (m:M) (k:Kn):Rs:=natK (cellsOf (strB m x) (stLen x)) (appS 1 s (stLen x) m k)
def s_aps (s x:O):St:=fun _ F m k=>Bool.rec .bad (aps0 (s F) (x F) m k) (isSt m (x F))
def cl3 (w s:Nat) (m:M) (k:Kn) (v:Nat):Rs:=stS (Nat.mul (slLen s) w) v m k (mkPtr (slA s) (Nat.mul (slLen s) w))
def cl2 (w z s:Nat) (m:M) (k:Kn):Rs:=natK (rep z (Nat.shiftLeft w 7) (slLen s)) (cl3 w s m k)
def cl1 (w z s:Nat) (m:M) (k:Kn):Rs:=Nat.rec (k 2 m) (fun _ _=>cl2 w z s m k) (slLen s)
def cl0 (w z s:Nat) (m:M) (k:Kn):Rs:=Bool.rec .bad (cl1 w z s m k) (isSl w s)
def s_clr (w z:Nat) (s:O):St:=fun _ F m k=>Bool.rec (cl0 w z (s F) m k) (k 2 m) (Nat.beq (s F) 33)
def sb1 (len:Nat) (m:M) (k:Kn) (v:Nat):Rs:=alc m len v (slK 1 0 len len k)
def sb0 (x:Nat) (m:M) (k:Kn):Rs:=natK (cellsOf (strB m x) (stLen x)) (sb1 (stLen x) m k)
def s_s2b (x:O):St:=fun _ F m k=>Bool.rec .bad (sb0 (x F) m k) (isSt m (x F))
def bs_3 (x:Nat) (m:M) (k:Kn) (c:Nat):Rs:=Bool.rec .bad (newStr (bytesOf c (slLen x)) (slLen x) m k) (allU8 c (slLen x))
def bs_2 (x:Nat) (k:Kn) (m:M):Rs:=natK (rd m (slA x) (slLen x)) (bs_3 x m k)
def bs_1 (x:Nat) (m:M) (k:Kn):Rs:=rlog m (slA x) (slLen x) (bs_2 x k)
def bs_0 (x:Nat) (m:M) (k:Kn):Rs:=Bool.rec .bad (bs_1 x m k) (isSl 1 x)
def s_b2s (x:O):St:=fun _ F m k=>Bool.rec (bs_0 (x F) m k) (newStr 0 0 m k) (Nat.beq (x F) 33)
def sc0 (x y:Nat) (m:M) (k:Kn):Rs:=newStr (Nat.lor (strB m x) (Nat.shiftLeft (strB m y) (Nat.shiftLeft (stLen x) 3))) (Nat.add (stLen x) (stLen y)) m k
def s_scat (x y:O):St:=fun _ F m k=>Bool.rec .bad (sc0 (x F) (y F) m k) (bAnd (Nat.ble (Nat.add (stLen (x F)) (stLen (y F))) 1099511627775) (bAnd (isSt m (x F)) (isSt m (y F))))
def sl0 (x lo hi:Nat) (m:M) (k:Kn):Rs:=newStr (fld (strB m x) (Nat.shiftLeft lo 3) (Nat.shiftLeft (Nat.sub hi lo) 3)) (Nat.sub hi lo) m k
def sl1 (x lo hi:Nat) (m:M) (k:Kn):Rs:=Bool.rec .bad (sl0 x lo hi m k) (bAnd (isSt m x) (bAnd (Nat.ble lo hi) (bAnd (Nat.ble hi 1099511627775) (Nat.ble hi (stLen x)))))
def s_ssl (x lo hi:O):St:=fun _ F m k=>sl1 (x F) (oI lo F) (oI hi F) m k
def s_sst (x lo:O):St:=fun _ F m k=>sl1 (x F) (oI lo F) (stLen (x F)) m k
def si0 (x i:Nat) (m:M) (k:Kn):Rs:=natK (mkI 25 (fld (strB m x) (Nat.shiftLeft (pay i) 3) 8)) (kN k m)
def s_six (x i:O):St:=fun _ F m k=>Bool.rec .bad (si0 (x F) (i F) m k) (bAnd (isSt m (x F)) (bAnd (Nat.ble (idxN (i F)) 1099511627775) (Nat.ble (Nat.succ (idxN (i F))) (stLen (x F)))))
def s_seq (x y:O):St:=fun _ F m k=>Bool.rec .bad (natK (bN (sEq m (x F) (y F))) (kN k m)) (bAnd (isSt m (x F)) (isSt m (y F)))
def s_sne (x y:O):St:=fun _ F m k=>Bool.rec .bad (natK (bN (bNot (sEq m (x F) (y F)))) (kN k m)) (bAnd (isSt m (x F)) (isSt m (y F)))
def mf5 (k:M→Rs) (m:M) (n:Nat) (t:Tr Clo) (ns:Nat) (str:Tr Nat) (_nc:Nat) (_clo:Tr Clo) (nm:Nat) (mp:Tr Mp) (nl:Nat) (lp:Tr Lp):Rs:=withX m k ⟨ns,str,n,t,nm,mp,nl,lp⟩
def mf4 (m:M) (k:Kn) (t:Tr Clo) (n r:Nat):Rs:=Xt.rec (mf5 (k r) m n t) m.x
def mf3 (m:M) (k:Kn) (t:Tr Clo) (n:Nat):Rs:=natK (mkI 11 (Nat.mul 2 m.x.nc)) (mf4 m k t n)
def mf2 (m:M) (k:Kn) (t:Tr Clo):Rs:=natK (Nat.succ m.x.nc) (mf3 m k t)
def mf1 (f n1 n2:Nat) (m:M) (k:Kn) (a b:Nat):Rs:=tput ⟨0,0,0,0,0⟩ ⟨f,n1,n2,a,b⟩ 40 m.x.nc m.x.clo (mf2 m k)
def mf0 (f n1 n2 F:Nat) (cs:O) (m:M) (k:Kn) (a:Nat):Rs:=natK (cs F) (mf1 f n1 n2 m k a)
def s_mf (f n1 n2:Nat) (fs cs:O):St:=fun _ F m k=>low m.x.nc (natK (fs F) (mf0 f n1 n2 F cs m k))
def mm4 (k:M→Rs) (m:M) (n:Nat) (t:Tr Mp) (ns:Nat) (str:Tr Nat) (nc:Nat) (clo:Tr Clo) (_nm:Nat) (_mp:Tr Mp) (nl:Nat) (lp:Tr Lp):Rs:=withX m k ⟨ns,str,nc,clo,n,t,nl,lp⟩
def mm3 (m:M) (k:Kn) (t:Tr Mp) (n r:Nat):Rs:=Xt.rec (mm4 (k r) m n t) m.x
def mm2 (m:M) (k:Kn) (t:Tr Mp) (n:Nat):Rs:=natK (mkI 13 m.x.nm) (mm3 m k t n)
def mm1 (m:M) (k:Kn) (t:Tr Mp):Rs:=natK (Nat.succ m.x.nm) (mm2 m k t)
def mm0 (kd:Nat) (k:Kn) (m:M):Rs:=tput ⟨0,.nil,0⟩ ⟨kd,.nil,0⟩ 40 m.x.nm m.x.mp (mm1 m k)
def s_mm (kd:Nat):St:=fun _ _ m k=>low m.x.nm (mlogW m m.x.nm (mm0 kd k))
def okv (v nv c ok:Nat):Nat:=Nat.rec v (fun _ _=>Nat.lor v (Nat.shiftLeft c nv)) ok
def lkY (nv ok:Nat) (m:M) (k:Kn) (v _b:Nat):Rs:=natK (okv v nv 35 ok) (kN k m)
def lkN (z nv ok:Nat) (m:M) (k:Kn):Rs:=natK (okv z nv 3 ok) (kN k m)
def lk2 (str:Bool) (z nv ok key:Nat) (k:Kn) (es:Ml) (m:M):Rs:=mfind m str key (lkN z nv ok m k) (lkY nv ok m k) es
def lk1 (str:Bool) (z nv ok mm key:Nat) (m:M) (k:Kn) (es:Ml) (_c:Nat):Rs:=mlogR m (pay mm) (lk2 str z nv ok key k es)
def lk0 (str:Bool) (kd z nv ok mm key:Nat) (m:M) (k:Kn):Rs:=Bool.rec (getM m kd mm (lk1 str z nv ok mm key m k)) (lkN z nv ok m k) (Nat.beq mm 65)
def s_mlk (str:Bool) (mk kd z nv ok:Nat) (mm key:O):St:=fun _ F m k=>Bool.rec .bad (lk0 str kd z nv ok (mm F) (key F) m k) (kOk m str mk kd (key F))
def mu6 (kd mm:Nat) (m:M) (k:Kn) (clk:Nat) (es:Ml):Rs:=mput m kd (pay mm) clk (k2 k) es
def mu5 (kd mm:Nat) (m:M) (k:Kn) (key clk:Nat) (es:Ml) (v:Nat):Rs:=mu6 kd mm m k (Nat.succ clk) (.cons key v clk es)
def mu4 (kd mm:Nat) (m:M) (k:Kn) (v clk:Nat) (es:Ml) (key:Nat):Rs:=natK v (mu5 kd mm m k key clk es)
def muY2 (kd mm:Nat) (m:M) (k:Kn) (clk:Nat) (es:Ml) (born v:Nat):Rs:=mset born v es (mu6 kd mm m k clk)
def muY (kd mm v:Nat) (m:M) (k:Kn) (clk:Nat) (es:Ml) (_v' born:Nat):Rs:=natK v (muY2 kd mm m k clk es born)
def mu2 (str:Bool) (kd mm key v:Nat) (k:Kn) (es:Ml) (clk:Nat) (m:M):Rs:=mfind m str key (natK key (mu4 kd mm m k v clk es)) (muY kd mm v m k clk es) es
def mu1 (str:Bool) (kd mm key v:Nat) (m:M) (k:Kn) (es:Ml) (clk:Nat):Rs:=mlogW m (pay mm) (mu2 str kd mm key v k es clk)
def s_mup (str:Bool) (mk kd nv:Nat) (mm key v:O):St:=fun _ F m k=>Bool.rec .bad (getM m kd (mm F) (mu1 str kd (mm F) (key F) (v F) m k)) (bAnd (kOk m str mk kd (key F)) (live (v F) nv))
def meR (v nv b:Nat) (k:Kn) (m:M):Rs:=low b (natK (Nat.lor v (Nat.shiftLeft (mkI 23 b) nv)) (kN k m))
def me5 (kd mm:Nat) (m:M) (z nv clk:Nat) (k:Kn) (es:Ml):Rs:=mput m kd (pay mm) (Nat.succ clk) (meR z nv clk k) es
def me4 (kd mm:Nat) (m:M) (z nv clk:Nat) (k:Kn) (es:Ml) (key:Nat):Rs:=me5 kd mm m z nv clk k (.cons key z clk es)
def meY (nv:Nat) (m:M) (k:Kn) (v born:Nat):Rs:=meR v nv born k m
def me2 (str:Bool) (kd z nv mm key:Nat) (k:Kn) (es:Ml) (clk:Nat) (m:M):Rs:=mfind m str key (natK key (me4 kd mm m z nv clk k es)) (meY nv m k) es
def me1 (str:Bool) (kd z nv mm key:Nat) (m:M) (k:Kn) (es:Ml) (clk:Nat):Rs:=mlogW m (pay mm) (me2 str kd z nv mm key k es clk)
def s_men (str:Bool) (mk kd z nv:Nat) (mm key:O):St:=fun _ F m k=>Bool.rec .bad (getM m kd (mm F) (me1 str kd z nv (mm F) (key F) m k)) (kOk m str mk kd (key F))
def ms_3 (kd mm:Nat) (m:M) (k:Kn) (s clk:Nat) (es:Ml) (v:Nat):Rs:=mset (pay s) v es (mu6 kd mm m k clk)
def ms_2 (kd mm s v:Nat) (k:Kn) (es:Ml) (clk:Nat) (m:M):Rs:=natK v (ms_3 kd mm m k s clk es)
def mhas (born:Nat) (es:Ml):Bool:=Ml.rec false (fun _ _ b _ ih=>Bool.rec ih true (Nat.beq b born)) es
def ms_1 (kd mm s v:Nat) (m:M) (k:Kn) (es:Ml) (clk:Nat):Rs:=Bool.rec .bad (mlogW m (pay mm) (ms_2 kd mm s v k es clk)) (mhas (pay s) es)
def s_mes (kd nv:Nat) (mm s v:O):St:=fun _ F m k=>Bool.rec .bad (getM m kd (mm F) (ms_1 kd (mm F) (s F) (v F) m k)) (bAnd (Nat.beq (tag (s F)) 23) (bAnd (live (v F) nv) (Nat.ble (pay (s F)) 549755813887)))
def s_cl (f:Nat) (as:O):St:=fun v F m k=>natK (as F) fun a=>v.call f a m k
def s_cv (x:O) (sg ln wa rk:Nat) (as:O):St:=fun v F m k=>natK (as F) fun a=>v.cav (x F) sg ln wa rk a m k
def s_df (s:Nat) (x:O):St:=fun _ F m k=>Bool.rec .bad (Nat.rec (k (x F) m) (fun _ _=>.bad) (oS s F)) (Nat.beq (tag (x F)) 11)
def s_nt (i:Nat) (as:O):St:=fun v F m k=>natK (as F) fun a=>v.nat i a m k
abbrev Xo:=Env→Nat→M→(Nat→M→Rs)→Rs
def go2 (k:Nat→M→Rs) (m:M) (F:Nat):Rs:=k F m
def pu1 (d F:Nat) (k:Nat→M→Rs) (r:Nat) (m:M):Rs:=Bool.rec .bad (natK (put1 F d r) (go2 k m)) (Nat.ble r 340282366920938463463374607431768211455)
def pun (d n F:Nat) (k:Nat→M→Rs) (r:Nat) (m:M):Rs:=Bool.rec .bad (natK (put F d n r) (go2 k m)) (Nat.ble (Nat.succ r) (Nat.pow 2 n))
def pu0 (F:Nat) (k:Nat→M→Rs) (_r:Nat) (m:M):Rs:=k F m
def g0 (x:St):Xo:=fun v F m k=>x v F m (pu0 F k)
def g1 (d:Nat) (x:St):Xo:=fun v F m k=>x v F m (pu1 d F k)
def gn (d n:Nat) (x:St):Xo:=fun v F m k=>x v F m (pun d n F k)
def gm (d:Nat) (x:O):Xo:=fun v F m k=>natK (put1 F d (x F)) (go2 k m)
def gG (s yes no:Nat) (x:Xo) (y:Xo):Xo:=fun v F m k=>Bool.rec (Bool.rec .bad (y v F m k) (bOr (Nat.beq (oS s F) no) (Nat.beq (oS s F) 2))) (x v F m k) (Nat.beq (oS s F) yes)
def th (a b:Xo):Xo:=fun v F m k=>a v F m (b v · · k)
structure Lg where
  rl:List Nat
  wl:List Nat
  nw:List Nat
def eA (x:Nat):Nat:=Nat.mod x 281474976710656
def eN (x:Nat):Nat:=Nat.shiftRight x 48
def apart1 (x y:Nat):Bool:=bOr (Nat.ble (Nat.add (eA x) (eN x)) (eA y)) (Nat.ble (Nat.add (eA y) (eN y)) (eA x))
def apartL (x:Nat) (l:List Nat):Bool:=List.rec true (fun y _ ih=>Bool.rec false ih (apart1 x y)) l
def apartLL (l r:List Nat):Bool:=List.rec true (fun x _ ih=>Bool.rec false ih (apartL x r)) l
def nthL (l:List Lg) (i:Nat):Lg:=List.rec (fun _=>⟨[],[],[]⟩) (fun x _ ih i=>Nat.rec x (fun j _=>ih j) i) l i
def pairOk (a b:Lg):Bool:=bAnd (apartLL a.wl b.rl) (bAnd (apartLL a.wl b.wl) (bAnd (apartLL b.wl a.rl) (bAnd (apartLL a.nw b.rl) (bAnd (apartLL a.nw b.wl) (bAnd (apartLL b.nw a.rl) (apartLL b.nw a.wl))))))
def pairsOk (l:List Lg) (n:Nat) (prs:List (Nat × Nat)):Bool:=List.rec true (fun p _ ih=>Bool.rec false ih (pairOk (nthL l (Nat.sub n p.1)) (nthL l (Nat.sub n p.2)))) prs
def setLog (m:M) (w:Nat) (r l:List Nat) (k:M→Rs):Rs:=M.rec (setL k ⟨w,r,l⟩) m
def keepL (wm brk:Nat) (l r:List Nat):List Nat:=List.rec r (fun x _ ih=>Bool.rec (x :: ih) ih (bAnd (Nat.ble wm (eA x)) (Nat.ble (Nat.add (eA x) (eN x)) brk))) l
def listK (k:List Nat→Rs) (l:List Nat):Rs:=List.rec (k []) (fun x l _=>k (x :: l)) l
def keepR (wm brk:Nat) (acc:List Lg) (rl:List Nat):List Nat:=List.rec rl (fun x _ ih=>keepL wm brk x.rl ih) acc
def keepW (wm brk:Nat) (acc:List Lg) (wl:List Nat):List Nat:=List.rec wl (fun x _ ih=>keepL wm brk x.wl ih) acc
def okN (F:Nat) (m:M):Rs:=.ok .nrm F m
def drE2 (wm F:Nat) (m:M) (rl wl:List Nat):Rs:=setLog m wm rl wl (okN F)
def drE1 (wm:Nat) (wl:List Nat) (acc:List Lg) (F:Nat) (m:M) (rl:List Nat):Rs:=listK (drE2 wm F m rl) (keepW wm m.brk acc wl)
def drE (wm:Nat) (rl wl:List Nat) (acc:List Lg) (F:Nat) (m:M):Rs:=Nat.rec (setLog m 0 rl wl (okN F)) (fun _ _=>listK (drE1 wm wl acc F m) (keepR wm m.brk acc rl)) wm
abbrev Xd:=Env→Nat→List Nat→List Nat→List Lg→Nat→M→Rs
def drN (n:Nat) (prs:List (Nat × Nat)):Xd:=fun _ wm rl wl acc F m=>Bool.rec .bad (drE wm rl wl acc F m) (pairsOk acc n prs)
def nw1 (base a b:Nat) (l:List Nat):List Nat:=Bool.rec (ent (Nat.add base a) (Nat.sub b a) :: l) l (Nat.ble b a)
def drK3 (k:List Lg→Nat→M→Rs) (acc:List Lg) (F:Nat) (m:M) (r w l:List Nat):Rs:=k (⟨r,w,l⟩ :: acc) F m
def drK2 (k:List Lg→Nat→M→Rs) (brk nm nl:Nat) (acc:List Lg) (F:Nat) (m:M) (r w:List Nat):Rs:=listK (drK3 k acc F m r w) (nw1 0 brk m.brk (nw1 140737488355328 nm m.x.nm (nw1 211106232532992 nl m.x.nl [])))
def drK1 (k:List Lg→Nat→M→Rs) (brk nm nl:Nat) (acc:List Lg) (F:Nat) (m:M) (r:List Nat):Rs:=listK (drK2 k brk nm nl acc F m r) m.g.wl
def drK (k:List Lg→Nat→M→Rs) (brk nm nl:Nat) (acc:List Lg) (F:Nat) (m:M):Rs:=listK (drK1 k brk nm nl acc F m) m.g.rl
def drG (g:Xo) (v:Env) (F:Nat) (k:Nat→M→Rs) (m:M):Rs:=g v F m k
def drC (g:Xo) (r:Xd):Xd:=fun v wm rl wl acc F m=>setLog m m.brk [] [] (drG g v F (drK (r v wm rl wl) m.brk m.x.nm m.x.nl acc))
abbrev X:=Env→Nat→Nat→M→Rs
def x_skip:X:=fun _ _ F m=>.ok .nrm F m
def x_ops (l:Xo):X:=fun v _ F m=>l v F m okN
def drL (d:Xd) (v:Env) (F:Nat) (m:M) (wm:Nat) (rl wl:List Nat):Rs:=d v wm rl wl [] F m
def x_drw (d:Xd):X:=fun v _ F m=>Lo.rec (drL d v F m) m.g
def onNrm (k:Nat→M→Rs) (x:Ex) (F:Nat) (m:M):Rs:=Ex.rec (k F m) (.ok .ret F m) (fun id=>.ok (.ex id) F m) (fun l=>.ok (.gt l) F m) x
def x_seq (a b:X):X:=fun v n F m=>Rs.rec .bad (onNrm (b v n)) (a v n F m)
def x_os (l:Xo) (b:X):X:=fun v n F m=>l v F m (b v n)
def x_cnd (x:O) (a b:X):X:=fun v n F m=>Bool.rec (Bool.rec .bad (b v n F m) (Nat.beq (x F) 3)) (a v n F m) (Nat.beq (x F) 35)
def onEx (id:Nat) (x:Ex) (F:Nat) (m:M):Rs:=Ex.rec (.ok .nrm F m) (.ok .ret F m) (fun i=>Bool.rec (.ok (.ex i) F m) (.ok .nrm F m) (Nat.beq i id)) (fun l=>.ok (.gt l) F m) x
def x_blk (id:Nat) (c:X):X:=fun v n F m=>Rs.rec .bad (onEx id) (c v n F m)
def lp0 (_F:Nat) (_m:M):Rs:=.bad
def lp1 (c:Nat→M→Rs) (ih:Nat→M→Rs) (F:Nat) (m:M):Rs:=Rs.rec .bad (onNrm ih) (c F m)
def x_lop (c:X):X:=fun v n F m=>Nat.rec lp0 (fun _ ih=>lp1 (c v n) ih) n F m
def x_ext (id:Nat):X:=fun _ _ F m=>.ok (.ex id) F m
def x_ret:X:=fun _ _ F m=>.ok .ret F m
def x_gto (l:Nat):X:=fun _ _ F m=>.ok (.gt l) F m
def x_bad:X:=fun _ _ _ _=>.bad
def lbl (ls:List (Nat × X)) (l:Nat):Option X:=List.rec none (fun p _ ih=>Bool.rec ih (some p.2) (Nat.beq p.1 l)) ls
def onGt (v:Env) (n:Nat) (ls:List (Nat × X)) (k:Rs→Rs) (x:Ex) (F:Nat) (m:M):Rs:=Ex.rec (.ok .nrm F m) (.ok .ret F m) (fun i=>.ok (.ex i) F m) (fun l=>Option.rec (.ok (.gt l) F m) (fun r=>k (r v n F m)) (lbl ls l)) x
def x_scp (c:X) (ls:List (Nat × X)):X:=fun v n F m=>Nat.rec (fun _=>.bad) (fun _ ih r=>Rs.rec .bad (onGt v n ls ih) r) n (c v n F m)
abbrev Rv:=Nat→M→Nat→(Nat→M→Rs)→Rs
def rvA (sh acc:Nat) (k:Nat→M→Rs) (m:M) (r:Nat):Rs:=natK (Nat.lor acc (Nat.shiftLeft r sh)) (kN k m)
def r_s (s n sh:Nat):Rv:=fun F m acc k=>rvA sh acc k m (fld F s (Nat.shiftLeft n 7))
def rvB (sh acc:Nat) (k:Nat→M→Rs) (r:Nat) (m:M):Rs:=rvA sh acc k m r
def r_c (s n sh:Nat):Rv:=fun F m acc k=>ldS n m (rvB sh acc k) (oS s F)
def r_0:Rv:=fun _ m acc k=>k acc m
def r_1 (s:Nat):Rv:=fun F m _ k=>natK (oS s F) (kN k m)
def r_t (a b:Rv):Rv:=fun F m acc k=>a F m acc (fun acc m=>b F m acc k)
structure Fn where
  body:X
  res:Rv
  dfr:Nat
  sg:Nat
  rk:Nat
structure Ll where
  ps:List (Nat × Nat)
  sg:Nat
  asg:X
  body:X
def fin1 (res:Rv) (k:Kn) (x:Ex) (F:Nat) (m:M):Rs:=Ex.rec (res F m 0 k) (res F m 0 k) (fun _=>.bad) (fun _=>.bad) x
def fin0 (res:Rv) (k:Kn) (r:Rs):Rs:=Rs.rec .bad (fin1 res k) r
def dClo:Clo:=⟨0,0,0,0,0⟩
def ones (n:Nat):Nat:=Nat.div (Nat.pred (Nat.pow 256 n)) 255
def vK1 (sg ln wa a:Nat) (k:Nat→Nat→Nat→Rs) (f n1 n2 fc cc:Nat):Rs:=natK (Nat.lor fc (Nat.lor (Nat.shiftLeft a (Nat.shiftLeft n1 7)) (Nat.shiftLeft cc (Nat.add (Nat.shiftLeft n1 7) wa)))) (k f (Nat.lor (ones n1) (Nat.lor (Nat.shiftLeft sg (Nat.shiftLeft n1 3)) (Nat.shiftLeft (ones n2) (Nat.shiftLeft (Nat.add n1 ln) 3)))))
def valC (m:M) (x sg ln wa a:Nat) (k:Nat→Nat→Nat→Rs):Rs:=Bool.rec .bad (Clo.rec (vK1 sg ln wa a k) (tget dClo m.x.clo (Nat.shiftRight x 6))) (Nat.ble (Nat.succ (Nat.shiftRight x 6)) m.x.nc)
def valK (m:M) (x sg ln wa a:Nat) (k:Nat→Nat→Nat→Rs):Rs :=
  Bool.rec .bad (Nat.rec (valC m x sg ln wa a k) (fun _ _=>k (Nat.shiftRight x 6) sg a) (Nat.mod (pay x) 2)) (Nat.beq (tag x) 11)
def dummyLp:Lp:=⟨0,0,1,.nrm⟩
def lpu3 (k:M→Rs) (m:M) (t:Tr Lp) (ns:Nat) (str:Tr Nat) (nc:Nat) (clo:Tr Clo) (nm:Nat) (mp:Tr Mp) (nl:Nat) (_lp:Tr Lp):Rs:=withX m k ⟨ns,str,nc,clo,nm,mp,nl,t⟩
def lpu2 (m:M) (k:M→Rs) (t:Tr Lp):Rs:=Xt.rec (lpu3 k m t) m.x
def lput (m:M) (l:Nat) (x:Lp) (k:M→Rs):Rs:=tput dummyLp x 40 l m.x.lp (lpu2 m k)
def pr2 (a w:Nat) (ih:Nat→Nat→(Nat→Rs)→Rs) (k:Nat→Rs) (F:Nat):Rs:=natK (Nat.shiftRight a w) fun a=>ih a F k
def prm (ps:List (Nat × Nat)):Nat→Nat→(Nat→Rs)→Rs :=
  List.rec (fun _ F k=>k F) (fun p _ ih a F k=>natK (put F p.1 p.2 (fld a 0 p.2)) (pr2 a p.2 ih k)) ps
def yK (r:Nat) (k:Kn) (m:M):Rs:=k r m
def deadLp:Lp:=⟨0,0,3,.nrm⟩
def yB2 (l:Nat) (k:Kn) (no F:Nat) (m:M) (x:Ex):Rs :=
  Ex.rec (lput m l ⟨no,F,0,.nrm⟩ (yK 35 k)) (lput m l ⟨no,F,1,.ret⟩ (yK 3 k)) (fun id=>lput m l ⟨no,F,1,.ex id⟩ (yK 3 k)) (fun g=>lput m l ⟨no,F,1,.gt g⟩ (yK 3 k)) x
def yB1 (l:Nat) (k:Kn) (x:Ex) (m:M) (no F st:Nat) (_p:Ex):Rs:=Bool.rec .bad (yB2 l k no F m x) (Nat.beq st 2)
def yBody (l:Nat) (k:Kn) (x:Ex) (_F2:Nat) (m:M):Rs:=Lp.rec (yB1 l k x m) (tget dummyLp m.x.lp l)
def yA2 (v:Env) (n l:Nat) (body:X) (k:Kn) (F2:Nat) (m:M):Rs:=Rs.rec .bad (yBody l k) (body v n F2 m)
def yA1 (v:Env) (n l:Nat) (body:X) (k:Kn) (F2:Nat) (m:M) (no F st:Nat) (_p:Ex):Rs:=Bool.rec .bad (lput m l ⟨no,F,2,.nrm⟩ (yA2 v n l body k F2)) (Nat.beq st 0)
def yAsg (v:Env) (n l:Nat) (body:X) (k:Kn) (x:Ex) (F2:Nat) (m:M):Rs :=
  Ex.rec (Lp.rec (yA1 v n l body k F2 m) (tget dummyLp m.x.lp l)) .bad (fun _=>.bad) (fun _=>.bad) x
def yPrm (v:Env) (n l:Nat) (asg body:X) (m:M) (k:Kn) (F1:Nat):Rs:=Rs.rec .bad (yAsg v n l body k) (asg v n F1 m)
def yLl (v:Env) (n l sg a F:Nat) (m:M) (k:Kn) (ps:List (Nat × Nat)) (sg':Nat) (asg body:X):Rs:=Bool.rec .bad (prm ps a F (yPrm v n l asg body m k)) (Nat.beq sg' sg)
def dLl:Ll:=⟨[],0,x_bad,x_bad⟩
def yLp (T:Tr Ll) (v:Env) (n l sg a:Nat) (m:M) (k:Kn) (no F st:Nat) (_p:Ex):Rs:=Bool.rec .bad (Ll.rec (yLl v n l sg a F m k) (tget dLl T no)) (Nat.beq st 0)
def yieldT (T:Tr Ll) (v:Env) (n l sg a:Nat) (k:Kn) (m:M):Rs:=Bool.rec .bad (Lp.rec (yLp T v n l sg a m k) (tget dummyLp m.x.lp l)) (Nat.ble (Nat.succ l) m.x.nl)
def llog (l:Nat):Nat:=Nat.add (Nat.add 211106232532992 l) 281474976710656
def yieldS (T:Tr Ll) (v:Env) (n l sg a:Nat) (m:M) (k:Kn):Rs:=Nat.rec (log0 m (yieldT T v n l sg a k)) (fun _ _=>wlg (llog l) m (yieldT T v n l sg a k)) m.g.wm
def c01 (v:Env) (n F:Nat) (m:M) (k:Kn) (sg:Nat) (c:X) (res:Rv) (d sg' _rk:Nat):Rs:=Bool.rec .bad (Nat.rec (fin0 res k (c v n F m)) (fun _ _=>.bad) d) (Nat.beq sg' sg)
def dFn:Fn:=⟨x_bad,r_0,0,0,0⟩
def call0 (T:Tr Fn) (v:Env) (n:Nat) (m:M) (k:Kn) (f sg a:Nat):Rs:=Fn.rec (c01 v n (Nat.shiftLeft a 128) m k sg) (tget dFn T f)
def en1 (F:Nat) (res:Rv) (k:Kn) (_r:Nat) (m:M):Rs:=res F m 0 k
def endS (T:Tr Fn) (v:Env) (n:Nat) (res:Rv) (d:Nat) (k:Kn) (F:Nat) (m:M):Rs :=
  Nat.rec (res F m 0 k) (fun _ _=>valK m (oS d F) 0 0 0 0 (call0 T v n m (en1 F res k))) (oS d F)
def end1 (T:Tr Fn) (v:Env) (n:Nat) (res:Rv) (d:Nat) (k:Kn) (x:Ex) (F:Nat) (m:M):Rs:=Ex.rec (endS T v n res d k F m) (endS T v n res d k F m) (fun _=>.bad) (fun _=>.bad) x
def cs1 (T:Tr Fn) (v:Env) (n F:Nat) (m:M) (k:Kn) (c:X) (res:Rv) (d _sg _rk:Nat):Rs:=Nat.rec (fin0 res k (c v n F m)) (fun _ _=>Rs.rec .bad (end1 T v n res d k) (c v n F m)) d
def callF (T:Tr Fn) (v:Env) (n f:Nat) (m:M) (k:Kn) (F:Nat):Rs:=Fn.rec (cs1 T v n F m k) (tget dFn T f)
def callS (T:Tr Fn) (v:Env) (n f a:Nat) (m:M) (k:Kn):Rs:=natK (mix (Nat.shiftLeft a 128)) (callF T v n f m k)
def kdC (sg rk:Nat) (_c:X) (_r:Rv) (_d sg' rk':Nat):Bool:=bAnd (Nat.beq sg' sg) (Nat.beq rk' rk)
def cavV (T:Tr Fn) (v:Env) (n rk:Nat) (m:M) (k:Kn) (f sg F:Nat):Rs:=Bool.rec .bad (callS T v n f F m k) (Fn.rec (kdC sg rk) (tget dFn T f))
def cavS (T:Tr Fn) (U:Tr Ll) (v:Env) (n x sg ln wa rk a:Nat) (m:M) (k:Kn):Rs :=
  Bool.rec (valK m x sg ln wa a (cavV T v n rk m k)) (Bool.rec .bad (yieldS U v n (Nat.sub (pay x) 16) sg a m k) (Nat.beq rk 2)) (bAnd (Nat.beq (tag x) 1) (Nat.ble 16 (pay x)))
structure Pr where
  T:Tr Fn
  U:Tr Ll
  nat:Nat→Nat→M→Kn→Rs
def env0 (p:Pr):Env:=⟨fun _ _ _ _=>.bad,fun _ _ _ _ _ _ _ _=>.bad,p.nat⟩
def env (p:Pr) (n:Nat):Env:=Nat.rec (env0 p) (fun n v=>⟨callS p.T v n,cavS p.T p.U v n,p.nat⟩) n
def rg4 (F:Nat) (x:Ex) (m:M):Rs:=.ok x F m
def rg3 (l F:Nat) (m:M) (_no _F s:Nat) (x:Ex):Rs:=Bool.rec .bad (lput m l deadLp (rg4 F x)) (Nat.ble s 1)
def rg2 (l F:Nat) (_r:Nat) (m:M):Rs:=Lp.rec (rg3 l F m) (tget dummyLp m.x.lp l)
def rg1 (v:Env) (f l F:Nat) (m:M):Rs:=v.cav f 1 1 128 1 (mkI 1 (Nat.add 16 l)) m (rg2 l F)
def rgL (v:Env) (f l F:Nat) (m:M):Rs:=Nat.rec (log0 m (rg1 v f l F)) (fun _ _=>wlg (llog l) m (rg1 v f l F)) m.g.wm
def rgX (v:Env) (f F:Nat) (m:M) (t:Tr Lp) (nl':Nat) (ns:Nat) (str:Tr Nat) (nc:Nat) (clo:Tr Clo) (nm:Nat) (mp:Tr Mp) (nl:Nat) (_lp:Tr Lp):Rs:=withX m (rgL v f nl F) ⟨ns,str,nc,clo,nm,mp,nl',t⟩
def rg5 (v:Env) (f F:Nat) (m:M) (t:Tr Lp) (nl:Nat):Rs:=Xt.rec (rgX v f F m t nl) m.x
def rg0 (v:Env) (f F:Nat) (m:M) (t:Tr Lp):Rs:=natK (Nat.succ m.x.nl) (rg5 v f F m t)
def x_rng (f:O) (no:Nat):X:=fun v _ F m=>low m.x.nl (tput dummyLp ⟨no,F,0,.nrm⟩ 40 m.x.nl m.x.lp (rg0 v (f F) F m))
end
attribute [irreducible] mkPtr mkSl mkStr mkI
end Go.Proofs.YtceaohiahajolaaGreatDoor.VM
namespace Go.Proofs.YtceaohiahajolaaGreatDoor.VM
set_option linter.unusedVariables false
noncomputable section
def mrk1 (x:Nat) (k:Kn) (m:M):Rs:=Bool.rec .bad (k x m) (bAnd (live (rd m (slA x) 1) 1) (bAnd (Nat.ble 1048576 (slA x)) (Nat.ble 1 (slCap x))))
def mrk0 (x:Nat) (m:M) (k:Kn):Rs:=rlog m (slA x) 1 (mrk1 x k)
def s_mrk (x:O):St:=fun _ F m k=>Bool.rec .bad (mrk0 (x F) m k) (isSl 1 (x F))
def gmw (d n:Nat) (x:O):Xo:=fun v F m k=>natK (put F d n (x F)) (go2 k m)
def gp (d:Nat) (q:O):Xo:=g1 d (s_p q)
def gl (d:Nat) (q:O):Xo:=g1 d (s_ld 1 q)
def gH (c d:Nat) (q:St):Xo:=gG c 3 35 (g1 d q) (gm d (oK 2))
def gI (c d:Nat) (q:O):Xo:=gG c 3 35 (gm d q) (gm d (oK 2))
def gJ (c d:Nat) (q:O):Xo:=gG c 3 35 (g1 d (s_p q)) (gm d (oK 2))
def insK (d1 d2 F:Nat) (kk:Nat→M→Rs) (r:Nat) (m:M):Rs:=natK (put1 (put1 F d1 0) d2 r) (go2 kk m)
def insW (k s j x:Nat) (m:M):Nat:=Nat.lor (Nat.lor (rd m (slA s) (Nat.mul j k)) (Nat.shiftLeft x (Nat.shiftLeft (Nat.mul j k) 7))) (Nat.shiftLeft (rd m (Nat.add (slA s) (Nat.mul j k)) (Nat.mul (Nat.sub (slLen s) j) k)) (Nat.shiftLeft (Nat.add (Nat.mul j k) k) 7))
def insY (k d1 d2 s j x F:Nat) (m:M) (kk:Nat→M→Rs):Rs:=natK (insW k s j x m) (apO k (slA s) (slLen s) 1 (slCap s) m (insK d1 d2 F kk))
def insX (k d1 d2 s j x F:Nat) (m:M) (kk:Nat→M→Rs):Rs:=Bool.rec .bad (insY k d1 d2 s j x F m kk) (bAnd (live x k) (bAnd (Nat.ble (Nat.succ x) (Nat.pow 2 (Nat.shiftLeft k 7))) (bAnd (Nat.ble 1048576 (slA s)) (live (rd m (slA s) (Nat.mul (slCap s) k)) (Nat.mul (slCap s) k)))))
def insC (k s i:Nat):Bool:=bAnd (isSl k s) (bAnd (Nat.beq (slEx s) 0) (bAnd (Nat.beq (tag i) 23) (Nat.ble (Nat.succ (pay i)) (slLen s))))
def g_ins (k d1 d2:Nat) (s i x:O) (gn:Xo):Xo:=fun v F m kk=>Bool.rec (gn v F m kk) (insX k d1 d2 (s F) (pay (i F)) (x F) F m kk) (insC k (s F) (i F))
def hEnd (r:Nat) (m:M):Rs:=.ok .nrm (Nat.shiftLeft r 256) m
abbrev Hf:=Env→Nat→Nat→M→Kn→Rs
def hB (h:Hf) (v:Env) (q:Nat) (m:M) (C:Nat):Rs:=h v q C m hEnd
def hFn (h:Hf) (n w sg rk:Nat):Fn:=⟨fun v q F m=>natK (fld F 128 n) (hB h v q m),r_s 256 w 0,128,sg,rk⟩
def iFn (sg:Nat):Fn:=⟨x_ret,r_0,0,sg,0⟩
def memH (r:Nat):Hf:=fun _ _ _ m k=>k r m
def bIf (b:Bool) (x y:Nat):Nat:=Bool.rec y x b
def kindN (c:Nat):Nat:=bIf (bAnd (Nat.ble 97 c) (Nat.ble c 122)) 1 (bIf (bAnd (Nat.ble 48 c) (Nat.ble c 57)) 2
  (bIf (bOr (Nat.beq c 123) (bOr (Nat.beq c 125) (bOr (Nat.beq c 40) (bOr (Nat.beq c 41) (bOr (Nat.beq c 91) (bOr (Nat.beq c 93) (bOr (Nat.beq c 59) (bOr (Nat.beq c 44) (bOr (Nat.beq c 46) (bOr (Nat.beq c 43) (bOr (Nat.beq c 45) (bOr (Nat.beq c 42) (bOr (Nat.beq c 60) (Nat.beq c 61)))))))))))))) 3 0))
def kindH:Hf:=fun _ _ C m k=>Bool.rec .bad (natK (mkI 25 (kindN (pay C))) (kN k m)) (Nat.beq (tag C) 25)
def ixB (b c n:Nat):Nat:=Nat.rec (fun _ _=>18446744073709551615) (fun _ ih b i=>Bool.rec (ih (Nat.div b 256) (Nat.succ i)) i (Nat.beq (Nat.mod b 256) c)) n b 0
def natB (C:Nat) (m:M) (k:Kn):Rs:=Bool.rec .bad (natK (mkI 23 (ixB (strB m (fld C 0 128)) (pay (fld C 128 128)) (stLen (fld C 0 128)))) (kN k m)) (bAnd (isSt m (fld C 0 128)) (bAnd (Nat.beq (tag (fld C 128 128)) 25) (Nat.ble (stLen (fld C 0 128)) 4294967296)))
def natM (i C:Nat) (m:M) (k:Kn):Rs:=Nat.rec (natB C m k) (fun _ _=>.bad) i
def mZ:M:=⟨0,0,.nil,⟨0,.nil,0,.nil,0,.nil,0,.nil⟩,⟨0,[],[]⟩⟩
def endK (r:Nat) (m:M):Rs:=Bool.rec .bad (.ok .nrm r mZ) (bAnd (Nat.ble m.brk 140737488355328) (bAnd (Nat.ble m.x.nm 549755813888) (Nat.ble m.x.nl 549755813888)))
def m0 (ns:Nat) (st:Tr Nat):M:=⟨1048577,0,.nil,⟨ns,st,0,.nil,0,.nil,0,.nil⟩,⟨0,[],[]⟩⟩
def mA (ns:Nat) (st:Tr Nat) (p:Nat):M:=⟨1048577,0,.node .nil p .nil,⟨ns,st,0,.nil,0,.nil,0,.nil⟩,⟨0,[],[]⟩⟩
def cellsN (l:List Nat):Nat:=List.rec 0 (fun c _ ih=>Nat.add c (Nat.shiftLeft ih 128)) l
structure Rg where
  p:Nat
  n:Nat
  q:Nat
def phN (L:List Rg) (a:Nat):Nat:=List.rec 0 (fun e _ ih=>cnd (bAnd (Nat.ble e.p a) (Nat.ble (Nat.succ a) (Nat.add e.p e.n))) (Nat.add e.q (Nat.sub a e.p)) ih) L
def rnC (L:List Rg) (c:Nat):Nat:=cnd (Nat.beq (tag c) 7) (mkSl (Nat.mod (pay c) 256) (slEx c) (phN L (slA c)) (slLen c) (slCap c)) c
def allB {α:Type} (p:α→Bool) (l:List α):Bool:=List.rec true (fun x _ ih=>bAnd (p x) ih) l
def anyB {α:Type} (p:α→Bool) (l:List α):Bool:=List.rec false (fun x _ ih=>bOr (p x) ih) l
def cellB (L:List Rg) (m:M) (cs:List Nat) (a:Nat):Bool:=List.rec (fun _=>true) (fun c _ ih a=>bAnd (bOr (Nat.beq c 0) (bAnd (Nat.ble 1 (phN L a)) (Nat.beq (rd m (phN L a) 1) (rnC L c)))) (ih (Nat.succ a))) cs a
def argB (L:List Rg) (C:Nat) (cs:List Nat) (j:Nat):Bool:=List.rec (fun _=>true) (fun c _ ih j=>bAnd (Nat.beq (fld C j 128) (rnC L c)) (ih (Nat.add j 128))) cs j
def codeB (L:List Rg) (c:Nat):Bool:=bOr (Nat.beq c 0) (bOr (bOr (Nat.beq (tag c) 25) (Nat.beq (tag c) 31)) (bOr (bOr (Nat.beq (tag c) 23) (bOr (Nat.beq (tag c) 3) (Nat.beq c 33))) (bAnd (Nat.beq (tag c) 7) (bAnd (Nat.beq c (mkSl (Nat.mod (pay c) 256) (slEx c) (slA c) (slLen c) (slCap c)))
  (anyB (fun e=>bAnd (Nat.beq e.p (slA c)) (Nat.beq e.n (Nat.mul (slCap c) (Nat.mod (pay c) 256)))) L)))))
def rgB (e:Rg):Bool:=bAnd (Nat.ble 1 e.p) (bAnd (Nat.ble 1 e.n) (bAnd (Nat.ble (Nat.add e.p e.n) 1048576) (bAnd (Nat.ble 1 (Nat.mod e.q 1048576)) (bAnd (Nat.ble (Nat.add (Nat.mod e.q 1048576) e.n) 1048576) (Nat.ble (Nat.add e.q e.n) 140737488355328)))))
def apB (L:List Rg):Bool:=List.rec true (fun e l ih=>bAnd (rgB e) (bAnd (allB (fun d=>bAnd (Nat.ble (Nat.add e.p e.n) d.p) (bOr (Nat.ble (Nat.add e.q e.n) d.q) (Nat.ble (Nat.add d.q d.n) e.q))) l) ih)) L
structure Mo where
  as:List Nat
  hi:List Rg
  cs:List Nat
  r:Nat
def moT (d:Mo) (C:Nat) (m:M) (L:List Rg):Bool:=bAnd (argB L C d.as 0) (bAnd (apB L) (bAnd (allB (codeB L) d.as) (bAnd (allB (codeB L) d.cs) (cellB L m d.cs 1))))
def moA (e:Rg) (L:List Rg) (k:List Rg→Bool) (q:Nat):Bool:=k (List.append L [⟨e.p,e.n,q⟩])
def moL (C:Nat) (m:M) (hi:List Rg) (k:List Rg→Bool):List Rg→Bool:=List.rec k (fun e _ ih L=>natK (slA (cnd (Nat.ble e.q 63) (fld C (Nat.shiftLeft e.q 7) 128) (rd m (phN L (Nat.sub e.q 64)) 1))) (moA e L ih)) hi
def moB (C:Nat) (m:M) (d:Mo):Bool:=moL C m d.hi (moT d C m) []
def memK (ds:List Mo) (C:Nat) (m:M) (k:Kn):Rs:=List.rec .bad (fun d _ ih=>Bool.rec ih (k d.r m) (moB C m d)) ds
def memS (ds:List Mo):Hf:=fun _ _ C m k=>Bool.rec .bad (memK ds C m k) (Nat.beq m.g.wm 0)
end
end Go.Proofs.YtceaohiahajolaaGreatDoor.VM
namespace Go.Proofs.YtceaohiahajolaaGreatDoor.VM
set_option linter.unusedVariables false
noncomputable section
def dj2 (k:Kn) (r:Nat) (t:Tr Nat) (g0:Lo) (brk cur:Nat) (_pg:Tr Nat) (x:Xt) (_g:Lo):Rs:=k r ⟨brk,cur,t,x,g0⟩
def dj1 (k:Kn) (r:Nat) (g0:Lo) (m:M) (t:Tr Nat):Rs:=M.rec (dj2 k r t g0) m
def djR (k:Kn) (p1 r:Nat) (m:M) (g0:Lo) (t:Tr Nat):Rs:=tput 0 p1 40 1 t (dj1 k r g0 m)
def dj0 (k:Kn) (p0 p1 r:Nat) (m:M) (g0:Lo):Rs:=tput 0 p0 40 0 m.pg (djR k p1 r m g0)
def djO (k:Kn) (p0 p1 W:Nat) (g:Lo) (r:Nat) (m:M):Rs:=Bool.rec .bad (Nat.rec (dj0 k p0 p1 r m g) (fun _ _=>dj0 k p0 p1 r m ⟨g.wm,List.append m.g.rl g.rl,List.append m.g.wl g.wl⟩) g.wm) (bAnd (Nat.ble (Nat.succ r) W) (allB (fun e=>Nat.ble 2097152 (eA e)) m.g.wl))
def djX (k:Kn) (p0 p1 W:Nat) (g:Lo) (e:Ex) (r:Nat) (m:M):Rs:=Ex.rec (djO k p0 p1 W g r m) .bad (fun _=>.bad) (fun _=>.bad) e
def djT (v:Env) (f C W p0 p1 w1:Nat) (k:Kn) (brk cur:Nat) (x:Xt) (g:Lo) (t:Tr Nat):Rs:=Rs.rec .bad (djX k p0 p1 W g) (v.call f C ⟨brk,cur,t,x,⟨w1,[],[]⟩⟩ okN)
def djS (v:Env) (f C W p0 p1 w1:Nat) (k:Kn) (brk cur:Nat) (x:Xt) (g:Lo) (t:Tr Nat):Rs:=tput 0 0 40 1 t (djT v f C W p0 p1 w1 k brk cur x g)
def djQ (v:Env) (f C W p0 p1 w1:Nat) (k:Kn) (brk cur:Nat) (pg:Tr Nat) (x:Xt) (g:Lo) (q:Nat):Rs:=tput 0 q 40 0 pg (djS v f C W p0 p1 w1 k brk cur x g)
def djN (v:Env) (f n C W w1:Nat) (k:Kn) (brk cur:Nat) (pg:Tr Nat) (x:Xt) (g:Lo) (p0 p1:Nat):Rs:=natK (Nat.shiftLeft (fld p0 128 n) 128) (djQ v f C W p0 p1 w1 k brk cur pg x g)
def djP (v:Env) (f n C W w1:Nat) (k:Kn) (brk cur:Nat) (pg:Tr Nat) (x:Xt) (g:Lo) (p0:Nat):Rs:=natK (tget 0 pg 1) (djN v f n C W w1 k brk cur pg x g p0)
def djV (v:Env) (f n C W:Nat) (k:Kn) (brk cur:Nat) (pg:Tr Nat) (x:Xt) (g:Lo) (w1:Nat):Rs:=Bool.rec .bad (natK (tget 0 pg 0) (djP v f n C W w1 k brk cur pg x g)) (bAnd (Nat.ble 2097152 w1) (Nat.ble w1 brk))
def djU (v:Env) (f n C W:Nat) (k:Kn) (brk cur:Nat) (pg:Tr Nat) (x:Xt) (g:Lo):Rs:=natK (Nat.rec 2097152 (fun _ _=>g.wm) g.wm) (djV v f n C W k brk cur pg x g)
def dirH (v:Env) (f n W:Nat):Hf:=fun _ _ C m k=>M.rec (djU v f n C W k) m
def pgH (h:Hf):Hf:=fun v n C m k=>alcP m 0 0 fun _ m1=>h v n C m1 k
def rsE (x:Rs) (r:Nat):Bool:=Rs.rec false (fun e F _=>Ex.rec (Nat.beq F r) false (fun _=>false) (fun _=>false) e) x
structure Gp where
  n:Nat
  ds:List Mo
def memN (C:Nat) (m:M) (k:Kn) (gs:List Gp):Rs:=List.rec .bad (fun g _ ih=>Bool.rec ih (memK g.ds C m k) (Nat.beq (slLen (fld C 0 128)) g.n)) gs
def lgK (k:Kn) (r:Nat) (m:M):Rs:=rlog m 0 m.g.wm (k r)
def memG (gs:List Gp):Hf:=fun _ _ C m k=>memN C m (lgK k) gs
def moC (n:Nat) (d:Mo):Bool:=bAnd (Nat.beq d.as.length n) (bAnd (allB (fun x=>Nat.ble (Nat.succ x) (Nat.pow 2 128)) (List.append d.as d.cs)) (bAnd (allB (fun x=>Nat.ble 1 x) d.as) (bAnd (bOr (Nat.beq (tag d.r) 23) (Nat.beq (tag d.r) 3)) (Nat.ble (Nat.succ d.r) (Nat.pow 2 128)))))
def moT1 (v:Env) (f ns:Nat) (st:Tr Nat) (d:Mo):Bool:=rsE (v.call f (cellsN d.as) (mA ns st (mix (cellsN (0 :: d.cs)))) endK) d.r
def zr (n:Nat) (l:List Nat):List Nat:=Nat.rec l (fun _ ih=>0 :: ih) n
end
end Go.Proofs.YtceaohiahajolaaGreatDoor.VM
namespace Go.Proofs.YtceaohiahajolaaGreatDoor.VM
set_option linter.unusedVariables false
noncomputable section
def memY (h:Hf) (ds:List Mo) (v:Env) (n C:Nat) (m:M) (k:Kn):Rs:=List.rec (h v n C m k) (fun d _ ih=>Bool.rec ih (k d.r m) (moB C m d)) ds
def memF (h:Hf) (ds:List Mo):Hf:=fun v n C m k=>Bool.rec (h v n C m k) (memY h ds v n C m k) (Nat.beq m.g.wm 0)
end
end Go.Proofs.YtceaohiahajolaaGreatDoor.VM
namespace Go.Proofs.YtceaohiahajolaaGreatDoor.VM
noncomputable section
def stT:Tr Nat:=(.node (.node (.node (.node (.node (.node .nil 435728179558 .nil) 133562636007801 (.node .nil 7628140 .nil)) 68420430646614029312247120962967638038641908818085495258175908545750747255515776196498020693701522032 (.node (.node .nil 7628147 .nil) 270211885617516653982000 (.node .nil 91 .nil))) 1387731199632867458603377410173546321287677905480759064165647090645179480288320895870878478166077273640702718575131638089663032291952 (.node (.node (.node .nil 125 .nil) 121420578191737 (.node .nil 61 .nil)) 2964175850346770325492149934068151265148152208127113262654959421788115352022186978173777616660191934452871557140038256504986787919940241847055083602377527861947008188412922079647039975948568937164817232472563245786148783394878064 (.node (.node .nil 1801678700 .nil) 41 .nil))) 3373387676861774534066755852973466140361675031501434344355528988127856 (.node (.node (.node (.node .nil 44 .nil) 121420578912633 (.node .nil 7738135660106379122 .nil)) 4763246948333984016566410534862501235556080161594971335605401893744548033990595298068573224470190342616577708415841014463768496738558532149504543312735058079666711590041628913518202826346741987325585723195011796235247394865474659030194876101427108537410491469342973401958600271647896203888 (.node (.node .nil 111550592214372 .nil) 1668248176 (.node .nil 11563 .nil))) 66103330393709973137926141397927284424628867859630125829372730394429183777072941789247645673169683451597134627199270885426082348515536318599396541622356567237944452125570782989501875122667147090482814762030528251893987657403479622972725165338918599354329815699270868628080 (.node (.node (.node .nil 237927390410950444456928663707796224754864904193074819559483181009558347043374296609072 .nil) 218761504 (.node .nil 7105633 .nil)) 82715225197843757784567890205849265291313030115193380105894925968301306996553631835226259516010935456548760114709841654542960 (.node (.node .nil 26217 .nil) 111516266162547 .nil)))) 0 (.node (.node (.node (.node (.node .nil 1013866857139168856493015739252390649739422828853819106890363778118420553376247557433637691341895324351018602695588957474325319502760499485336098898398377509666851054660423406800006203933793007272033180812049178612605246075062580585469430410618860250057463399279570354286669047577758927328864388992123306212451509403152394148136105363817402562688186708175358218852349079190158732807302672745370040257219644697201681238697346923541678507645485296520536209706771857694240900605172937619415410180424934769249448772944216470541052485265558808433676546390051204254346932932316488017972311616136051587427851453983453479168 .nil) 121468008102265 (.node .nil 1953066341 .nil)) 519211898051010518709293755598491374107400179793124616314121231632824288351534991888994867057225291512705680439539531831873678231622217856522206181264210786958294578230452386482057840 (.node (.node .nil 7632240 .nil) 435610083700 (.node .nil 93 .nil))) 10530868094913534011589670607174815892827503702032708398586237007868834702709785611286158684251495702216181096676111958708429470683040126963615900055987815207914472690606445071786424297479977814226849583353146864240 (.node (.node (.node .nil 196808924543273351654744084199064270893917454994213902225728097 .nil) 121420578188921 (.node .nil 46 .nil)) 13259105644739934752968012037775170910601080631773430813380731252 (.node (.node .nil 28555834798400882 .nil) 59 .nil))) 19258639122788737943528200732467380325125787330919333919599477226230747621387186184078692808091452547588951011979888 (.node (.node (.node (.node .nil 123 .nil) 121420762741113 (.node .nil 1886349411 .nil)) 6331441367373268903204172477082855667723943262838210982759717290598881353462559930582576388438636176497033056953184167622059223009473628531327011486883944510727392036589925185464501886442112832273305763345188936925573364052841280354965983382769670726470988127560160999098647498134320786810063653536349834981541118029853586032 (.node (.node .nil 1851876211 .nil) 40 (.node .nil 42 .nil))) 1147904343771263238401901393773836064384111650893324498094657054152197092574594792169593571216837504769421936 (.node (.node (.node .nil 1684104562 .nil) 47356866181236226030629615511081921505537742918583635707057254358312221231033175584760417 (.node .nil 110386873460851 .nil)) 9975042383808756751997755764 (.node (.node .nil 7499622 .nil) 1702195828 .nil)))))
def n0:Nat:=79540310088394075423143847998934365726332825145136635993866840216748212943658806775361577151361195063269257743037175044272217914443101996943749286654595510769350539898297169416543580527055028843017340796074785903848146983583522801056689806071159287794852935135063224942425542581362969262856707654910577940348164436792581194691112804964968800500929481868060408720491777303701815655144883488336526075644511022300260264300095178102447929377856100130788495306730242073
def n1:Nat:=4657554276902126805446938465387507665884719066790644713883185404220660141181769751256237904483709449373903805732543085941178702535988252499926823440272614909652477293133022845466905991424580636966251473645609531002980941862075891735
def n2:Nat:=18446744073709551616
def n3:Nat:=2460560452954921461961439425102603530776596430980603833423927423650909903418441580625955222747321917923906431023328921224035748566537959246320676059315596341363911017667375940642904987531481288630640812193572827471130685930422559297825214538941544101524370025475489094114562540993273551184001656400272980758191292835960823386165313207148806397503335838302531843222221136468623755900146567322831881235802267096289275867024457195091466763715727072538833078919652090825331065790016946687423569171673251863
def n4:Nat:=906246142517073021882417922303303117517181379488417221949081461252677664468028661406116376585427379827497064682487841
def n5:Nat:=9223372036854775808
def n6:Nat:=442457661688105704285942824940792922207725318222066054486759945565121516109944926366485692958629436000933781112069162778592836203317604643842905009813454873
def n7:Nat:=2663218052458272494742132655199821880633036141748914557567182048152932650582041
def n8:Nat:=65237913806424611790589472514652790230599609524497744970377132018824290790333450040421852047974243499133596191520358603114314509487185540923914145577415757385134092225381147284007476511950594803638574175281760176671696589849990778128623751864996593072892097033293027686937362368832728671968687865807436572995516000282404171212853809625306647359753821230608494301429514551168642879432501158380926569598169001244975253240737103034607107620671365110426454980048447759228195280712663102155930647789710995034003697331787826597066305875529635861003781243663777716126589300957762232506071235423795224913579856471135679165720831386903780766512319471571572830043969934225097708097271055257896519005166047264730475840613124206737364910760385578426335065251549850258505739039656249086845171766978107718684492235015639523548471995745882140671445882692477013457126649652521877427406857393747868502147024692629243022258907488029451558591544636031037123117063087828203358457430041
def n9:Nat:=308379582388679733290202574958734460932380031929392598000552424566501865215939961337929756150345055610164144056113287101280816615526302531583386511703277593
def n10:Nat:=347376267711948586270712955026063723571039272105312661412664114068987739897879
def n11:Nat:=1300266204481017814005208323304739255571452534870191174491271524845395519418577088988745315993798607780925105309220897
def n12:Nat:=150560540381532442215158662988109613721918998400890583413399295915616873440094079072917188827960016138260317732038560367619212948764018889943271604662902230990908660457206347996577753353951379481
def n13:Nat:=308379582388679733290202574958734460932143619892214231125278750325901003533110640823199336632291601559588756604562836537458987423637387613578625875057836041
def n14:Nat:=11229318108390969294291362045248350978081
def n15:Nat:=33007389591331030955947336920881516511257
def n16:Nat:=7826494439181584659657615970930668863511
def n17:Nat:=347376267711948586270712955026063723560830801097684507508762875846034693554179
def n18:Nat:=3589554766356802058130700535269325143461918278009406577590549717075691833393183
def n19:Nat:=347376267711948586270712955026063723567636448436103276778030367994670057783305
def n20:Nat:=12150774216120300666103815053079881949938146053107697135748543246078887266470884982702856328185740671337342165961488175896151427514018174407675030180880452920320704080861733164779251193927680289377921476443954757392460978467178392172358941147145313729858164505339225964577
def n21:Nat:=8507059173023461586584365185794205286425
def n22:Nat:=308379582388679733290202574958734460932931660016142120709524331127903875809211077687716272403696331717823584160914248049840616343094691350554679303567573015
def n23:Nat:=48128060861321976989618364142337579213104902189763882997088489498584288564349789202027764252046082579294941563024485350175632730941962770582909296260018282959722462991900924184058514229794781372442663031938028111333168876706664022047
def n24:Nat:=512917139566204332255321520270912314639057923
def n25:Nat:=906246142517073021882417922303303117519497221273163545857552880952851422625072283027946247804554875532779694109753377
def n26:Nat:=33007389591331030955947336920881516511329
def n27:Nat:=11231832656019670956086385545842727061800195902158465742783332985688455091585121
def n28:Nat:=1020847100762815390390123822295304634391
def n29:Nat:=10548753374549092367364612830384814555167
def n30:Nat:=347376267711948586270712955026063723571039272105312661412664114068987739897889
def n31:Nat:=590295810358705651703
def n32:Nat:=11229318108390969294291362045248350978057
def n33:Nat:=1180591620717411303424
def n34:Nat:=22118353849861000125119349483064933744663
def n35:Nat:=1020847100762815390390123822295304634401
def n36:Nat:=7826494439181584659657615970930668863521
def n37:Nat:=340282366920938463463374607431768211489
end
end Go.Proofs.YtceaohiahajolaaGreatDoor.VM
