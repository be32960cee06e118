/- The machine in the form in which functions are printed: every step names what follows it. -/
import Derived.Test.YteboddabjocpoaaAm0
set_option linter.all false
namespace Go.Am

def pickV (c x y : V) : Option V :=
  match c with
  | .b q => match q with | true => some x | false => some y
  | _ => none
def nilcV (x : V) : Option V :=
  match x with
  | .p r z n i o => some (.p r z n i o)
  | .pe cs => some (.pe cs)
  | .fn f caps => some (.fn f caps)
  | _ => none
def cvtV (k : IntKind) (x : V) : Option V :=
  match x with
  | .i _ n => some (.i k (qcvt k n))
  | _ => none
def extV (x : V) (ix : Nat) : Option V :=
  match x with
  | .tup vs => vs[ix]?
  | _ => none
def bestsV (mn : Bool) (xs : List V) : Option V :=
  match xs with
  | v :: vs => bestV mn v vs
  | [] => none

/-- What follows a value that may not be there. -/
def dOpt (o : Option V) (K : V → Prop) : Prop :=
  match o with
  | some v => K v
  | none => False
def dOpt2 (o : Option (V × Heap)) (K : V → Heap → Prop) : Prop :=
  match o with
  | some q => K q.1 q.2
  | none => False
def dOptH (o : Option Heap) (K : Heap → Prop) : Prop :=
  match o with
  | some q => K q
  | none => False
def dBuild (zero : List V) (ps : List (Nat × Nat × V)) : Option V := (fillCs ps zero).map .agg
def s2bV (x : V) : Option V :=
  match x with
  | .s c => match qroom (qslen c) 1 with | true => some (.tl false 1 (qsbytes c)) | false => none
  | _ => none
def b2sV (x : V) (H : Heap) : Option V := (elems H 1 x).bind fun es => (qsof es).map fun c => .s c
def appV (e : TypeId) (z by_ : Nat) (s x : V) (H : Heap) : Option (V × Heap) := (elems H z x).bind fun xs => appendV e z by_ s xs H
def appSV (e : TypeId) (by_ : Nat) (s x : V) (H : Heap) : Option (V × Heap) :=
  match x with
  | .s c => appendV e 1 by_ s (qsbytes c) H
  | _ => none

/-- A group of operations that are done where a variable is as wanted; skipped otherwise. -/
def dGrp (c : V) (want : Bool) (run skip : (List V → Heap → Prop) → Prop) (K : List V → Heap → Prop) : Prop :=
  match c with
  | .b q => match want with
    | true => match q with | true => run K | false => skip K
    | false => match q with | true => skip K | false => run K
  | .un => skip K
  | _ => False
def dIf (c : V) (a d : (List V → Heap → Prop) → Prop) (K : List V → Heap → Prop) : Prop :=
  match c with
  | .b q => match q with | true => a K | false => d K
  | _ => False
def dBlk (a : (List V → Heap → Prop) → Prop) (K : List V → Heap → Prop) : Prop := a K
def dLoop : Nat → (List V → Heap → (List V → Heap → Prop) → Prop) → List V → Heap → Prop
  | 0, _, _, _ => False
  | k + 1, F, s, H => F s H fun s' H' => dLoop k F s' H'

section
variable (C : Call1)
def dCallV (f : V) (args : List V) (H : Heap) (K : V → Heap → Prop) : Prop :=
  match f with
  | .fn g caps => C g (args ++ caps) H K
  | _ => False

def stepD (o : RO) (t : List V) (H : Heap) (K : V → Heap → Prop) : Prop :=
  match o with
  | .mv x => K (rv t x) H
  | .pick c x y => dOpt (pickV (rv t c) (rv t x) (rv t y)) fun v => K v H
  | .box T x => dOpt2 (boxV T (rv t x) H) K
  | .alloc T zero => dOpt2 (allocV T zero H) K
  | .build zero ps => dOpt (dBuild zero (ps.map fun q => (q.1, q.2.1, rv t q.2.2))) fun v => K v H
  | .buildS e z zero len ps => dOpt2 (buildSliceV e z zero len (ps.map fun q => (q.1, rv t q.2)) H) K
  | .lit z zero len ps => dOpt (litV z zero len (ps.map fun q => (q.1, rv t q.2))) fun v => K v H
  | .nul => K .zs H
  | .load z ag a => dOpt (loadV z ag (rv t a) H) fun v => K v H
  | .store z a x => dOptH (storeV z (rv t a) (rv t x) H) fun H' => K .un H'
  | .nilc x => dOpt (nilcV (rv t x)) fun v => K v H
  | .bin op x y => dOpt (binV op (rv t x) (rv t y)) fun v => K v H
  | .binB op x y => dOpt (binBV op (rv t x) (rv t y)) fun v => K v H
  | .binN op x y => dOpt (binNV op (rv t x) (rv t y)) fun v => K v H
  | .binA op nf x y => dOpt (binAV op nf (rv t x) (rv t y)) fun v => K v H
  | .unop op x => dOpt (unV op (rv t x)) fun v => K v H
  | .cvtI k x => dOpt (cvtV k (rv t x)) fun v => K v H
  | .s2b x => dOpt (s2bV (rv t x)) fun v => K v H
  | .b2s x => dOpt (b2sV (rv t x) H) fun v => K v H
  | .mkf f caps => K (.fn f (caps.map (rv t))) H
  | .mkS e z by_ zero l c => dOpt2 (makeSliceV e z by_ zero (rv t l) (rv t c) H) K
  | .cutL z x lo hi mx => dOpt (cutLV z (rv t x) (lo.map (rv t)) (hi.map (rv t)) (mx.map (rv t))) fun v => K v H
  | .cutS x lo hi => dOpt (cutSV (rv t x) (lo.map (rv t)) (hi.map (rv t))) fun v => K v H
  | .fa off x => dOpt (fieldA off (rv t x)) fun v => K v H
  | .fv off z ag x => dOpt (fieldV off z ag (rv t x)) fun v => K v H
  | .ia z x ix => dOpt (indexA z (rv t x) (rv t ix)) fun v => K v H
  | .is x ix => dOpt (indexS (rv t x) (rv t ix)) fun v => K v H
  | .ext x ix => dOpt (extV (rv t x) ix) fun v => K v H
  | .call f args => dCallV C (rv t f) (args.map (rv t)) H K
  | .len str x => dOpt (lenV str (rv t x)) fun v => K v H
  | .best mn xs => dOpt (bestsV mn (xs.map (rv t))) fun v => K v H
  | .app e z by_ s x => dOpt2 (appV e z by_ (rv t s) (rv t x) H) K
  | .appS e by_ s x => dOpt2 (appSV e by_ (rv t s) (rv t x) H) K
  | .bad => False

/-- Operations in a row, the guarded ones in groups. -/
inductive GS where
  | one (d : Option Nat) (o : RO)
  | grp (d : Nat) (want : Bool) (ops : List (Option Nat × RO)) (outs : List Nat)

def getAll (t : List V) : List Nat → List V
  | [] => []
  | i :: is => t.getD i .un :: getAll t is
def setAll (t : List V) : List Nat → List V → List V
  | [], _ => t
  | i :: is, s => setAll (t.set i (s.headD .un)) is s.tail
def killAll (t : List V) : List Nat → List V
  | [] => t
  | i :: is => killAll (t.set i .junk) is
def unAll : List Nat → List V
  | [] => []
  | _ :: is => .un :: unAll is

def opsF : List (Option Nat × RO) → List V → Heap → (List V → Heap → Prop) → Prop
  | [], t, H, K => K t H
  | o :: rest, t, H, K => stepD C o.2 t H fun v H' => opsF rest (putV t o.1 v) H' K

def opsD : List GS → List V → Heap → (List V → Heap → Prop) → Prop
  | [], t, H, K => K t H
  | .one d o :: rest, t, H, K => stepD C o t H fun v H' => opsD rest (putV t d v) H' K
  | .grp d want ops outs :: rest, t, H, K =>
      dGrp (t.getD d .un) want (fun k => opsF C ops t H fun t' H' => k (getAll t' outs) H') (fun k => k (unAll outs) H) fun s H' => opsD rest (setAll t outs s) H' K
end

/-! ### Code with its joins -/
/-- An order of operations: one that may come first whatever is left ('lt': it looks at no memory, 'rd': it reads), or each that may come next. -/
inductive Sc where
  | nil
  | lt (i : Nat) (r : Sc)
  | rd (i : Nat) (r : Sc)
  | st (o : Sc)
  | alt (i : Nat) (r o : Sc)
  | stop

def Sc.isStop : Sc → Bool
  | .stop => true
  | _ => false

inductive RD where
  | skip
  | reg (gs : List GS)
  | tree (os : List RS) (af : List (List Nat)) (nl : List Bool) (sc : Sc) (kill sel : List Nat)
  | seq (a b : RD)
  | cond (c : RX) (a b : RD) (kill sel : List Nat)
  | block (id : Nat) (c : RD) (kill sel : List Nat)
  | loop (c : RD) (kill sel : List Nat)
  | exit (id : Nat)
  | ret
  | bad

def dAlt (A B : Prop) : Prop := A ∧ B
def dChk (o : Option V) (v : V) (K : Prop) : Prop := o = some v ∧ K
def dChkG (c : V) (want : Bool) (o : Option V) (v : V) (K : Prop) : Prop := (c = .b want → o = some v) ∧ K

def rdV (o : RO) (t : List V) (H : Heap) : Option V :=
  match o with
  | .load z ag a => loadV z ag (rv t a) H
  | .b2s x => b2sV (rv t x) H
  | _ => none

def chkD (os : List RS) : List Nat → List V → Heap → Prop → Prop
  | [], _, _, K => K
  | k :: ks, t, H, K => match os[k]? with
    | none => False
    | some o => match o.d with
      | none => False
      | some d => match o.g with
        | none => dChk (rdV o.o t H) (t.getD d .un) (chkD os ks t H K)
        | some (g, w) => dChkG (t.getD g .un) w (rdV o.o t H) (t.getD d .un) (chkD os ks t H K)

section
variable (C : Call1)
def guardedD (o : RS) (t : List V) (H : Heap) (K : List V → Heap → Prop) : Prop :=
  match o.g with
  | none => stepD C o.o t H fun v H' => K (putV t o.d v) H'
  | some (d, w) => dGrp (t.getD d .un) w (fun k => stepD C o.o t H fun v H' => k [v] H') (fun k => k [.un] H) fun s H' => K (putV t o.d (s.headD .un)) H'

def schedD (os : List RS) (af : List (List Nat)) (nl : List Bool) (K : List V → Heap → Prop) : Sc → List Nat → List V → Heap → Prop
  | .nil, _, t, H => K t H
  | .lt i r, W, t, H => match os[i]? with
    | some o => guardedD C o t H fun t' H' => schedD os af nl K r W t' H'
    | none => False
  | .rd i r, W, t, H => match os[i]? with
    | some o => guardedD C o t H fun t' H' => schedD os af nl K r (i :: W) t' H'
    | none => False
  | .st o, W, t, H => schedD os af nl K o W t H
  | .alt i r o, W, t, H => match os[i]? with
    | none => False
    | some x => match o.isStop with
      | true => guardedD C x t H fun t' H' => match nl.getD i false with
        | true => schedD os af nl K r (W.filter fun k => !((af.getD i []).contains k)) t' H'
        | false => chkD os (W.filter fun k => !((af.getD i []).contains k)) t' H' (schedD os af nl K r (W.filter fun k => !((af.getD i []).contains k)) t' H')
      | false => dAlt (guardedD C x t H fun t' H' => match nl.getD i false with
        | true => schedD os af nl K r (W.filter fun k => !((af.getD i []).contains k)) t' H'
        | false => chkD os (W.filter fun k => !((af.getD i []).contains k)) t' H' (schedD os af nl K r (W.filter fun k => !((af.getD i []).contains k)) t' H')) (schedD os af nl K o W t H)
  | .stop, _, _, _ => True
end

section
variable (C : Call1)
def runD (n : Nat) : RD → List V → Heap → (List V → Heap → Prop) → (Nat → List V → Heap → Prop) → (List V → Heap → Prop) → Prop
  | .skip, t, H, K, _, _ => K t H
  | .reg gs, t, H, K, _, _ => opsD C gs t H K
  | .tree os af nl sc kill sel, t, H, K, _, _ => dBlk (fun k => schedD C os af nl (fun t' H' => k (getAll t' sel) H') sc [] t H) fun s H' => K (setAll (killAll t kill) sel s) H'
  | .seq a d, t, H, K, X, R => runD n a t H (fun t' H' => runD n d t' H' K X R) X R
  | .cond c a d kill sel, t, H, K, X, R => dIf (rv t c) (fun k => runD n a t H (fun t' H' => k (getAll t' sel) H') X R) (fun k => runD n d t H (fun t' H' => k (getAll t' sel) H') X R)
      fun s H' => K (setAll (killAll t kill) sel s) H'
  | .block id c kill sel, t, H, K, X, R => dBlk (fun k => runD n c t H (fun t' H' => k (getAll t' sel) H') (fun j t' H' => match Nat.beq j id with | true => k (getAll t' sel) H' | false => X j t' H') R)
      fun s H' => K (setAll (killAll t kill) sel s) H'
  | .loop c kill sel, t, H, _, X, R => dLoop n (fun s H k => runD n c (setAll (killAll t kill) sel s) H (fun t' H' => k (getAll t' sel) H') X R) (getAll t sel) H
  | .exit id, t, H, _, X, _ => X id t H
  | .ret, t, H, _, _, R => R t H
  | .bad, _, _, _, _, _ => False

/-- What a body hands back. -/
def retsD : List (Nat ⊕ (Nat × Nat × Bool)) → List V → Heap → (List V → Prop) → Prop
  | [], _, _, K => K []
  | .inl i :: rs, t, H, K => retsD rs t H fun vs => K (t.getD i .un :: vs)
  | .inr (a, z, ag) :: rs, t, H, K => dOpt (loadV z ag (t.getD a .un) H) fun v => retsD rs t H fun vs => K (v :: vs)
def oneV : List V → V
  | [v] => v
  | vs => .tup vs

structure RFD where
  ntmps : Nat
  res : List (Nat ⊕ (Nat × Nat × Bool))
  body : RD

def frameD (fn : RFD) (args : List V) : List V := args ++ List.replicate (fn.ntmps - args.length) .un
def bodyD (n : Nat) (fn : RFD) (args : List V) (H : Heap) (K : V → Heap → Prop) : Prop :=
  match Nat.ble args.length fn.ntmps with
  | true => runD C n fn.body (frameD fn args) H (fun t H' => retsD fn.res t H' fun vs => K (oneV vs) H') (fun _ _ _ => False) (fun t H' => retsD fn.res t H' fun vs => K (oneV vs) H')
  | false => False
end

/-! ### Hints: joins, groups, orders -/
inductive An where
  | l
  | r (ord : List Nat)
  | t (sc : Sc) (kill sel : List Nat)
  | s (a b : An)
  | c (a b : An) (kill sel : List Nat)
  | b (a : An) (kill sel : List Nat)

def spanG (d : Nat) (want : Bool) : List RS → List (Option Nat × RO) × List RS
  | [] => ([], [])
  | o :: rest => match o.g with
    | some (d', w') => match (Nat.beq d d' && (want == w')) with
      | true => match spanG d want rest with | (a, b) => ((o.d, o.o) :: a, b)
      | false => ([], o :: rest)
    | none => ([], o :: rest)

def dsts : List (Option Nat × RO) → List Nat
  | [] => []
  | o :: rest => match o.1 with | some d => d :: dsts rest | none => dsts rest

def nodupB : List Nat → Bool
  | [] => true
  | a :: l => !(l.any (Nat.beq a)) && nodupB l

def groupsD : Nat → List RS → Option (List GS)
  | 0, _ => none
  | k + 1, os => match os with
    | [] => some []
    | o :: rest => match o.g with
      | none => match groupsD k rest with | some gs => some (.one o.d o.o :: gs) | none => none
      | some (d, want) => match spanG d want (o :: rest) with
        | (ops, rest') => match groupsD k rest' with
          | some gs => match nodupB (d :: dsts ops) with
            | true => some (.grp d want ops (dsts ops) :: gs)
            | false => none
          | none => none

end Go.Am

/- The printed form's steps are the machine's. -/
namespace Go.Am
section
variable {C : Call1}

def Mono (C : Call1) : Prop := ∀ (f : Nat) (args : List V) (H : Heap) (K K' : V → Heap → Prop), (∀ v H, K v H → K' v H) → C f args H K → C f args H K'

theorem stepP_mono (hC : Mono C) {o : RO} {t : List V} {H : Heap} {K K' : V → Heap → Prop} (hk : ∀ v H, K v H → K' v H) (h : stepP C o t H K) : stepP C o t H K' := by
  cases o with
  | call f args =>
    simp only [stepP, force_eq] at h ⊢
    split at h
    · exact hC _ _ _ _ _ hk h
    · exact h.elim
  | _ =>
    all_goals
      simp only [stepP] at h ⊢
      split at h
      · exact hk _ _ h
      · exact h.elim

theorem guardedP_mono (hC : Mono C) {o : RS} {t : List V} {H : Heap} {K K' : List V → Heap → Prop} (hk : ∀ t H, K t H → K' t H) (h : guardedP C o t H K) : guardedP C o t H K' := by
  unfold guardedP at h ⊢
  split at h
  · exact stepP_mono hC (fun _ _ => hk _ _) h
  · split at h
    · rename_i q _
      split at h
      · cases q with
        | true => exact stepP_mono hC (fun _ _ => hk _ _) h
        | false => exact hk _ _ h
      · cases q with
        | true => exact hk _ _ h
        | false => exact stepP_mono hC (fun _ _ => hk _ _) h
    · exact hk _ _ h
    · exact h.elim

theorem opsP_mono (hC : Mono C) : ∀ (os : List RS) {t : List V} {H : Heap} {K K' : List V → Heap → Prop}, (∀ t H, K t H → K' t H) → opsP C os t H K → opsP C os t H K'
  | [], _, _, _, _, hk, h => hk _ _ h
  | _ :: os, _, _, _, _, hk, h => guardedP_mono hC (fun _ _ => opsP_mono hC os hk) h

theorem dOpt_mono {o : Option V} {K K' : V → Prop} (hk : ∀ v, K v → K' v) (h : dOpt o K) : dOpt o K' := by
  cases o with
  | none => exact h
  | some v => exact hk _ h
theorem dOpt2_mono {o : Option (V × Heap)} {K K' : V → Heap → Prop} (hk : ∀ v H, K v H → K' v H) (h : dOpt2 o K) : dOpt2 o K' := by
  cases o with
  | none => exact h
  | some v => exact hk _ _ h
theorem dOptH_mono {o : Option Heap} {K K' : Heap → Prop} (hk : ∀ H, K H → K' H) (h : dOptH o K) : dOptH o K' := by
  cases o with
  | none => exact h
  | some v => exact hk _ h

theorem stepD_mono (hC : Mono C) {o : RO} {t : List V} {H : Heap} {K K' : V → Heap → Prop} (hk : ∀ v H, K v H → K' v H) (h : stepD C o t H K) : stepD C o t H K' := by
  cases o with
  | call f args =>
    simp only [stepD, dCallV] at h ⊢
    split at h
    · exact hC _ _ _ _ _ hk h
    · exact h.elim
  | mv x => exact hk _ _ h
  | mkf f caps => exact hk _ _ h
  | nul => exact hk _ _ h
  | store z a x => exact dOptH_mono (fun H => hk _ H) h
  | box T x => exact dOpt2_mono hk h
  | alloc T x => exact dOpt2_mono hk h
  | buildS _ _ _ _ _ => exact dOpt2_mono hk h
  | mkS _ _ _ _ _ _ => exact dOpt2_mono hk h
  | app _ _ _ _ _ => exact dOpt2_mono hk h
  | appS _ _ _ _ => exact dOpt2_mono hk h
  | bad => exact h
  | _ => exact dOpt_mono (fun v => hk v H) h

theorem opsF_mono (hC : Mono C) : ∀ (os : List (Option Nat × RO)) {t : List V} {H : Heap} {K K' : List V → Heap → Prop}, (∀ t H, K t H → K' t H) → opsF C os t H K → opsF C os t H K'
  | [], _, _, _, _, hk, h => hk _ _ h
  | _ :: os, _, _, _, _, hk, h => stepD_mono hC (fun _ _ => opsF_mono hC os hk) h

theorem dGrp_mono {c : V} {want : Bool} {run skip : (List V → Heap → Prop) → Prop} {K K' : List V → Heap → Prop} (hr : run K → run K') (hs : skip K → skip K') (h : dGrp c want run skip K) : dGrp c want run skip K' := by
  unfold dGrp at h ⊢
  split at h
  · cases want <;> simp only at h ⊢ <;> split at h <;> first | exact hr h | exact hs h
  · exact hs h
  · exact h

theorem opsD_mono (hC : Mono C) : ∀ (os : List GS) {t : List V} {H : Heap} {K K' : List V → Heap → Prop}, (∀ t H, K t H → K' t H) → opsD C os t H K → opsD C os t H K'
  | [], _, _, _, _, hk, h => hk _ _ h
  | .one _ _ :: os, _, _, _, _, hk, h => stepD_mono hC (fun _ _ => opsD_mono hC os hk) h
  | .grp _ _ ops _ :: os, _, _, _, _, hk, h => dGrp_mono (fun h => opsF_mono hC ops (fun _ _ h => opsD_mono hC os hk h) h) (fun h => opsD_mono hC os hk h) h

theorem dOpt_iff {o : Option V} {K : V → Prop} (h : dOpt o K) : ∃ v, o = some v ∧ K v := by
  cases o with
  | none => exact h.elim
  | some v => exact ⟨v, rfl, h⟩
theorem dOpt2_iff {o : Option (V × Heap)} {K : V → Heap → Prop} (h : dOpt2 o K) : ∃ v H, o = some (v, H) ∧ K v H := by
  cases o with
  | none => exact h.elim
  | some v => exact ⟨v.1, v.2, rfl, h⟩
theorem dOptH_iff {o : Option Heap} {K : Heap → Prop} (h : dOptH o K) : ∃ H, o = some H ∧ K H := by
  cases o with
  | none => exact h.elim
  | some v => exact ⟨v, rfl, h⟩

theorem stepP_of {o : RO} {t : List V} {H H' : Heap} {v : V} {K : V → Heap → Prop} (hn : ∀ f args, o ≠ .call f args) (h : opV o t H = some (v, H')) (hk : K v H') : stepP C o t H K := by
  cases o with
  | call f args => exact absurd rfl (hn f args)
  | _ => simp only [stepP, h]; exact hk

theorem stepD_P {o : RO} {t : List V} {H : Heap} {K : V → Heap → Prop} (h : stepD C o t H K) : stepP C o t H K := by
  have lt : ∀ {q : Option V}, opV o t H = q.map (fun v => (v, H)) → (∀ f args, o ≠ .call f args) → dOpt q (fun v => K v H) → stepP C o t H K := by
    intro q e hn hd
    obtain ⟨v, rfl, hk⟩ := dOpt_iff hd
    exact stepP_of hn (by rw [e]; rfl) hk
  have l2 : (∀ f args, o ≠ .call f args) → dOpt2 (opV o t H) K → stepP C o t H K := by
    intro hn hd
    obtain ⟨v, H', e, hk⟩ := dOpt2_iff hd
    exact stepP_of hn e hk
  cases o with
  | mv x => exact stepP_of (by simp) rfl h
  | pick c x y =>
    refine lt (q := pickV (rv t c) (rv t x) (rv t y)) ?_ (by simp) h
    simp only [opV, lightV, pickV]
    cases rv t c <;> first | rfl | (rename_i q; cases q <;> rfl)
  | box T x => exact l2 (by simp) h
  | alloc T zero => exact l2 (by simp) h
  | build zero ps => exact lt rfl (by simp) h
  | buildS e z zero len ps => exact l2 (by simp) h
  | load z ag a => exact lt rfl (by simp) h
  | store z a x =>
    obtain ⟨H', e, hk⟩ := dOptH_iff h
    exact stepP_of (by simp) (by simp only [opV, e]; rfl) hk
  | nilc x =>
    refine lt (q := nilcV (rv t x)) ?_ (by simp) h
    simp only [opV, lightV, nilcV]
    cases rv t x <;> rfl
  | cvtI k x =>
    refine lt (q := cvtV k (rv t x)) ?_ (by simp) h
    simp only [opV, lightV, cvtV]
    cases rv t x <;> rfl
  | s2b x =>
    refine lt (q := s2bV (rv t x)) ?_ (by simp) h
    simp only [opV, s2bV]
    cases rv t x <;> first | rfl | (rename_i c; simp only; cases qroom (qslen c) 1 <;> rfl)
  | b2s x =>
    refine lt (q := b2sV (rv t x) H) ?_ (by simp) h
    simp only [opV, b2sV]
    cases elems H 1 (rv t x) with
    | none => rfl
    | some es => simp only [Option.bind_some]; cases qsof es <;> rfl
  | mkf f caps => exact stepP_of (by simp) rfl h
  | ext x ix =>
    refine lt (q := extV (rv t x) ix) ?_ (by simp) h
    simp only [opV, lightV, extV]
    cases rv t x <;> rfl
  | best mn xs =>
    refine lt (q := bestsV mn (xs.map (rv t))) ?_ (by simp) h
    simp only [opV, lightV, bestsV]
    cases xs.map (rv t) <;> rfl
  | call f args =>
    simp only [stepD, dCallV] at h
    simp only [stepP, force_eq]
    cases hf : rv t f <;> rw [hf] at h <;> first | exact h.elim | exact h
  | app e z by_ s x => exact l2 (by simp) h
  | appS e by_ s x =>
    refine l2 (by simp) ?_
    simp only [stepD, appSV] at h
    simp only [opV]
    cases hx : rv t x <;> rw [hx] at h <;> exact h
  | bad => exact h.elim
  | mkS e z by_ zero l c => exact l2 (by simp) h
  | nul => exact stepP_of (by simp) rfl h
  | _ => exact lt rfl (by simp) h

theorem getD_set_ne {t : List V} {d n : Nat} {x : V} (h : d ≠ n) : (t.set d x).getD n .un = t.getD n .un := by
  rw [List.getD_eq_getElem?_getD, List.getD_eq_getElem?_getD, List.getElem?_set_ne h]
theorem getD_put_ne {t : List V} {d : Option Nat} {n : Nat} {x : V} (h : d ≠ some n) : (putV t d x).getD n .un = t.getD n .un := by
  cases d with
  | none => rfl
  | some d => exact getD_set_ne fun e => h (by rw [e])

def AgreeOut (ds : List Nat) (t t' : List V) : Prop := t'.length = t.length ∧ ∀ n, n ∉ ds → t'.getD n .un = t.getD n .un

def gd (d : Nat) (want : Bool) (o : Option Nat × RO) : RS := { d := o.1, o := o.2, g := some (d, want) }

theorem putV_length (t : List V) (d : Option Nat) (x : V) : (putV t d x).length = t.length := by cases d <;> simp [putV]

theorem opsF_agree (hC : Mono C) : ∀ (ops : List (Option Nat × RO)) {t : List V} {H : Heap} {K : List V → Heap → Prop}, opsF C ops t H K → opsF C ops t H fun t' H' => K t' H' ∧ AgreeOut (dsts ops) t t'
  | [], t, H, K, h => ⟨h, rfl, fun _ _ => rfl⟩
  | o :: rest, t, H, K, h => by
    simp only [opsF] at h ⊢
    refine stepD_mono hC (fun v H' h => ?_) h
    refine opsF_mono hC rest (fun t' H'' h => ⟨h.1, ?_, fun n hn => ?_⟩) (opsF_agree hC rest h)
    · rw [h.2.1, putV_length]
    · have h1 : n ∉ dsts rest := fun hm => hn (by simp only [dsts]; split <;> simp [hm])
      have h2 : o.1 ≠ some n := fun e => hn (by simp [dsts, e])
      rw [h.2.2 n h1, getD_put_ne h2]

theorem setAll_length : ∀ (ds : List Nat) (t s : List V), (setAll t ds s).length = t.length
  | [], _, _ => rfl
  | i :: is, t, s => by simp only [setAll]; rw [setAll_length is]; simp

theorem ext_getD {t t' : List V} (hl : t.length = t'.length) (h : ∀ n, t.getD n .un = t'.getD n .un) : t = t' := by
  refine List.ext_getElem hl fun n h1 h2 => ?_
  have := h n
  rw [List.getD_eq_getElem?_getD, List.getD_eq_getElem?_getD, List.getElem?_eq_getElem h1, List.getElem?_eq_getElem h2] at this
  exact this

theorem setAll_not : ∀ (ds : List Nat) (t s : List V) (n : Nat), n ∉ ds → (setAll t ds s).getD n .un = t.getD n .un
  | [], _, _, _, _ => rfl
  | i :: is, t, s, n, h => by
    simp only [setAll]
    rw [setAll_not is _ _ n fun hm => h (by simp [hm]), getD_set_ne fun e => h (by simp [e])]

theorem setAll_get : ∀ (ds : List Nat) (t t' : List V) (n : Nat), n ∈ ds → n < t.length → (setAll t ds (getAll t' ds)).getD n .un = t'.getD n .un
  | [], _, _, _, h, _ => by simp at h
  | i :: is, t, t', n, h, hn => by
    simp only [setAll, getAll, List.headD_cons, List.tail_cons]
    by_cases hm : n ∈ is
    · exact setAll_get is _ t' n hm (by simpa using hn)
    · have : n = i := by simpa [hm] using h
      subst this
      rw [setAll_not is _ _ n hm, List.getD_eq_getElem?_getD, List.getElem?_set_self hn]
      rfl

theorem setAll_of_agree {ds : List Nat} {t t' : List V} (h : AgreeOut ds t t') : setAll t ds (getAll t' ds) = t' := by
  refine ext_getD (by rw [setAll_length, h.1]) fun n => ?_
  by_cases hm : n ∈ ds
  · by_cases hn : n < t.length
    · exact setAll_get ds t t' n hm hn
    · rw [List.getD_eq_getElem?_getD, List.getD_eq_getElem?_getD, List.getElem?_eq_none (by rw [setAll_length]; omega), List.getElem?_eq_none (by rw [h.1]; omega)]
  · rw [setAll_not ds _ _ n hm, h.2 n hm]

theorem mem_any {d : Nat} {l : List Nat} (h : (l.any (Nat.beq d)) = false) : d ∉ l := by
  intro hm
  have := List.any_eq_false.1 h d hm
  simp at this

theorem mem_dsts {o : Option Nat × RO} {rest : List (Option Nat × RO)} {d : Nat} (h : d ∉ dsts (o :: rest)) : o.1 ≠ some d ∧ d ∉ dsts rest := by
  constructor
  · intro e; exact h (by simp [dsts, e])
  · intro hm; exact h (by simp only [dsts]; split <;> simp [hm])

theorem grp_run (hC : Mono C) {d : Nat} {q : Bool} : ∀ (ops : List (Option Nat × RO)) {t : List V} {H : Heap} {K : List V → Heap → Prop}, d ∉ dsts ops → t.getD d .un = .b q → opsF C ops t H K → opsP C (ops.map (gd d q)) t H K
  | [], _, _, _, _, _, h => h
  | o :: rest, t, H, K, hd, ht, h => by
    obtain ⟨h1, h2⟩ := mem_dsts hd
    simp only [List.map_cons, opsP, guardedP, gd, ht]
    have hs : stepP C o.2 t H fun v H' => opsP C (rest.map (gd d q)) (putV t o.1 v) H' K :=
      stepP_mono hC (fun v H' h => grp_run hC rest h2 (by rw [getD_put_ne h1]; exact ht) h) (stepD_P h)
    cases q <;> exact hs

theorem grp_skip {d : Nat} {want : Bool} : ∀ (ops : List (Option Nat × RO)) {t : List V} {H : Heap} {K : List V → Heap → Prop}, d ∉ dsts ops → (t.getD d .un = .un ∨ t.getD d .un = .b (!want)) → K (setAll t (dsts ops) (unAll (dsts ops))) H → opsP C (ops.map (gd d want)) t H K
  | [], _, _, _, _, _, h => h
  | o :: rest, t, H, K, hd, ht, h => by
    obtain ⟨h1, h2⟩ := mem_dsts hd
    have ih := grp_skip (d := d) (want := want) rest (t := putV t o.1 .un) (H := H) (K := K) h2 (by rw [getD_put_ne h1]; exact ht) (by
      cases ho : o.1 with
      | none => simpa [dsts, ho, putV] using h
      | some d' => simpa [dsts, ho, putV, setAll, unAll] using h)
    simp only [List.map_cons, opsP, guardedP, gd]
    rcases ht with ht | ht
    · simp only [ht]; exact ih
    · simp only [ht]; cases want <;> exact ih

theorem opsP_append : ∀ (a b : List RS) (t : List V) (H : Heap) (K : List V → Heap → Prop), opsP C (a ++ b) t H K = opsP C a t H fun t' H' => opsP C b t' H' K
  | [], _, _, _, _ => rfl
  | o :: a, b, t, H, K => by simp only [List.cons_append, opsP, opsP_append a b]

theorem spanG_spec (d : Nat) (want : Bool) : ∀ (os : List RS) (ops : List (Option Nat × RO)) (rest : List RS), spanG d want os = (ops, rest) → os = ops.map (gd d want) ++ rest
  | [], ops, rest, h => by cases h; rfl
  | o :: os, ops, rest, h => by
    simp only [spanG] at h
    split at h
    · rename_i d' w' hg
      split at h
      · rename_i hb
        simp only [Bool.and_eq_true, beq_iff_eq] at hb
        have hd : d = d' := Nat.eq_of_beq_eq_true hb.1
        cases hr : spanG d want os with
        | mk a b =>
          rw [hr] at h
          cases h
          rw [List.map_cons, List.cons_append, ← spanG_spec d want os a b hr]
          congr 1
          obtain ⟨x, y, z⟩ := o
          simp only at hg
          simp [gd, hg, hd, hb.2]
      · cases h; rfl
    · cases h; rfl

theorem groups_sound (hC : Mono C) : ∀ (n : Nat) (os : List RS) (gs : List GS) {t : List V} {H : Heap} {K : List V → Heap → Prop}, groupsD n os = some gs → opsD C gs t H K → opsP C os t H K := by
  intro n
  induction n with
  | zero => intro os gs t H K h; cases h
  | succ n ih =>
    intro os gs t H K hg h
    cases os with
    | nil => cases hg; exact h
    | cons o os =>
      simp only [groupsD] at hg
      split at hg
      · rename_i hgo
        split at hg
        · rename_i gs' hgs
          cases hg
          simp only [opsD] at h
          simp only [opsP, guardedP, hgo]
          exact stepP_mono hC (fun v H' h => ih os gs' hgs h) (stepD_P h)
        · cases hg
      · rename_i d want hgo
        cases hsp : spanG d want (o :: os) with
        | mk ops rest =>
          rw [hsp] at hg
          simp only at hg
          split at hg
          · rename_i gs' hgs
            split at hg
            · rename_i hnd
              cases hg
              simp only [nodupB, Bool.and_eq_true, Bool.not_eq_true'] at hnd
              have hd : d ∉ dsts ops := mem_any hnd.1
              rw [spanG_spec d want _ _ _ hsp, opsP_append]
              simp only [opsD] at h
              unfold dGrp at h
              have run : ∀ q, t.getD d .un = .b q → q = want → opsF C ops t H (fun t' H' => opsD C gs' (setAll t (dsts ops) (getAll t' (dsts ops))) H' K) → opsP C (ops.map (gd d want)) t H fun t' H' => opsP C rest t' H' K := by
                rintro q hq rfl hf
                refine grp_run hC ops hd hq (opsF_mono hC ops (fun t' H' h => ?_) (opsF_agree hC ops hf))
                have := h.1
                rw [setAll_of_agree h.2] at this
                exact ih rest gs' hgs this
              have skip : (t.getD d .un = .un ∨ t.getD d .un = .b (!want)) → opsD C gs' (setAll t (dsts ops) (unAll (dsts ops))) H K → opsP C (ops.map (gd d want)) t H fun t' H' => opsP C rest t' H' K :=
                fun hq hf => grp_skip ops hd hq (ih rest gs' hgs hf)
              split at h
              · rename_i q hq
                cases want <;> cases q <;> simp only at h
                · exact run false hq rfl h
                · exact skip (.inr hq) h
                · exact skip (.inr hq) h
                · exact run true hq rfl h
              · rename_i hq
                exact skip (.inl hq) h
              · exact h.elim
            · cases hg
          · cases hg
end
end Go.Am

/- Regions that may be gone through in more than one order: operations that are in nobody's way may come first. -/
namespace Go.Am

def rxT : RX → List Nat
  | .t n => [n]
  | .c _ => []
def rxTs : List RX → List Nat
  | [] => []
  | x :: xs => rxT x ++ rxTs xs
def rxO : Option RX → List Nat
  | none => []
  | some x => rxT x
/-- The variables that an operation looks at. -/
def looksO : RO → List Nat
  | .mv x | .box _ x | .load _ _ x | .nilc x | .unop _ x | .cvtI _ x | .s2b x | .b2s x | .fa _ x | .fv _ _ _ x | .ext x _ | .len _ x => rxT x
  | .pick c x y => rxT c ++ rxT x ++ rxT y
  | .alloc _ _ => []
  | .build _ ps => rxTs (ps.map (·.2.2))
  | .buildS _ _ _ _ ps => rxTs (ps.map (·.2))
  | .lit _ _ _ ps => rxTs (ps.map (·.2))
  | .nul => []
  | .store _ a x => rxT a ++ rxT x
  | .bin _ x y | .binB _ x y | .binN _ x y | .binA _ _ x y | .ia _ x y | .is x y => rxT x ++ rxT y
  | .mkf _ caps => rxTs caps
  | .mkS _ _ _ _ l c => rxT l ++ rxT c
  | .cutL _ x lo hi mx => rxT x ++ rxO lo ++ rxO hi ++ rxO mx
  | .cutS x lo hi => rxT x ++ rxO lo ++ rxO hi
  | .call f args => rxT f ++ rxTs args
  | .best _ xs => rxTs xs
  | .app _ _ _ s x => rxT s ++ rxT x
  | .appS _ _ s x => rxT s ++ rxT x
  | .bad => []
def looksS (o : RS) : List Nat := match o.g with | some (d, _) => d :: looksO o.o | none => looksO o.o

def isRd : RO → Bool
  | .load _ _ _ | .b2s _ => true
  | .mv _ | .pick _ _ _ | .box _ _ | .alloc _ _ | .build _ _ | .buildS _ _ _ _ _ | .lit _ _ _ _ | .nul | .store _ _ _ | .nilc _ | .bin _ _ _ | .binB _ _ _ | .binN _ _ _ | .binA _ _ _ _ | .unop _ _ | .cvtI _ _ | .s2b _ | .mkf _ _ | .mkS _ _ _ _ _ _
  | .cutL _ _ _ _ _ | .cutS _ _ _ | .fa _ _ | .fv _ _ _ _ | .ia _ _ _ | .is _ _ | .ext _ _ | .call _ _ | .len _ _ | .best _ _ | .app _ _ _ _ _ | .appS _ _ _ _ | .bad => false
def isLt : RO → Bool
  | .load _ _ _ | .b2s _ | .box _ _ | .alloc _ _ | .buildS _ _ _ _ _ | .store _ _ _ | .mkS _ _ _ _ _ _ | .call _ _ | .app _ _ _ _ _ | .appS _ _ _ _ | .bad => false
  | .mv _ | .pick _ _ _ | .build _ _ | .lit _ _ _ _ | .nul | .nilc _ | .bin _ _ _ | .binB _ _ _ | .binN _ _ _ | .binA _ _ _ _ | .unop _ _ | .cvtI _ _ | .s2b _ | .mkf _ _
  | .cutL _ _ _ _ _ | .cutS _ _ _ | .fa _ _ | .fv _ _ _ _ | .ia _ _ _ | .is _ _ | .ext _ _ | .len _ _ | .best _ _ => true

/-- Same at all that is looked at. -/
def Same (l : List Nat) (t t' : List V) : Prop := ∀ n ∈ l, t.getD n .un = t'.getD n .un

section
variable {t t' : List V}
theorem Same.left {l l' : List Nat} (h : Same (l ++ l') t t') : Same l t t' := fun n hn => h n (by simp [hn])
theorem Same.right {l l' : List Nat} (h : Same (l ++ l') t t') : Same l' t t' := fun n hn => h n (by simp [hn])
theorem Same.symm {l : List Nat} (h : Same l t t') : Same l t' t := fun n hn => (h n hn).symm
theorem rv_same {x : RX} (h : Same (rxT x) t t') : rv t x = rv t' x := by
  cases x with
  | t n => exact h n (by simp [rxT])
  | c v => rfl
theorem rvs_same : ∀ {xs : List RX}, Same (rxTs xs) t t' → xs.map (rv t) = xs.map (rv t')
  | [], _ => rfl
  | x :: xs, h => by simp only [rxTs] at h; simp only [List.map_cons]; rw [rv_same h.left, rvs_same h.right]
theorem rvo_same {x : Option RX} (h : Same (rxO x) t t') : x.map (rv t) = x.map (rv t') := by
  cases x with
  | none => rfl
  | some x => exact congrArg some (rv_same h)

theorem build_same : ∀ {ps : List (Nat × Nat × RX)}, Same (rxTs (ps.map (·.2.2))) t t' → (ps.map fun q => (q.1, q.2.1, rv t q.2.2)) = ps.map fun q => (q.1, q.2.1, rv t' q.2.2)
  | [], _ => rfl
  | p :: ps, h => by simp only [List.map_cons, rxTs] at h ⊢; rw [rv_same h.left, build_same h.right]
theorem buildS_same : ∀ {ps : List (Nat × RX)}, Same (rxTs (ps.map (·.2))) t t' → (ps.map fun q => (q.1, rv t q.2)) = ps.map fun q => (q.1, rv t' q.2)
  | [], _ => rfl
  | p :: ps, h => by simp only [List.map_cons, rxTs] at h ⊢; rw [rv_same h.left, buildS_same h.right]

theorem opV_same {o : RO} {H : Heap} (h : Same (looksO o) t t') : opV o t H = opV o t' H := by
  cases o <;> simp only [looksO] at h <;> try (first
    | (simp only [opV, lightV, rv_same h]; done)
    | (simp only [opV, lightV, rv_same h.left, rv_same h.right]; done)
    | (simp only [opV, lightV, rvs_same h]; done)
    | (simp only [opV, lightV, build_same h]; done)
    | (simp only [opV, lightV, buildS_same h]; done)
    | rfl
    | (simp only [opV, lightV, rv_same h.left.left, rv_same h.left.right, rv_same h.right]; done)
    | (simp only [opV, lightV, rv_same h.left.left, rvo_same h.left.right, rvo_same h.right]; done)
    | (simp only [opV, lightV, rv_same h.left.left.left, rvo_same h.left.left.right, rvo_same h.left.right, rvo_same h.right]; done))

variable {C : Call1}
theorem stepP_same {o : RO} {H : Heap} {K : V → Heap → Prop} (h : Same (looksO o) t t') : stepP C o t H K = stepP C o t' H K := by
  cases o with
  | call f args =>
    simp only [looksO] at h
    simp only [stepP, rv_same h.left, rvs_same h.right]
  | _ => simp only [stepP, opV_same h]

theorem lt_heap {o : RO} {H H' : Heap} {v : V} (hl : isLt o = true) (h : opV o t H = some (v, H')) : H' = H ∧ ∀ H2, opV o t H2 = some (v, H2) := by
  have key : opV o t H = (lightV o t).map (fun v => (v, H)) → (∀ H2, opV o t H2 = (lightV o t).map fun v => (v, H2)) → H' = H ∧ ∀ H2, opV o t H2 = some (v, H2) := by
    intro e e2
    rw [e] at h
    cases hv : lightV o t with
    | none => rw [hv] at h; cases h
    | some u => rw [hv] at h; cases h; exact ⟨rfl, fun H2 => by rw [e2, hv]; rfl⟩
  cases o with
  | lit z zero len ps =>
    simp only [opV, Option.map_eq_some_iff, Prod.mk.injEq] at h
    obtain ⟨v', h1, rfl, rfl⟩ := h
    exact ⟨rfl, fun _ => by simp only [opV, h1, Option.map_some]⟩
  | nul => cases h; exact ⟨rfl, fun _ => rfl⟩
  | s2b x =>
    simp only [opV] at h ⊢
    cases hx : rv t x <;> rw [hx] at h <;> try (cases h; done)
    rename_i c
    simp only at h ⊢
    cases hq : qroom (qslen c) 1 <;> rw [hq] at h
    · cases h
    · cases h; exact ⟨rfl, fun _ => rfl⟩
  | _ => first | (cases hl; done) | exact key rfl fun _ => rfl

theorem rd_heap {o : RO} {H H' : Heap} {v : V} (hl : isRd o = true) (h : opV o t H = some (v, H')) : H' = H := by
  cases o <;> first
    | (cases hl; done)
    | (simp only [opV, Option.map_eq_some_iff, Option.bind_eq_some_iff] at h; obtain ⟨_, _, h⟩ := h; first | (cases h; rfl) | (obtain ⟨_, _, h⟩ := h; cases h; rfl))
end

/-! ### Guards, yields -/
def gOn (o : RS) (t : List V) : Option Bool :=
  match o.g with
  | none => some true
  | some (d, w) => match t.getD d .un with
    | .b q => some (q == w)
    | .un => some false
    | _ => none

def Yields (o : RS) (t : List V) (H : Heap) (v : V) : Prop := (gOn o t = some true ∧ opV o.o t H = some (v, H)) ∨ (gOn o t = some false ∧ v = .un)

/-- An operation that is carried out once more gives what it gave. -/
def Chk (o : RS) (d : Nat) (t : List V) (H : Heap) : Prop := gOn o t = some true → opV o.o t H = some (t.getD d .un, H)

def neutral (neu : Nat → Bool) (o : RO) : Bool :=
  isLt o || isRd o || match o with | .call (.c (.fn f _)) _ => neu f | _ => false

/-- Calls that leave the heap as it is. -/
def Neut (C : Call1) (neu : Nat → Bool) : Prop := ∀ (f : Nat), neu f = true → ∀ (args : List V) (H : Heap) (K : V → Heap → Prop), C f args H K → C f args H fun v H' => K v H' ∧ H' = H

section
variable {C : Call1} {t : List V}

theorem guardedP_eq (o : RS) (H : Heap) (K : List V → Heap → Prop) :
    guardedP C o t H K = match gOn o t with
      | some true => stepP C o.o t H fun v H' => K (putV t o.d v) H'
      | some false => K (putV t o.d .un) H
      | none => False := by
  unfold guardedP gOn
  cases o.g with
  | none => rfl
  | some g =>
    obtain ⟨d, w⟩ := g
    simp only
    cases t.getD d .un <;> try rfl
    rename_i q
    cases q <;> cases w <;> rfl

theorem Yields.guarded {o : RS} {H : Heap} {v : V} {K : List V → Heap → Prop} (hy : Yields o t H v) (h : K (putV t o.d v) H) (hn : isLt o.o = true ∨ isRd o.o = true) : guardedP C o t H K := by
  rw [guardedP_eq]
  rcases hy with ⟨h1, h2⟩ | ⟨h1, rfl⟩
  · simp only [h1]
    refine stepP_of ?_ h2 h
    intro f args e
    rw [e] at hn
    rcases hn with hn | hn <;> cases hn
  · simp only [h1]; exact h

theorem gOn_same {o : RS} {t' : List V} (h : Same (looksS o) t t') : gOn o t = gOn o t' := by
  unfold gOn
  unfold looksS at h
  cases ho : o.g with
  | none => rfl
  | some g =>
    rw [ho] at h
    obtain ⟨d, w⟩ := g
    simp only [h d (by simp)]

theorem looks_same {o : RS} {t' : List V} (h : Same (looksS o) t t') : Same (looksO o.o) t t' := by
  intro n hn
  refine h n ?_
  unfold looksS
  split <;> simp [hn]

theorem same_put {l : List Nat} {d : Option Nat} {v : V} (h : ∀ e, d = some e → e ∉ l) : Same l (putV t d v) t := fun n hn => getD_put_ne fun e => h n e hn

/-- What an operation turns. -/
theorem guarded_keep (hM : Mono C) {neu : Nat → Bool} (hN : Neut C neu) {o : RS} {H : Heap} {K : List V → Heap → Prop} (h : guardedP C o t H K) :
    guardedP C o t H fun t' H' => K t' H' ∧ (∃ u, t' = putV t o.d u) ∧ (neutral neu o.o = true → H' = H) := by
  rw [guardedP_eq] at h ⊢
  split at h
  · by_cases hc : ∃ f args, o.o = .call f args
    · obtain ⟨f, args, e⟩ := hc
      rw [e] at h ⊢
      simp only [stepP, force_eq] at h ⊢
      split at h
      · rename_i g caps hg
        by_cases hn : neutral neu (.call f args) = true
        · have : neu g = true := by
            unfold neutral at hn
            simp only [isLt, isRd, Bool.false_or] at hn
            split at hn
            · rename_i e2
              cases e2
              cases hg
              exact hn
            · cases hn
          exact hM _ _ _ _ _ (fun v H' h => ⟨h.1, ⟨v, rfl⟩, fun _ => h.2⟩) (hN g this _ _ _ h)
        · exact hM _ _ _ _ _ (fun v H' h => ⟨h, ⟨v, rfl⟩, fun e => absurd e hn⟩) h
      · exact h.elim
    · have : ∃ v H', opV o.o t H = some (v, H') ∧ K (putV t o.d v) H' := by
        generalize o.o = ro at *
        cases ro with
        | call f args => exact absurd ⟨f, args, rfl⟩ hc
        | _ =>
          all_goals
            simp only [stepP] at h
            split at h
            · rename_i q hq; exact ⟨q.1, q.2, hq, h⟩
            · exact h.elim
      obtain ⟨v, H', hv, hk⟩ := this
      refine stepP_of (fun f args e => hc ⟨f, args, e⟩) hv ⟨hk, ⟨v, rfl⟩, fun hn => ?_⟩
      unfold neutral at hn
      simp only [Bool.or_eq_true] at hn
      rcases hn with (hn | hn) | hn
      · exact (lt_heap hn hv).1
      · exact rd_heap hn hv
      · split at hn
        · rename_i e; exact absurd ⟨_, _, e⟩ hc
        · cases hn
  · exact ⟨h, ⟨_, rfl⟩, fun _ => rfl⟩
  · exact h.elim

/-- Another one's place need not be set yet. -/
theorem guarded_frame {o : RS} {H : Heap} {K : List V → Heap → Prop} {d : Nat} {v : V} (hl : d ∉ looksS o) (hd : o.d ≠ some d) (h : guardedP C o (t.set d v) H K) :
    guardedP C o t H fun t' H' => K (t'.set d v) H' := by
  have hs : Same (looksS o) (t.set d v) t := fun n hn => getD_set_ne fun e => hl (e ▸ hn)
  have hp : ∀ u, putV (t.set d v) o.d u = (putV t o.d u).set d v := by
    intro u
    cases ho : o.d with
    | none => rfl
    | some e => simp only [putV]; exact List.set_comm _ _ (fun e' => hd (by rw [ho, e']))
  rw [guardedP_eq] at h ⊢
  rw [gOn_same hs] at h
  split at h
  · rw [stepP_same (looks_same hs)] at h
    simp only [hp] at h
    exact h
  · rw [hp] at h; exact h
  · exact h.elim
end

/-! ### All orders -/
def readyR (n : Nat) (af : List (List Nat)) (listed : List Bool) : List Nat :=
  (List.range n).filter fun i => !(listed.getD i true) && (af.getD i []).all fun j => listed.getD j false

section
variable (C : Call1) (neu : Nat → Bool) (os : List RS) (af : List (List Nat)) (K : List V → Heap → Prop)

def ChkI (i : Nat) (t : List V) (H : Heap) : Prop := ∀ o d, os[i]? = some o → o.d = some d → Chk o d t H

def anyP : Nat → List Nat → List Bool → List V → Heap → Prop
  | 0, _, listed, t, H => readyR os.length af listed = [] ∧ K t H
  | n + 1, W, listed, t, H => (readyR os.length af listed = [] → K t H) ∧ ∀ j ∈ readyR os.length af listed, ∃ o, os[j]? = some o ∧
      guardedP C o t H fun t' H' => (neutral neu o.o = false → ∀ i ∈ W, i ∉ af.getD j [] → ChkI os i t' H') ∧ anyP n (W.filter fun i => !((af.getD j []).contains i)) (listed.set j true) t' H'
end

section
variable {C : Call1} {neu : Nat → Bool} {os : List RS} {af : List (List Nat)} {K : List V → Heap → Prop}

theorem mem_readyR {n j : Nat} {listed : List Bool} : j ∈ readyR n af listed ↔ j < n ∧ listed.getD j true = false ∧ ∀ i ∈ af.getD j [], listed.getD i false = true := by
  unfold readyR
  rw [List.mem_filter, List.mem_range, Bool.and_eq_true, Bool.not_eq_true', List.all_eq_true]

theorem getDb_set_ne {listed : List Bool} {i j : Nat} {d : Bool} (h : i ≠ j) : (listed.set i true).getD j d = listed.getD j d := by
  rw [List.getD_eq_getElem?_getD, List.getD_eq_getElem?_getD, List.getElem?_set_ne h]
theorem getDb_set_true {listed : List Bool} {i j : Nat} (h : listed.getD j false = true) : (listed.set i true).getD j false = true := by
  by_cases e : i = j
  · subst e
    have : i < listed.length := by
      rcases Nat.lt_or_ge i listed.length with h' | h'
      · exact h'
      · rw [List.getD_eq_getElem?_getD, List.getElem?_eq_none h'] at h; cases h
    rw [List.getD_eq_getElem?_getD, List.getElem?_set_self this]
    rfl
  · rw [getDb_set_ne e]; exact h

theorem ready_set {n i j : Nat} {listed : List Bool} (hj : j ∈ readyR n af listed) (hne : i ≠ j) : j ∈ readyR n af (listed.set i true) := by
  rw [mem_readyR] at *
  exact ⟨hj.1, by rw [getDb_set_ne hne]; exact hj.2.1, fun k hk => getDb_set_true (hj.2.2 k hk)⟩

theorem anyP_mono (hM : Mono C) : ∀ (n : Nat) (W W' : List Nat) (listed : List Bool) (t : List V) (H : Heap), (∀ i ∈ W', i ∈ W) → anyP C neu os af K n W listed t H → anyP C neu os af K n W' listed t H := by
  intro n
  induction n with
  | zero => intro W W' listed t H _ h; exact h
  | succ n ih =>
    intro W W' listed t H hs h
    refine ⟨h.1, fun j hj => ?_⟩
    obtain ⟨o, ho, hg⟩ := h.2 j hj
    refine ⟨o, ho, guardedP_mono hM (fun t' H' h => ⟨fun hn i hi => h.1 hn i (hs i hi), ih _ _ _ _ _ (fun i hi => ?_) h.2⟩) hg⟩
    rw [List.mem_filter] at hi ⊢
    exact ⟨hs i hi.1, hi.2⟩

theorem Yields.same {o : RS} {t t' : List V} {H : Heap} {v : V} (hy : Yields o t H v) (h : Same (looksS o) t t') : Yields o t' H v := by
  unfold Yields at *
  rw [← gOn_same h, ← opV_same (looks_same h)]
  exact hy

theorem float (hM : Mono C) (hN : Neut C neu) {i : Nat} {o : RS} {d : Nat} {v : V} (hi : os[i]? = some o) (hd : o.d = some d) (hk : isLt o.o = true ∨ isRd o.o = true) (hself : d ∉ looksS o) :
    ∀ (n : Nat) (W W' : List Nat) (listed : List Bool) (t : List V) (H : Heap),
      (∀ j oj, os[j]? = some oj → j ≠ i → listed.getD j true = false → i ∉ af.getD j [] → d ∉ looksS oj ∧ oj.d ≠ some d ∧ ∀ e, oj.d = some e → e ∉ looksS o) →
      (∀ k ∈ W, ∀ ok, os[k]? = some ok → d ∉ looksS ok ∧ ok.d ≠ some d) → (∀ k ∈ W, k ∈ W') → (isRd o.o = true → i ∈ W') →
      i ∈ readyR os.length af listed → d < t.length → Yields o t H v → anyP C neu os af K n W' (listed.set i true) (t.set d v) H → anyP C neu os af K (n + 1) W listed t H := by
  intro n
  induction n with
  | zero =>
    intro W W' listed t H hap hW hsub hrd hr hdl hy h
    refine ⟨fun e => by rw [e] at hr; simp at hr, fun j hj => ?_⟩
    have hji : i = j := by
      by_cases e : i = j
      · exact e
      · have := ready_set hj e; rw [h.1] at this; simp at this
    subst hji
    refine ⟨o, hi, hy.guarded ⟨fun hn => ?_, ?_⟩ hk⟩
    · unfold neutral at hn; rcases hk with e | e <;> simp [e] at hn
    · rw [hd]; exact h
  | succ n ih =>
    intro W W' listed t H hap hW hsub hrd hr hdl hy h
    refine ⟨fun e => by rw [e] at hr; simp at hr, fun j hj => ?_⟩
    by_cases hji : i = j
    · subst hji
      refine ⟨o, hi, hy.guarded ⟨fun hn => ?_, ?_⟩ hk⟩
      · unfold neutral at hn; rcases hk with e | e <;> simp [e] at hn
      · rw [hd]
        refine anyP_mono hM _ W' _ _ _ _ (fun k hk => hsub k ?_) h
        rw [List.mem_filter] at hk
        exact hk.1
    · have hj' := ready_set hj hji
      obtain ⟨oj, hoj, hg⟩ := h.2 j hj'
      have hjr := (mem_readyR.1 hj)
      have hij : i ∉ af.getD j [] := fun hm => by
        have h1 := hjr.2.2 i hm
        have h2 := (mem_readyR.1 hr).2.1
        rcases Nat.lt_or_ge i listed.length with h' | h'
        · rw [List.getD_eq_getElem?_getD, List.getElem?_eq_getElem h'] at h1 h2
          simp at h1 h2
          rw [h1] at h2; cases h2
        · rw [List.getD_eq_getElem?_getD, List.getElem?_eq_none h'] at h1; cases h1
      obtain ⟨a1, a2, a3⟩ := hap j oj hoj (fun e => hji e.symm) hjr.2.1 hij
      refine ⟨oj, hoj, guardedP_mono hM (fun t' H' h => ?_) (guarded_keep hM hN (guarded_frame a1 a2 hg))⟩
      obtain ⟨⟨hchk, hany⟩, ⟨u, rfl⟩, hneu⟩ := h
      have hlen : d < (putV t oj.d u).length := by rw [putV_length]; exact hdl
      have sput : Same (looksS o) t (putV t oj.d u) := (same_put a3).symm
      have sset : Same (looksS o) ((putV t oj.d u).set d v) (putV t oj.d u) := fun k hk => getD_set_ne fun e => hself (e ▸ hk)
      have hgot : ((putV t oj.d u).set d v).getD d .un = v := by rw [List.getD_eq_getElem?_getD, List.getElem?_set_self hlen]; rfl
      have hy' : Yields o (putV t oj.d u) H' v := by
        rcases hy with ⟨y1, y2⟩ | ⟨y1, y2⟩
        · refine .inl ⟨by rw [← gOn_same sput]; exact y1, ?_⟩
          rw [opV_same (looks_same sput)] at y2
          by_cases hn : neutral neu oj.o = true
          · rw [hneu hn]; exact y2
          · rcases hk with hk' | hk'
            · exact (lt_heap hk' y2).2 H'
            · have := hchk (by simpa using hn) i (hrd hk') hij o d hi hd (by rw [gOn_same sset, ← gOn_same sput]; exact y1)
              rw [opV_same (looks_same sset), hgot] at this
              exact this
        · exact .inr ⟨by rw [← gOn_same sput]; exact y1, y2⟩
      refine ⟨fun hn k hkW hkj ok dk hok hdk => ?_, ?_⟩
      · obtain ⟨b1, b2⟩ := hW k hkW ok hok
        have hc := hchk hn k (hsub k hkW) hkj ok dk hok hdk
        have ss : Same (looksS ok) ((putV t oj.d u).set d v) (putV t oj.d u) := fun m hm => getD_set_ne fun e => b1 (e ▸ hm)
        unfold Chk at hc ⊢
        rw [gOn_same ss, opV_same (looks_same ss), getD_set_ne (fun e => b2 (by rw [hdk, e]))] at hc
        exact hc
      · refine ih _ (W'.filter fun i => !((af.getD j []).contains i)) (listed.set j true) (putV t oj.d u) H' ?_ ?_ ?_ ?_ (ready_set hr (fun e => hji e.symm)) hlen hy' ?_
        · intro k ok hok hki hun hno
          refine hap k ok hok hki ?_ hno
          by_cases e : j = k
          · subst e; exact hjr.2.1
          · rw [getDb_set_ne e] at hun; exact hun
        · intro k hk; rw [List.mem_filter] at hk; exact hW k hk.1
        · intro k hk; rw [List.mem_filter] at hk ⊢; exact ⟨hsub k hk.1, hk.2⟩
        · intro hr'; rw [List.mem_filter]; exact ⟨hrd hr', by simpa using hij⟩
        · rw [List.set_comm _ _ (fun e => hji e.symm)]; exact hany
end

end Go.Am

/- Orders that are laid down ahead: each is enough for all. -/
namespace Go.Am

def Sc.depth : Sc → Nat
  | .nil | .stop => 0
  | .lt _ r | .rd _ r => r.depth + 1
  | .st o => o.depth
  | .alt _ r o => max (r.depth + 1) o.depth

def Sc.isAlt : Sc → Bool
  | .alt _ _ _ | .stop => true
  | _ => false

def hasN (l : List Nat) (n : Nat) : Bool := l.any (Nat.beq n)
def dIs (d : Option Nat) (n : Nat) : Bool := match d with | some e => Nat.beq e n | none => false

/-- May this one come first, whatever else is left? -/
def apartB (os : List RS) (af : List (List Nat)) (nt : Nat) (listed : List Bool) (W : List Nat) (i : Nat) : Bool :=
  match os[i]? with
  | none => false
  | some o => match o.d with
    | none => false
    | some d => Nat.blt d nt && !(hasN (looksS o) d) && ((List.range os.length).all fun j => Nat.beq j i || listed.getD j true || hasN (af.getD j []) i || match os[j]? with
        | none => true
        | some oj => !(hasN (looksS oj) d) && !(dIs oj.d d) && match oj.d with | some e => !(hasN (looksS o) e) | none => true) &&
        W.all fun k => match os[k]? with
          | none => true
          | some ok => !(hasN (looksS ok) d) && !(dIs ok.d d)

def isLtAt (os : List RS) (i : Nat) : Bool := match os[i]? with | some o => isLt o.o | none => false
def isRdAt (os : List RS) (i : Nat) : Bool := match os[i]? with | some o => isRd o.o | none => false

def okSc (os : List RS) (af : List (List Nat)) (nt : Nat) : Sc → List Bool → List Nat → List Nat → Bool
  | .nil, listed, _, _ => (readyR os.length af listed).isEmpty
  | .lt i r, listed, W, _ => isLtAt os i && hasN (readyR os.length af listed) i && apartB os af nt listed W i && !r.isAlt && okSc os af nt r (listed.set i true) W []
  | .rd i r, listed, W, _ => isRdAt os i && hasN (readyR os.length af listed) i && apartB os af nt listed W i && !r.isAlt && okSc os af nt r (listed.set i true) (i :: W) []
  | .st o, listed, W, _ => !(readyR os.length af listed).isEmpty && o.isAlt && okSc os af nt o listed W (readyR os.length af listed)
  | .alt i r o, listed, W, todo => !r.isAlt && o.isAlt && okSc os af nt r (listed.set i true) (W.filter fun k => !((af.getD i []).contains k)) [] && okSc os af nt o listed W (todo.filter fun k => !(Nat.beq k i))
  | .stop, _, _, todo => todo.isEmpty

section
variable (C : Call1) (neu : Nat → Bool) (os : List RS) (af : List (List Nat)) (K : List V → Heap → Prop)

def schedP : Sc → List Nat → List V → Heap → Prop
  | .nil, _, t, H => K t H
  | .lt i r, W, t, H => match os[i]? with
    | some o => guardedP C o t H fun t' H' => schedP r W t' H'
    | none => False
  | .rd i r, W, t, H => match os[i]? with
    | some o => guardedP C o t H fun t' H' => schedP r (i :: W) t' H'
    | none => False
  | .st o, W, t, H => schedP o W t H
  | .alt i r o, W, t, H => (match os[i]? with
    | some x => guardedP C x t H fun t' H' => (neutral neu x.o = false → ∀ k ∈ W, k ∉ af.getD i [] → ChkI os k t' H') ∧ schedP r (W.filter fun k => !((af.getD i []).contains k)) t' H'
    | none => False) ∧ schedP o W t H
  | .stop, _, _, _ => True
end

section
variable {C : Call1} {neu : Nat → Bool} {os : List RS} {af : List (List Nat)} {K : List V → Heap → Prop} {nt : Nat}

theorem hasN_false {l : List Nat} {n : Nat} (h : hasN l n = false) : n ∉ l := mem_any h
theorem hasN_true {l : List Nat} {n : Nat} (h : hasN l n = true) : n ∈ l := by
  obtain ⟨m, hm, he⟩ := List.any_eq_true.1 h
  exact Nat.eq_of_beq_eq_true he ▸ hm
theorem dIs_false {d : Option Nat} {n : Nat} (h : dIs d n = false) : d ≠ some n := by
  rintro rfl
  simp [dIs] at h

theorem apartB_spec {listed : List Bool} {W : List Nat} {i : Nat} (h : apartB os af nt listed W i = true) : ∃ o d, os[i]? = some o ∧ o.d = some d ∧ d < nt ∧ d ∉ looksS o ∧
    (∀ j oj, os[j]? = some oj → j ≠ i → listed.getD j true = false → i ∉ af.getD j [] → d ∉ looksS oj ∧ oj.d ≠ some d ∧ ∀ e, oj.d = some e → e ∉ looksS o) ∧
    (∀ k ∈ W, ∀ ok, os[k]? = some ok → d ∉ looksS ok ∧ ok.d ≠ some d) := by
  unfold apartB at h
  split at h
  · cases h
  · rename_i o ho
    split at h
    · cases h
    · rename_i d hd
      simp only [Bool.and_eq_true, Bool.not_eq_true', List.all_eq_true, List.mem_range] at h
      obtain ⟨⟨⟨h1, h2⟩, h3⟩, h4⟩ := h
      refine ⟨o, d, ho, hd, Nat.lt_of_lt_of_le (Nat.lt_succ_self d) (by simpa [Nat.blt] using h1), hasN_false h2, fun j oj hj hne hun hno => ?_, fun k hk ok hok => ?_⟩
      · have := h3 j (List.getElem?_eq_some_iff.1 hj).1
        have hn1 : Nat.beq j i = false := by
          cases hb : Nat.beq j i with
          | false => rfl
          | true => exact absurd (Nat.eq_of_beq_eq_true hb) hne
        have hn2 : hasN (af.getD j []) i = false := by
          cases hb : hasN (af.getD j []) i with
          | false => rfl
          | true => exact absurd (hasN_true hb) hno
        simp only [hn1, hun, hn2, hj, Bool.false_or, Bool.and_eq_true, Bool.not_eq_true'] at this
        refine ⟨hasN_false this.1.1, dIs_false this.1.2, fun e he => ?_⟩
        have h5 := this.2
        rw [he] at h5
        simp only [Bool.not_eq_true'] at h5
        exact hasN_false h5
      · have := h4 k hk
        rw [hok] at this
        simp only [Bool.and_eq_true, Bool.not_eq_true'] at this
        exact ⟨hasN_false this.1, dIs_false this.2⟩

theorem yields_of {o : RS} {t : List V} {H : Heap} {K : List V → Heap → Prop} (hk : isLt o.o = true ∨ isRd o.o = true) (h : guardedP C o t H K) : ∃ v, Yields o t H v ∧ K (putV t o.d v) H := by
  rw [guardedP_eq] at h
  split at h
  · rename_i hg
    have hn : ∀ f args, o.o ≠ .call f args := by
      intro f args e
      rw [e] at hk
      rcases hk with hk | hk <;> cases hk
    have : ∃ v H', opV o.o t H = some (v, H') ∧ K (putV t o.d v) H' := by
      generalize o.o = ro at *
      cases ro with
      | call f args => exact absurd rfl (hn f args)
      | _ =>
        all_goals
          simp only [stepP] at h
          split at h
          · rename_i q hq; exact ⟨q.1, q.2, hq, h⟩
          · exact h.elim
    obtain ⟨v, H', hv, hK⟩ := this
    have : H' = H := by
      rcases hk with hk | hk
      · exact (lt_heap hk hv).1
      · exact rd_heap hk hv
    subst this
    exact ⟨v, .inl ⟨hg, hv⟩, hK⟩
  · rename_i hg
    exact ⟨.un, .inr ⟨hg, rfl⟩, h⟩
  · exact h.elim

/-- The chain of what may come next. -/
def AltOk (C : Call1) (neu : Nat → Bool) (os : List RS) (af : List (List Nat)) (K : List V → Heap → Prop) (n : Nat) (W : List Nat) (listed : List Bool) (t : List V) (H : Heap) (todo : List Nat) : Prop :=
  ∀ j ∈ todo, ∃ o, os[j]? = some o ∧ guardedP C o t H fun t' H' => (neutral neu o.o = false → ∀ i ∈ W, i ∉ af.getD j [] → ChkI os i t' H') ∧ anyP C neu os af K n (W.filter fun i => !((af.getD j []).contains i)) (listed.set j true) t' H'

def scTarget (C : Call1) (neu : Nat → Bool) (os : List RS) (af : List (List Nat)) (K : List V → Heap → Prop) (s : Sc) (n : Nat) (W : List Nat) (listed : List Bool) (t : List V) (H : Heap) (todo : List Nat) : Prop :=
  match s with
  | .alt _ _ _ | .stop => ∀ m, n = m + 1 → AltOk C neu os af K m W listed t H todo
  | _ => anyP C neu os af K n W listed t H

theorem scTarget_any {s : Sc} {n : Nat} {W : List Nat} {listed : List Bool} {t : List V} {H : Heap} {todo : List Nat} (hs : s.isAlt = false) (h : scTarget C neu os af K s n W listed t H todo) : anyP C neu os af K n W listed t H := by
  cases s <;> first | exact h | cases hs

theorem scTarget_alt {s : Sc} {n m : Nat} {W : List Nat} {listed : List Bool} {t : List V} {H : Heap} {todo : List Nat} (hs : s.isAlt = true) (h : scTarget C neu os af K s n W listed t H todo) (e : n = m + 1) : AltOk C neu os af K m W listed t H todo := by
  cases s <;> first | exact h m e | cases hs

theorem sched_any (hM : Mono C) (hN : Neut C neu) : ∀ (s : Sc) (n : Nat) (W : List Nat) (listed : List Bool) (t : List V) (H : Heap) (todo : List Nat), t.length = nt → s.depth ≤ n → okSc os af nt s listed W todo = true → schedP C neu os af K s W t H →
    scTarget C neu os af K s n W listed t H todo := by
  intro s
  induction s with
  | nil =>
    intro n W listed t H todo _ _ hok h
    simp only [okSc, List.isEmpty_iff] at hok
    cases n with
    | zero => exact ⟨hok, h⟩
    | succ n => exact ⟨fun _ => h, fun j hj => by rw [hok] at hj; simp at hj⟩
  | lt i r ih =>
    intro n W listed t H todo hnt hd hok h
    simp only [okSc, Bool.and_eq_true, Bool.not_eq_true'] at hok
    obtain ⟨⟨⟨⟨h1, h2⟩, h3⟩, h5⟩, h4⟩ := hok
    obtain ⟨o, d, ho, hod, hdn, hself, hap, hW⟩ := apartB_spec h3
    simp only [isLtAt, ho] at h1
    simp only [schedP, ho] at h
    obtain ⟨v, hy, hs⟩ := yields_of (.inl h1) h
    simp only [Sc.depth] at hd
    obtain ⟨m, rfl⟩ : ∃ m, n = m + 1 := ⟨n - 1, by omega⟩
    rw [hod] at hs
    simp only [putV] at hs
    have hany := scTarget_any h5 (ih m W (listed.set i true) (t.set d v) H [] (by simpa using hnt) (by omega) h4 hs)
    refine float hM hN ho hod (.inl h1) hself m W W listed t H hap hW (fun k hk => hk) (fun e => ?_) (hasN_true h2) (hnt ▸ hdn) hy hany
    exfalso
    revert h1 e
    cases o.o <;> intro h1 e <;> first | (cases h1; done) | (cases e; done)
  | rd i r ih =>
    intro n W listed t H todo hnt hd hok h
    simp only [okSc, Bool.and_eq_true, Bool.not_eq_true'] at hok
    obtain ⟨⟨⟨⟨h1, h2⟩, h3⟩, h5⟩, h4⟩ := hok
    obtain ⟨o, d, ho, hod, hdn, hself, hap, hW⟩ := apartB_spec h3
    simp only [isRdAt, ho] at h1
    simp only [schedP, ho] at h
    obtain ⟨v, hy, hs⟩ := yields_of (.inr h1) h
    simp only [Sc.depth] at hd
    obtain ⟨m, rfl⟩ : ∃ m, n = m + 1 := ⟨n - 1, by omega⟩
    rw [hod] at hs
    simp only [putV] at hs
    have hany := scTarget_any h5 (ih m (i :: W) (listed.set i true) (t.set d v) H [] (by simpa using hnt) (by omega) h4 hs)
    exact float hM hN ho hod (.inr h1) hself m W (i :: W) listed t H hap hW (fun k hk => by simp [hk]) (fun _ => by simp) (hasN_true h2) (hnt ▸ hdn) hy hany
  | st o ih =>
    intro n W listed t H todo hnt hd hok h
    simp only [okSc, Bool.and_eq_true, Bool.not_eq_true'] at hok
    obtain ⟨⟨h1, h2⟩, h3⟩ := hok
    simp only [Sc.depth] at hd
    have hne : readyR os.length af listed ≠ [] := by intro e; rw [e] at h1; simp at h1
    cases n with
    | zero =>
      have := ih 0 W listed t H _ hnt hd h3 h
      cases o with
      | alt i r o => simp only [Sc.depth] at hd; omega
      | stop =>
        simp only [okSc, List.isEmpty_iff] at h3
        exact absurd h3 hne
      | _ => cases h2
    | succ m =>
      refine ⟨fun e => absurd e hne, ?_⟩
      exact scTarget_alt h2 (ih (m + 1) W listed t H _ hnt hd h3 h) rfl
  | alt i r o ih1 ih2 =>
    intro n W listed t H todo hnt hd hok h m hm j hj
    subst hm
    simp only [okSc, Bool.and_eq_true, Bool.not_eq_true'] at hok
    obtain ⟨⟨⟨h1, h2⟩, h3⟩, h4⟩ := hok
    simp only [Sc.depth] at hd
    simp only [schedP] at h
    obtain ⟨ha, hb⟩ := h
    by_cases e : j = i
    · subst e
      split at ha
      · rename_i x hx
        refine ⟨x, hx, guardedP_mono hM (fun t' H' h => ?_) (guarded_keep hM hN ha)⟩
        obtain ⟨⟨hc, hs⟩, ⟨u, rfl⟩, _⟩ := h
        exact ⟨hc, scTarget_any h1 (ih1 m _ (listed.set j true) _ H' [] (by rw [putV_length]; exact hnt) (by omega) h3 hs)⟩
      · exact ha.elim
    · refine scTarget_alt h2 (ih2 (m + 1) W listed t H _ hnt (by omega) h4 hb) rfl j ?_
      rw [List.mem_filter]
      refine ⟨hj, ?_⟩
      cases hb' : Nat.beq j i with
      | false => rfl
      | true => exact absurd (Nat.eq_of_beq_eq_true hb') e
  | stop =>
    intro n W listed t H todo _ _ hok _ m _ j hj
    simp only [okSc, List.isEmpty_iff] at hok
    rw [hok] at hj
    simp at hj
end

/-! ### One order alone, without a check -/
def linSc (os : List RS) : List Nat → Sc
  | [] => .nil
  | i :: is => match isLtAt os i with
    | true => .lt i (linSc os is)
    | false => match isRdAt os i with
      | true => .rd i (linSc os is)
      | false => .st (.alt i (linSc os is) .stop)

def noChk (neu : Nat → Bool) (os : List RS) (af : List (List Nat)) : List Nat → List Nat → Bool
  | [], _ => true
  | i :: is, W => match isLtAt os i with
    | true => noChk neu os af is W
    | false => match isRdAt os i with
      | true => noChk neu os af is (i :: W)
      | false => (match os[i]? with | some o => neutral neu o.o || W.all (fun k => hasN (af.getD i []) k) | none => false) && noChk neu os af is (W.filter fun k => !((af.getD i []).contains k))

def permD (os : List RS) : List Nat → Option (List RS)
  | [] => some []
  | i :: is => match os[i]? with
    | none => none
    | some o => match permD os is with | some l => some (o :: l) | none => none

section
variable {C : Call1} {neu : Nat → Bool} {os : List RS} {af : List (List Nat)} {K : List V → Heap → Prop}

theorem lin_sched (hM : Mono C) : ∀ (ord : List Nat) (l : List RS) (W : List Nat) (t : List V) (H : Heap), permD os ord = some l → noChk neu os af ord W = true → opsP C l t H K → schedP C neu os af K (linSc os ord) W t H
  | [], l, W, t, H, hp, _, h => by cases hp; exact h
  | i :: is, l, W, t, H, hp, hc, h => by
    simp only [permD] at hp
    split at hp
    · cases hp
    · rename_i o ho
      split at hp
      · rename_i l' hl'
        cases hp
        simp only [opsP] at h
        simp only [linSc, noChk] at hc ⊢
        split
        · rename_i h1
          simp only [h1] at hc
          simp only [schedP, ho]
          exact guardedP_mono hM (fun t' H' h => lin_sched hM is l' W t' H' hl' hc h) h
        · rename_i h1
          simp only [h1] at hc
          split
          · rename_i h2
            simp only [h2] at hc
            simp only [schedP, ho]
            exact guardedP_mono hM (fun t' H' h => lin_sched hM is l' _ t' H' hl' hc h) h
          · rename_i h2
            simp only [h2, ho, Bool.and_eq_true] at hc
            simp only [schedP, ho]
            refine ⟨guardedP_mono hM (fun t' H' h => ⟨fun hn k hk hno => ?_, lin_sched hM is l' _ t' H' hl' hc.2 h⟩) h, trivial⟩
            simp only [hn, Bool.false_or, List.all_eq_true] at hc
            exact absurd (hasN_true (hc.1 k hk)) hno
      · cases hp
end

end Go.Am
