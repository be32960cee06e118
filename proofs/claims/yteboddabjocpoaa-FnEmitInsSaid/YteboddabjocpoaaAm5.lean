/- Code in the printed form is sound. -/
import Derived.Test.YteboddabjocpoaaAm4
import Derived.Test.YteboddabjocpoaaAm0
import Derived.Test.YteboddabjocpoaaAm2
import Derived.Test.YteboddabjocpoaaAm3
set_option linter.all false
namespace Go.Am

def subB (l m : List Nat) : Bool := l.all (hasN m)
def dstsS : List RS → List Nat
  | [] => []
  | o :: rest => match o.d with | some d => d :: dstsS rest | none => dstsS rest
def writesG : List GS → List Nat
  | [] => []
  | .one d _ :: r => match d with | some d => d :: writesG r | none => writesG r
  | .grp _ _ _ outs :: r => outs ++ writesG r
def writesD : RD → List Nat
  | .reg gs => writesG gs
  | .tree _ _ _ _ kill sel => kill ++ sel
  | .seq a b => writesD a ++ writesD b
  | .cond _ _ _ kill sel | .block _ _ kill sel | .loop _ kill sel => kill ++ sel
  | _ => []
def okRD : RD → Bool
  | .seq a b => okRD a && okRD b
  | .cond _ a b kill sel => subB (writesD a ++ writesD b) (kill ++ sel) && okRD a && okRD b
  | .block _ a kill sel => subB (writesD a) (kill ++ sel) && okRD a
  | .loop a kill sel => subB (writesD a) (kill ++ sel) && okRD a
  | .tree os _ _ _ kill sel => subB (dstsS os) (kill ++ sel)
  | _ => true

section
variable {C : Call1}
theorem AgreeOut.refl (l : List Nat) (t : List V) : AgreeOut l t t := ⟨rfl, fun _ _ => rfl⟩
theorem AgreeOut.trans {l : List Nat} {t t1 t2 : List V} (h1 : AgreeOut l t t1) (h2 : AgreeOut l t1 t2) : AgreeOut l t t2 := ⟨h2.1.trans h1.1, fun n hn => (h2.2 n hn).trans (h1.2 n hn)⟩
theorem AgreeOut.sub {l m : List Nat} {t t' : List V} (h : AgreeOut l t t') (hs : ∀ n ∈ l, n ∈ m) : AgreeOut m t t' := ⟨h.1, fun n hn => h.2 n fun hm => hn (hs n hm)⟩
theorem subB_spec {l m : List Nat} (h : subB l m = true) : ∀ n ∈ l, n ∈ m := fun n hn => hasN_true (List.all_eq_true.1 h n hn)

theorem killAll_length : ∀ (ds : List Nat) (t : List V), (killAll t ds).length = t.length
  | [], _ => rfl
  | i :: is, t => by simp only [killAll]; rw [killAll_length is]; simp
theorem killAll_not : ∀ (ds : List Nat) (t : List V) (n : Nat), n ∉ ds → (killAll t ds).getD n .un = t.getD n .un
  | [], _, _, _ => rfl
  | i :: is, t, n, h => by
    simp only [killAll]
    rw [killAll_not is _ n fun hm => h (by simp [hm]), getD_set_ne fun e => h (by simp [e])]
theorem killAll_in : ∀ (ds : List Nat) (t : List V) (n : Nat), n ∈ ds → n < t.length → (killAll t ds).getD n .un = .junk
  | [], _, _, h, _ => by simp at h
  | i :: is, t, n, h, hn => by
    simp only [killAll]
    by_cases hm : n ∈ is
    · exact killAll_in is _ n hm (by simpa using hn)
    · have : n = i := by simpa [hm] using h
      subst this
      rw [killAll_not is _ n hm, List.getD_eq_getElem?_getD, List.getElem?_set_self hn]
      rfl

theorem agree_join (kill sel : List Nat) (t s : List V) : AgreeOut (kill ++ sel) t (setAll (killAll t kill) sel s) := by
  refine ⟨by rw [setAll_length, killAll_length], fun n hn => ?_⟩
  rw [setAll_not sel _ _ n fun h => hn (by simp [h]), killAll_not kill t n fun h => hn (by simp [h])]

theorem opsD_agree (hM : Mono C) : ∀ (gs : List GS) {t : List V} {H : Heap} {K : List V → Heap → Prop}, opsD C gs t H K → opsD C gs t H fun t' H' => K t' H' ∧ AgreeOut (writesG gs) t t'
  | [], t, H, K, h => ⟨h, AgreeOut.refl _ _⟩
  | .one d o :: gs, t, H, K, h => by
    simp only [opsD] at h ⊢
    refine stepD_mono hM (fun v H' h => opsD_mono hM gs (fun t' H'' h => ⟨h.1, ?_⟩) (opsD_agree hM gs h)) h
    refine ⟨by rw [h.2.1, putV_length], fun n hn => ?_⟩
    have h1 : n ∉ writesG gs := fun hm => hn (by simp only [writesG]; split <;> simp [hm])
    have h2 : d ≠ some n := fun e => hn (by simp [writesG, e])
    rw [h.2.2 n h1, getD_put_ne h2]
  | .grp d want ops outs :: gs, t, H, K, h => by
    have key : ∀ s H', opsD C gs (setAll t outs s) H' K → opsD C gs (setAll t outs s) H' fun t' H' => K t' H' ∧ AgreeOut (writesG (.grp d want ops outs :: gs)) t t' := by
      intro s H' h
      refine opsD_mono hM gs (fun t' H'' h => ⟨h.1, ?_⟩) (opsD_agree hM gs h)
      refine ⟨by rw [h.2.1, setAll_length], fun n hn => ?_⟩
      simp only [writesG, List.mem_append, not_or] at hn
      rw [h.2.2 n hn.2, setAll_not outs _ _ n hn.1]
    exact dGrp_mono (fun h => opsF_mono hM ops (fun _ _ h => key _ _ h) h) (fun h => key _ _ h) h

theorem guardedD_P {o : RS} {t : List V} {H : Heap} {K : List V → Heap → Prop} (h : guardedD C o t H K) : guardedP C o t H K := by
  unfold guardedD dGrp at h
  unfold guardedP
  cases ho : o.g with
  | none => rw [ho] at h; exact stepD_P h
  | some g =>
    obtain ⟨d, w⟩ := g
    simp only [ho, List.headD_cons] at h
    simp only
    split at h
    · rename_i q hq
      simp only [hq]
      cases w <;> cases q <;> first | exact stepD_P h | exact h
    · rename_i hq
      simp only [hq]
      exact h
    · exact h.elim

theorem guarded_put (hM : Mono C) {o : RS} {t : List V} {H : Heap} {K : List V → Heap → Prop} (h : guardedP C o t H K) : guardedP C o t H fun t' H' => K t' H' ∧ ∃ u, t' = putV t o.d u := by
  refine guardedP_mono hM (fun t' H' h => ⟨h.1, h.2.1⟩) (guarded_keep (neu := fun _ => false) hM (fun f hf => by cases hf) h)

theorem mem_dstsS {os : List RS} {i : Nat} {o : RS} {d : Nat} (ho : os[i]? = some o) (hd : o.d = some d) : d ∈ dstsS os := by
  induction os generalizing i with
  | nil => simp at ho
  | cons x xs ih =>
    cases i with
    | zero =>
      simp at ho
      subst ho
      simp [dstsS, hd]
    | succ i =>
      have := ih (by simpa using ho)
      simp only [dstsS]
      split <;> simp [this]

theorem put_agree {os : List RS} {i : Nat} {o : RS} {t : List V} {u : V} (ho : os[i]? = some o) : AgreeOut (dstsS os) t (putV t o.d u) := by
  refine ⟨putV_length _ _ _, fun n hn => ?_⟩
  exact getD_put_ne fun e => hn (mem_dstsS ho e)

section
variable {os : List RS} {af : List (List Nat)} {nl : List Bool} {K : List V → Heap → Prop} {neu : Nat → Bool}

theorem chkD_spec : ∀ (W : List Nat) {t : List V} {H : Heap} {Q : Prop}, chkD os W t H Q → Q ∧ ∀ k ∈ W, ChkI os k t H
  | [], _, _, _, h => ⟨h, by simp⟩
  | k :: ks, t, H, Q, h => by
    simp only [chkD] at h
    split at h
    · exact h.elim
    · rename_i o ho
      split at h
      · exact h.elim
      · rename_i d hd
        have rd : rdV o.o t H = some (t.getD d .un) → opV o.o t H = some (t.getD d .un, H) := by
          intro e
          unfold rdV at e
          split at e
          · rename_i z ag a _ e1
            simp only [e1, opV, e, Option.map_some]
          · rename_i x _ e1
            simp only [b2sV, Option.bind_eq_some_iff, Option.map_eq_some_iff] at e
            obtain ⟨es, h1, c, h2, h3⟩ := e
            simp only [e1, opV, h1, Option.bind_some, h2, Option.map_some, h3]
          · cases e
        split at h
        · rename_i hg
          obtain ⟨h1, h2⟩ := h
          obtain ⟨h3, h4⟩ := chkD_spec ks h2
          refine ⟨h3, fun m hm => ?_⟩
          rcases List.mem_cons.1 hm with rfl | hm
          · intro o' d' ho' hd'
            rw [ho] at ho'
            cases ho'
            rw [hd] at hd'
            cases hd'
            exact fun _ => rd h1
          · exact h4 m hm
        · rename_i g w hg
          obtain ⟨h1, h2⟩ := h
          obtain ⟨h3, h4⟩ := chkD_spec ks h2
          refine ⟨h3, fun m hm => ?_⟩
          rcases List.mem_cons.1 hm with rfl | hm
          · intro o' d' ho' hd'
            rw [ho] at ho'
            cases ho'
            rw [hd] at hd'
            cases hd'
            intro hon
            refine rd (h1 ?_)
            unfold gOn at hon
            simp only [hg] at hon
            split at hon
            · rename_i q hq
              simp only [Option.some.injEq, beq_iff_eq] at hon
              rw [hq, hon]
            · cases hon
            · cases hon
          · exact h4 m hm

theorem schedD_P (hM : Mono C) (hnl : ∀ i o, os[i]? = some o → nl.getD i false = true → neutral neu o.o = true) : ∀ (s : Sc) (W : List Nat) {t : List V} {H : Heap}, schedD C os af nl K s W t H → schedP C neu os af K s W t H := by
  intro s
  induction s with
  | nil => intro W t H h; exact h
  | lt i r ih =>
    intro W t H h
    simp only [schedD] at h
    split at h
    · rename_i o ho
      simp only [schedP, ho]
      exact guardedP_mono hM (fun t' H' h => ih W h) (guardedD_P h)
    · exact h.elim
  | rd i r ih =>
    intro W t H h
    simp only [schedD] at h
    split at h
    · rename_i o ho
      simp only [schedP, ho]
      exact guardedP_mono hM (fun t' H' h => ih _ h) (guardedD_P h)
    · exact h.elim
  | st o ih => intro W t H h; exact ih W h
  | alt i r o ih1 ih2 =>
    intro W t H h
    simp only [schedD] at h
    simp only [schedP]
    split at h
    · exact h.elim
    · rename_i x hx
      have key : guardedD C x t H (fun t' H' => match nl.getD i false with
        | true => schedD C os af nl K r (W.filter fun k => !((af.getD i []).contains k)) t' H'
        | false => chkD os (W.filter fun k => !((af.getD i []).contains k)) t' H' (schedD C os af nl K r (W.filter fun k => !((af.getD i []).contains k)) t' H')) →
          guardedP C x t H fun t' H' => (neutral neu x.o = false → ∀ k ∈ W, k ∉ af.getD i [] → ChkI os k t' H') ∧ schedP C neu os af K r (W.filter fun k => !((af.getD i []).contains k)) t' H' := by
        intro h
        refine guardedP_mono hM (fun t' H' h => ?_) (guardedD_P h)
        split at h
        · rename_i hn
          exact ⟨fun e => (by rw [hnl i x hx hn] at e; cases e), ih1 _ h⟩
        · obtain ⟨h1, h2⟩ := chkD_spec _ h
          exact ⟨fun _ k hk hno => h2 k (by rw [List.mem_filter]; exact ⟨hk, by simpa using hno⟩), ih1 _ h1⟩
      simp only [hx]
      split at h
      · rename_i hs
        refine ⟨key h, ?_⟩
        cases o <;> first | trivial | cases hs
      · exact ⟨key h.1, ih2 W h.2⟩
  | stop => intro W t H h; trivial

theorem schedP_agree (hM : Mono C) : ∀ (s : Sc) (W : List Nat) {t : List V} {H : Heap}, schedP C neu os af K s W t H → ∀ t0, AgreeOut (dstsS os) t0 t → schedP C neu os af (fun t' H' => K t' H' ∧ AgreeOut (dstsS os) t0 t') s W t H := by
  intro s
  induction s with
  | nil => intro W t H h t0 ha; exact ⟨h, ha⟩
  | lt i r ih =>
    intro W t H h t0 ha
    simp only [schedP] at h ⊢
    split at h
    · rename_i o ho
      refine guardedP_mono hM (fun t' H' h => ?_) (guarded_put hM h)
      obtain ⟨h1, u, rfl⟩ := h
      exact ih W h1 t0 (ha.trans (put_agree ho))
    · exact h.elim
  | rd i r ih =>
    intro W t H h t0 ha
    simp only [schedP] at h ⊢
    split at h
    · rename_i o ho
      refine guardedP_mono hM (fun t' H' h => ?_) (guarded_put hM h)
      obtain ⟨h1, u, rfl⟩ := h
      exact ih _ h1 t0 (ha.trans (put_agree ho))
    · exact h.elim
  | st o ih => intro W t H h t0 ha; exact ih W h t0 ha
  | alt i r o ih1 ih2 =>
    intro W t H h t0 ha
    simp only [schedP] at h ⊢
    refine ⟨?_, ih2 W h.2 t0 ha⟩
    have h := h.1
    split at h
    · rename_i x hx
      refine guardedP_mono hM (fun t' H' h => ?_) (guarded_put hM h)
      obtain ⟨h1, u, rfl⟩ := h
      exact ⟨h1.1, ih1 _ h1.2 t0 (ha.trans (put_agree hx))⟩
    · exact h.elim
  | stop => intro W t H h t0 ha; trivial
end
end

/-! ### Code resolved, with its hints -/
def afOf (ops : Array Oper) : List (List Nat) := ops.toList.map fun o => (o.after.toList.filter (Region.binds .any)).map (·.on)
section
variable (T : Types) (neu : Nat → Bool) (lit : Bool) (nt : Nat)
def regD (an : An) (ops : Array Oper) (draw : Bool) : RD :=
  match draw with
  | false => match groupsD (ops.toList.length + 1) (ops.toList.map (resS T lit ops)) with | some gs => .reg gs | none => .bad
  | true => match an with
    | .r ord => match permD (ops.toList.map (resS T lit ops)) ord with
      | some l => match okSc (ops.toList.map (resS T lit ops)) (afOf ops) nt (linSc (ops.toList.map (resS T lit ops)) ord) (List.replicate ops.toList.length false) [] [] && Nat.ble (linSc (ops.toList.map (resS T lit ops)) ord).depth ops.toList.length &&
          noChk neu (ops.toList.map (resS T lit ops)) (afOf ops) ord [] with
        | true => match groupsD (ops.toList.length + 1) l with | some gs => .reg gs | none => .bad
        | false => .bad
      | none => .bad
    | .t sc kill sel => match okSc (ops.toList.map (resS T lit ops)) (afOf ops) nt sc (List.replicate ops.toList.length false) [] [] && Nat.ble sc.depth ops.toList.length && !sc.isAlt with
      | true => .tree (ops.toList.map (resS T lit ops)) (afOf ops) ((ops.toList.map (resS T lit ops)).map fun o => neutral neu o.o) sc kill sel
      | false => .bad
    | _ => .bad

def resD : An → Code → RD
  | _, .skip => .skip
  | an, .region _ ops draw => regD T neu lit nt an ops draw
  | .s a b, .seq x y => .seq (resD a x) (resD b y)
  | .c a b kill sel, .cond c x y => .cond (rx c) (resD a x) (resD b y) kill sel
  | .b a kill sel, .block id x => .block id (resD a x) kill sel
  | .b a kill sel, .loop x => .loop (resD a x) kill sel
  | _, .exit id => .exit id
  | _, .ret => .ret
  | _, _ => .bad
end

def resFD (T : Types) (neu : Nat → Bool) (lit : Bool) (an : An) (fn : Func) : Option RFD :=
  fn.body.bind fun c => (allM (fun r : ResultVar => match r with
    | .tmp i => some (.inl i)
    | .cell a e => (sz T e).map fun z => .inr (a, z, isAggT T e)) fn.results.toList).bind fun rs =>
      match okRD (resD T neu lit fn.ntmps an c) with
      | true => some { ntmps := fn.ntmps, res := rs, body := resD T neu lit fn.ntmps an c }
      | false => none

end Go.Am

/- Code in the printed form is sound: control. -/
namespace Go.Am

section
variable {C : Call1}

theorem dIf_mono {c : V} {a a' d d' : (List V → Heap → Prop) → Prop} {K K' : List V → Heap → Prop} (ha : a K → a' K') (hd : d K → d' K') (h : dIf c a d K) : dIf c a' d' K' := by
  unfold dIf at h ⊢
  split at h
  · split at h
    · exact ha h
    · exact hd h
  · exact h

theorem dLoop_mono {F F' : List V → Heap → (List V → Heap → Prop) → Prop} (hF : ∀ s H k k', (∀ s H, k s H → k' s H) → F s H k → F' s H k') : ∀ (n : Nat) (s : List V) (H : Heap), dLoop n F s H → dLoop n F' s H
  | 0, _, _, h => h
  | n + 1, s, H, h => hF s H _ _ (fun s H h => dLoop_mono hF n s H h) h

section
variable {os : List RS} {af : List (List Nat)} {nl : List Bool}
theorem chkD_mono : ∀ (W : List Nat) {t : List V} {H : Heap} {Q Q' : Prop}, (Q → Q') → chkD os W t H Q → chkD os W t H Q'
  | [], _, _, _, _, hq, h => hq h
  | k :: ks, t, H, Q, Q', hq, h => by
    simp only [chkD] at h ⊢
    split at h
    · exact h
    · split at h
      · exact h
      · split at h
        · exact ⟨h.1, chkD_mono ks hq h.2⟩
        · exact ⟨h.1, chkD_mono ks hq h.2⟩

theorem guardedD_mono (hM : Mono C) {o : RS} {t : List V} {H : Heap} {K K' : List V → Heap → Prop} (hk : ∀ t H, K t H → K' t H) (h : guardedD C o t H K) : guardedD C o t H K' := by
  unfold guardedD at h ⊢
  split at h
  · exact stepD_mono hM (fun _ _ => hk _ _) h
  · exact dGrp_mono (fun h => stepD_mono hM (fun _ _ => hk _ _) h) (fun h => hk _ _ h) h

theorem schedD_mono (hM : Mono C) {K K' : List V → Heap → Prop} (hk : ∀ t H, K t H → K' t H) : ∀ (s : Sc) (W : List Nat) {t : List V} {H : Heap}, schedD C os af nl K s W t H → schedD C os af nl K' s W t H := by
  intro s
  induction s with
  | nil => intro W t H h; exact hk _ _ h
  | lt i r ih =>
    intro W t H h
    simp only [schedD] at h ⊢
    split at h
    · exact guardedD_mono hM (fun t' H' h => ih W h) h
    · exact h
  | rd i r ih =>
    intro W t H h
    simp only [schedD] at h ⊢
    split at h
    · exact guardedD_mono hM (fun t' H' h => ih _ h) h
    · exact h
  | st o ih => intro W t H h; exact ih W h
  | alt i r o ih1 ih2 =>
    intro W t H h
    simp only [schedD] at h ⊢
    split at h
    · exact h
    · have key : ∀ t' H', (match nl.getD i false with
        | true => schedD C os af nl K r (W.filter fun k => !((af.getD i []).contains k)) t' H'
        | false => chkD os (W.filter fun k => !((af.getD i []).contains k)) t' H' (schedD C os af nl K r (W.filter fun k => !((af.getD i []).contains k)) t' H')) → (match nl.getD i false with
        | true => schedD C os af nl K' r (W.filter fun k => !((af.getD i []).contains k)) t' H'
        | false => chkD os (W.filter fun k => !((af.getD i []).contains k)) t' H' (schedD C os af nl K' r (W.filter fun k => !((af.getD i []).contains k)) t' H')) := by
        intro t' H' h
        split at h
        · exact ih1 _ h
        · exact chkD_mono _ (ih1 _) h
      split at h
      · exact guardedD_mono hM (fun t' H' h => key t' H' h) h
      · exact ⟨guardedD_mono hM (fun t' H' h => key t' H' h) h.1, ih2 W h.2⟩
  | stop => intro W t H h; exact h

theorem schedD_agree (hM : Mono C) {K : List V → Heap → Prop} : ∀ (s : Sc) (W : List Nat) {t : List V} {H : Heap}, schedD C os af nl K s W t H → ∀ t0, AgreeOut (dstsS os) t0 t → schedD C os af nl (fun t' H' => K t' H' ∧ AgreeOut (dstsS os) t0 t') s W t H := by
  have gp : ∀ {o : RS} {t : List V} {H : Heap} {K : List V → Heap → Prop}, guardedD C o t H K → guardedD C o t H fun t' H' => K t' H' ∧ ∃ u, t' = putV t o.d u := by
    intro o t H K h
    unfold guardedD at h ⊢
    split at h
    · exact stepD_mono hM (fun v H' h => ⟨h, v, rfl⟩) h
    · exact dGrp_mono (fun h => stepD_mono hM (fun v H' h => ⟨h, _, rfl⟩) h) (fun h => ⟨h, _, rfl⟩) h
  intro s
  induction s with
  | nil => intro W t H h t0 ha; exact ⟨h, ha⟩
  | lt i r ih =>
    intro W t H h t0 ha
    simp only [schedD] at h ⊢
    split at h
    · rename_i o ho
      refine guardedD_mono hM (fun t' H' h => ?_) (gp h)
      obtain ⟨h1, u, rfl⟩ := h
      exact ih W h1 t0 (ha.trans (put_agree ho))
    · exact h
  | rd i r ih =>
    intro W t H h t0 ha
    simp only [schedD] at h ⊢
    split at h
    · rename_i o ho
      refine guardedD_mono hM (fun t' H' h => ?_) (gp h)
      obtain ⟨h1, u, rfl⟩ := h
      exact ih _ h1 t0 (ha.trans (put_agree ho))
    · exact h
  | st o ih => intro W t H h t0 ha; exact ih W h t0 ha
  | alt i r o ih1 ih2 =>
    intro W t H h t0 ha
    simp only [schedD] at h ⊢
    split at h
    · exact h
    · rename_i x hx
      have key : ∀ t' H', ((match nl.getD i false with
        | true => schedD C os af nl K r (W.filter fun k => !((af.getD i []).contains k)) t' H'
        | false => chkD os (W.filter fun k => !((af.getD i []).contains k)) t' H' (schedD C os af nl K r (W.filter fun k => !((af.getD i []).contains k)) t' H')) ∧ ∃ u, t' = putV t x.d u) → (match nl.getD i false with
        | true => schedD C os af nl (fun t' H' => K t' H' ∧ AgreeOut (dstsS os) t0 t') r (W.filter fun k => !((af.getD i []).contains k)) t' H'
        | false => chkD os (W.filter fun k => !((af.getD i []).contains k)) t' H' (schedD C os af nl (fun t' H' => K t' H' ∧ AgreeOut (dstsS os) t0 t') r (W.filter fun k => !((af.getD i []).contains k)) t' H')) := by
        rintro t' H' ⟨h, u, rfl⟩
        split at h
        · exact ih1 _ h t0 (ha.trans (put_agree hx))
        · exact chkD_mono _ (fun h => ih1 _ h t0 (ha.trans (put_agree hx))) h
      split at h
      · exact guardedD_mono hM (fun t' H' h => key t' H' h) (gp h)
      · exact ⟨guardedD_mono hM (fun t' H' h => key t' H' h) (gp h.1), ih2 W h.2 t0 ha⟩
  | stop => intro W t H h t0 ha; trivial
end

theorem runD_mono (hM : Mono C) (n : Nat) (c : RD) : ∀ {t : List V} {H : Heap} {K K' : List V → Heap → Prop} {X X' : Nat → List V → Heap → Prop} {R R' : List V → Heap → Prop},
    (∀ t H, K t H → K' t H) → (∀ j t H, X j t H → X' j t H) → (∀ t H, R t H → R' t H) → runD C n c t H K X R → runD C n c t H K' X' R' := by
  induction c with
  | skip => intro t H K K' X X' R R' hk hx hr h; exact hk _ _ h
  | reg gs => intro t H K K' X X' R R' hk hx hr h; exact opsD_mono hM gs hk h
  | tree os af nl sc kill sel => intro t H K K' X X' R R' hk hx hr h; exact schedD_mono hM (fun _ _ => hk _ _) sc [] h
  | seq a b iha ihb =>
    intro t H K K' X X' R R' hk hx hr h
    simp only [runD] at h ⊢
    exact iha (fun t H h => ihb hk hx hr h) hx hr h
  | cond c a b kill sel iha ihb =>
    intro t H K K' X X' R R' hk hx hr h
    simp only [runD] at h ⊢
    exact dIf_mono (fun h => iha (fun _ _ => hk _ _) hx hr h) (fun h => ihb (fun _ _ => hk _ _) hx hr h) h
  | block id c kill sel ih =>
    intro t H K K' X X' R R' hk hx hr h
    simp only [runD, dBlk] at h ⊢
    refine ih (fun _ _ => hk _ _) (fun j t' H' h => ?_) hr h
    split at h
    · exact hk _ _ h
    · exact hx _ _ _ h
  | loop c kill sel ih =>
    intro t H K K' X X' R R' hk hx hr h
    simp only [runD] at h ⊢
    exact dLoop_mono (fun s H k k' hkk h => ih (fun _ _ => hkk _ _) hx hr h) n _ _ h
  | exit id => intro t H K K' X X' R R' hk hx hr h; exact hx _ _ _ h
  | ret => intro t H K K' X X' R R' hk hx hr h; exact hr _ _ h
  | bad => intro t H K K' X X' R R' hk hx hr h; exact h

theorem runD_agree (hM : Mono C) (n : Nat) (c : RD) : ∀ {t : List V} {H : Heap} {K : List V → Heap → Prop} {X : Nat → List V → Heap → Prop} {R : List V → Heap → Prop}, okRD c = true → runD C n c t H K X R →
    runD C n c t H (fun t' H' => K t' H' ∧ AgreeOut (writesD c) t t') (fun j t' H' => X j t' H' ∧ AgreeOut (writesD c) t t') (fun t' H' => R t' H' ∧ AgreeOut (writesD c) t t') := by
  induction c with
  | skip => intro t H K X R _ h; exact ⟨h, AgreeOut.refl _ _⟩
  | reg gs => intro t H K X R _ h; exact opsD_agree hM gs h
  | tree os af nl sc kill sel => intro t H K X R _ h; exact schedD_mono hM (fun _ _ h => ⟨h, agree_join _ _ _ _⟩) sc [] h
  | seq a b iha ihb =>
    intro t H K X R hok h
    simp only [okRD, Bool.and_eq_true] at hok
    simp only [runD] at h ⊢
    have sl : ∀ {t t' : List V}, AgreeOut (writesD a) t t' → AgreeOut (writesD (.seq a b)) t t' := fun h => h.sub fun n hn => by simp [writesD, hn]
    have sr : ∀ {t t' : List V}, AgreeOut (writesD b) t t' → AgreeOut (writesD (.seq a b)) t t' := fun h => h.sub fun n hn => by simp [writesD, hn]
    refine runD_mono hM n a (fun t1 H1 h => ?_) (fun j t1 H1 h => ⟨h.1, sl h.2⟩) (fun t1 H1 h => ⟨h.1, sl h.2⟩) (iha hok.1 h)
    obtain ⟨h, ha⟩ := h
    exact runD_mono hM n b (fun t2 H2 h => ⟨h.1, (sl ha).trans (sr h.2)⟩) (fun j t2 H2 h => ⟨h.1, (sl ha).trans (sr h.2)⟩) (fun t2 H2 h => ⟨h.1, (sl ha).trans (sr h.2)⟩) (ihb hok.2 h)
  | cond c a b kill sel iha ihb =>
    intro t H K X R hok h
    simp only [okRD, Bool.and_eq_true] at hok
    obtain ⟨⟨h1, h2⟩, h3⟩ := hok
    have hs := subB_spec h1
    have sl : ∀ {t t' : List V}, AgreeOut (writesD a) t t' → AgreeOut (kill ++ sel) t t' := fun h => h.sub fun n hn => hs n (by simp [hn])
    have sr : ∀ {t t' : List V}, AgreeOut (writesD b) t t' → AgreeOut (kill ++ sel) t t' := fun h => h.sub fun n hn => hs n (by simp [hn])
    simp only [runD, writesD] at h ⊢
    refine dIf_mono (fun h => ?_) (fun h => ?_) h
    · exact runD_mono hM n a (fun t1 H1 h => ⟨h.1, agree_join _ _ _ _⟩) (fun j t1 H1 h => ⟨h.1, sl h.2⟩) (fun t1 H1 h => ⟨h.1, sl h.2⟩) (iha h2 h)
    · exact runD_mono hM n b (fun t1 H1 h => ⟨h.1, agree_join _ _ _ _⟩) (fun j t1 H1 h => ⟨h.1, sr h.2⟩) (fun t1 H1 h => ⟨h.1, sr h.2⟩) (ihb h3 h)
  | block id c kill sel ih =>
    intro t H K X R hok h
    simp only [okRD, Bool.and_eq_true] at hok
    have hs := subB_spec hok.1
    simp only [runD, dBlk, writesD] at h ⊢
    refine runD_mono hM n c (fun t1 H1 h => ⟨h.1, agree_join _ _ _ _⟩) (fun j t1 H1 h => ?_) (fun t1 H1 h => ⟨h.1, h.2.sub hs⟩) (ih hok.2 h)
    obtain ⟨h, ha⟩ := h
    split at h
    · exact ⟨h, agree_join _ _ _ _⟩
    · exact ⟨h, ha.sub hs⟩
  | loop c kill sel ih =>
    intro t H K X R hok h
    simp only [okRD, Bool.and_eq_true] at hok
    have hs := subB_spec hok.1
    simp only [runD, writesD] at h ⊢
    refine dLoop_mono (fun s H k k' hkk h => ?_) n _ _ h
    have hj := agree_join kill sel t s
    exact runD_mono hM n c (fun t1 H1 h => hkk _ _ h.1) (fun j t1 H1 h => ⟨h.1, hj.trans (h.2.sub hs)⟩) (fun t1 H1 h => ⟨h.1, hj.trans (h.2.sub hs)⟩) (ih hok.2 h)
  | exit id => intro t H K X R _ h; exact ⟨h, AgreeOut.refl _ _⟩
  | ret => intro t H K X R _ h; exact ⟨h, AgreeOut.refl _ _⟩
  | bad => intro t H K X R _ h; exact h
end

/-! ### Against the model -/
section
variable {P : Program} {T : Types} {C : Call1} {J : Nat → Prop} {neu : Nat → Bool} {lit : Bool}

theorem TR.join {w : World} {M : List RI} {kill sel : List Nat} {t t' : List V} {a : Act} (h : TR w M J t' a) (ha : AgreeOut (kill ++ sel) t t') : TR w M J (setAll (killAll t kill) sel (getAll t' sel)) a := by
  refine ⟨h.1, by rw [setAll_length, killAll_length, ← ha.1, h.2.1], fun n => ?_⟩
  have hn := h.2.2 n
  by_cases hl : n < t.length
  · by_cases hs : n ∈ sel
    · rw [setAll_get sel _ t' n hs (by rw [killAll_length]; exact hl)]
      exact hn
    · rw [setAll_not sel _ _ n hs]
      by_cases hk : n ∈ kill
      · rw [killAll_in kill t n hk hl]; exact .junk _
      · rw [killAll_not kill t n hk, ← ha.2 n (by simp [hs, hk])]; exact hn
  · have : (setAll (killAll t kill) sel (getAll t' sel)).getD n .un = t'.getD n .un := by
      rw [List.getD_eq_getElem?_getD, List.getD_eq_getElem?_getD, List.getElem?_eq_none (by rw [setAll_length, killAll_length]; omega), List.getElem?_eq_none (by rw [ha.1]; omega)]
    rw [this]
    exact hn

def PostD (K : List V → Heap → Prop) (X : Nat → List V → Heap → Prop) (R : List V → Heap → Prop) (J : Nat → Prop) (w : World) (M : List RI) : Exit → Act → World → Prop
  | .normal, a', w' => Post K J w M a' w'
  | .ret, a', w' => Post R J w M a' w'
  | .exit id, a', w' => Post (X id) J w M a' w'
  | _, _, _ => False

theorem PostD.from {K : List V → Heap → Prop} {X : Nat → List V → Heap → Prop} {R : List V → Heap → Prop} {w0 w : World} {M0 M : List RI} {a : Act} {w' : World} {e : Exit} (h0 : Goes w0 M0 w M) (h : PostD K X R J w M e a w') : PostD K X R J w0 M0 e a w' := by
  cases e <;> first | exact Post.from h0 h | exact h

theorem any_sound (hO : OpOk P T) (hC : CallOk P C) (ops : Array Oper) {K : List V → Heap → Prop} {Q : Exit → Act → World → Prop} (w0 : World) (M0 : List RI) (hQ : ∀ a w, Post K J w0 M0 a w → Q .normal a w) :
    ∀ (n : Nat) (W : List Nat) (listed : List Bool) (t : List V) (H : Heap) (a : Act) (w : World) (M : List RI), Goes w0 M0 w M → HR w M J H → TR w M J t a → listed.length = ops.size →
      anyP C neu (ops.toList.map (resS T lit ops)) (afOf ops) K n W listed t H → wpAny P .any ops Q n listed.toArray a w := by
  have hready : ∀ listed : List Bool, Region.ready .any ops listed.toArray = readyR (ops.toList.map (resS T lit ops)).length (afOf ops) listed := by
    intro listed
    unfold Region.ready readyR
    rw [List.length_map, Array.length_toList]
    refine List.filter_congr fun i hi => ?_
    rw [List.mem_range] at hi
    have h1 : ops[i]? = some ops[i] := Array.getElem?_eq_getElem hi
    have h2 : (afOf ops).getD i [] = (ops[i].after.toList.filter (Region.binds .any)).map (·.on) := by
      unfold afOf
      rw [List.getD_eq_getElem?_getD, List.getElem?_map, Array.getElem?_toList, h1]
      rfl
    rw [h1, h2]
    simp only [Option.map_some, Option.getD_some, List.all_map, List.all_filter]
    congr 1
    · simp [Array.getD_eq_getD_getElem?, List.getD_eq_getElem?_getD]
    · rw [← Array.all_toList]
      congr 1
      funext e
      simp only [Function.comp_apply, Array.getD_eq_getD_getElem?, List.getD_eq_getElem?_getD, List.getElem?_toArray]
  intro n
  induction n with
  | zero =>
    intro W listed t H a w M hgo hh ht hl h
    exact ⟨(hready listed).trans h.1, hQ a w ⟨t, H, M, h.2, hh, ht, hgo⟩⟩
  | succ n ih =>
    intro W listed t H a w M hgo hh ht hl h
    refine ⟨fun e => hQ a w ⟨t, H, M, h.1 ((hready listed).symm.trans e), hh, ht, hgo⟩, fun j hj => ?_⟩
    rw [hready] at hj
    obtain ⟨o, ho, hg⟩ := h.2 j hj
    have hjl : j < ops.size := by
      have := (mem_readyR.1 hj).1
      simpa using this
    have hoj : ops[j]? = some ops[j] := Array.getElem?_eq_getElem hjl
    have : o = resS T lit ops ops[j] := by
      rw [List.getElem?_map, Array.getElem?_toList, hoj] at ho
      exact (Option.some.inj ho).symm
    subst this
    have hs := guarded_sound (Q := Q) hO hC lit ops ops[j] hh ht hg
    have next : ∀ a' w', Post (fun t' H' => (neutral neu (resS T lit ops ops[j]).o = false → ∀ i ∈ W, i ∉ (afOf ops).getD j [] → ChkI (ops.toList.map (resS T lit ops)) i t' H') ∧
        anyP C neu (ops.toList.map (resS T lit ops)) (afOf ops) K n (W.filter fun i => !(((afOf ops).getD j []).contains i)) (listed.set j true) t' H') J w M a' w' → wpAny P .any ops Q n (listed.toArray.setIfInBounds j true) a' w' := by
      rintro a' w' ⟨t', H', M', hk, hh', ht', hgo'⟩
      have := ih _ (listed.set j true) t' H' a' w' M' (hgo.trans hgo') hh' ht' (by simpa using hl) hk.2
      simpa using this
    unfold wpOp
    simp only [hoj]
    split
    · rename_i hw
      rw [if_pos hw] at hs
      exact .inl (Oper.wp_mono next hs)
    · rename_i hw
      rw [if_neg hw] at hs
      exact next _ _ hs

theorem drawn_goes (w : World) (M : List RI) : Goes w M { w with drawn := w.drawn + 1 } M :=
  ⟨fun _ m h => ⟨m, h, rfl, .inl rfl⟩, Nat.le_refl _, fun _ _ _ => rfl, fun m hm => .inl ⟨m, hm, rfl⟩, rfl, rfl, rfl⟩

theorem region_any_sound (hM : Mono C) (hN : Neut C neu) (hO : OpOk P T) (hC : CallOk P C) (hmix : P.follows .mixedOrders = true) {id : Nat} {ops : Array Oper} {K : List V → Heap → Prop} {X : Nat → List V → Heap → Prop} {R : List V → Heap → Prop} {nt : Nat} {s : Sc} {t : List V} {H : Heap} {a : Act} {w : World} {M : List RI}
    (hs : s.isAlt = false) (hd : s.depth ≤ ops.toList.length) (hok : okSc (ops.toList.map (resS T lit ops)) (afOf ops) nt s (List.replicate ops.toList.length false) [] [] = true) (hnt : t.length = nt)
    (h : schedP C neu (ops.toList.map (resS T lit ops)) (afOf ops) K s [] t H) (hh : HR w M J H) (ht : TR w M J t a) : (Code.region id ops true).wp P (PostD K X R J w M) a w := by
  have hg := drawn_goes w M
  have hany := scTarget_any hs (sched_any hM hN s ops.toList.length [] (List.replicate ops.toList.length false) t H [] hnt hd hok h)
  have := any_sound (neu := neu) (Q := PostD K X R J w M) hO hC ops w M (fun a w h => h) ops.toList.length [] (List.replicate ops.toList.length false) t H a { w with drawn := w.drawn + 1 } M hg (hh.goes hg fun _ _ => rfl) (ht.goes hg) (by simp) hany
  refine wp_region_any hmix ?_
  simpa using this

theorem dloop_sound {c : Code} {t : List V} {kill sel : List Nat} {K : List V → Heap → Prop} {X : Nat → List V → Heap → Prop} {R : List V → Heap → Prop} {F : List V → Heap → (List V → Heap → Prop) → Prop}
    (hf : ∀ (k : List V → Heap → Prop) (s : List V) (H : Heap) (a : Act) (w : World) (M : List RI), F s H k → HR w M J H → TR w M J (setAll (killAll t kill) sel s) a →
      c.wp P (PostD (fun t' H' => k (getAll t' sel) H' ∧ AgreeOut (kill ++ sel) t t') X R J w M) a w) :
    ∀ (n : Nat) (s : List V) (H : Heap) (a : Act) (w : World) (M : List RI), dLoop n F s H → HR w M J H → TR w M J (setAll (killAll t kill) sel s) a → ∀ (b : Frame) (k : List Item) (cs : List Frame),
      ∃ e a' w', PostD K X R J w M e a' w' ∧ Arrives P (lone (b.at a (.code c :: .inLoop c :: k)) cs w) b k cs e a' w' := by
  intro n
  induction n with
  | zero => intro s H a w M h; exact h.elim
  | succ n ih =>
    intro s H a w M h hh ht b k cs
    simp only [dLoop] at h
    obtain ⟨e, a₁, w₁, hq, harr⟩ := hf _ s H a w M h hh ht b (.inLoop c :: k) cs
    cases e with
    | normal =>
      obtain ⟨t1, H1, M1, ⟨hk, hag⟩, hh1, ht1, hg1⟩ := hq
      obtain ⟨e₂, a₂, w₂, hq₂, harr₂⟩ := ih _ H1 a₁ w₁ M1 hk hh1 (ht1.join hag) b k cs
      exact ⟨e₂, a₂, w₂, hq₂.from hg1, .of_steps (Steps.trans harr (.one step_inLoop)) harr₂⟩
    | exit id => exact ⟨.exit id, a₁, w₁, hq, .pass (x := .inLoop c) rfl (fun _ _ => .inl (by simp)) harr⟩
    | ret => exact ⟨.ret, a₁, w₁, hq, .pass (x := .inLoop c) rfl (fun _ _ => .inl (by simp)) harr⟩
    | goto l => exact hq.elim
    | panic ch => exact hq.elim
    | outgrown => exact hq.elim

theorem Post.imp {K K' : List V → Heap → Prop} {w : World} {M : List RI} {a' : Act} {w' : World} (hk : ∀ t H, K t H → K' t H) (h : Post K J w M a' w') : Post K' J w M a' w' := by
  obtain ⟨t, H, M', h1, h2⟩ := h
  exact ⟨t, H, M', hk _ _ h1, h2⟩

theorem runD_sound (hM : Mono C) (hN : Neut C neu) (hO : OpOk P T) (hC : CallOk P C) (hmix : P.follows .mixedOrders = true) (nt n : Nat) (c : Code) : ∀ (an : An) (K : List V → Heap → Prop) (X : Nat → List V → Heap → Prop) (R : List V → Heap → Prop) (t : List V) (H : Heap) (a : Act) (w : World) (M : List RI),
    okRD (resD T neu lit nt an c) = true → t.length = nt → runD C n (resD T neu lit nt an c) t H K X R → HR w M J H → TR w M J t a → c.wp P (PostD K X R J w M) a w := by
  induction c with
  | skip => intro an K X R t H a w M _ _ h hh ht; cases an <;> exact wp_skip ⟨t, H, M, h, hh, ht, Goes.refl w M⟩
  | region id ops draw =>
    intro an K X R t H a w M hok0 hnt h hh ht
    replace hok0 : okRD (regD T neu lit nt an ops draw) = true := by cases an <;> exact hok0
    have h0 : runD C n (regD T neu lit nt an ops draw) t H K X R := by cases an <;> exact h
    clear h
    revert h0
    intro h
    unfold regD at h hok0
    cases draw with
    | false =>
      clear hok0
      simp only at h
      split at h
      · rename_i gs hgs
        refine wp_region (ops_sound hO hC lit ops w M (fun a w h => h) (List.range ops.size) ops.toList (fun i hi => by simpa using hi) ?_ t H a w M (Goes.refl w M) hh ht (groups_sound hM _ _ _ hgs h))
        exact (filterMap_all ops).symm
      · exact h.elim
    | true =>
      simp only at h hok0
      split at h
      · rename_i ord
        clear hok0
        split at h
        · rename_i l hl
          split at h
          · rename_i hb
            simp only [Bool.and_eq_true] at hb
            obtain ⟨⟨h1, h2⟩, h3⟩ := hb
            split at h
            · rename_i gs hgs
              refine region_any_sound hM hN hO hC hmix ?_ (Nat.le_of_ble_eq_true h2) h1 hnt (lin_sched hM ord l [] t H hl h3 (groups_sound hM _ _ _ hgs h)) hh ht
              cases ord with
              | nil => rfl
              | cons i is => simp only [linSc]; split <;> first | rfl | (split <;> rfl)
            · exact h.elim
          · exact h.elim
        · exact h.elim
      · rename_i sc kill sel
        split at h
        · rename_i hb
          simp only [hb, okRD] at hok0
          simp only [Bool.and_eq_true, Bool.not_eq_true'] at hb
          obtain ⟨⟨h1, h2⟩, h3⟩ := hb
          simp only [runD, dBlk] at h
          have hs := subB_spec hok0
          have hsc := schedP_agree (neu := neu) hM sc [] (schedD_P hM (fun i o ho hn => (by
            rw [List.getD_eq_getElem?_getD, List.getElem?_map, ho] at hn
            exact hn)) sc [] h) t (AgreeOut.refl _ _)
          refine wp_mono (region_any_sound (X := X) (R := R) hM hN hO hC hmix h3 (Nat.le_of_ble_eq_true h2) h1 hnt hsc hh ht) fun e a' w' hq => ?_
          cases e with
          | normal =>
            obtain ⟨t1, H1, M1, ⟨hk, hag⟩, hh1, ht1, hg1⟩ := hq
            exact ⟨_, H1, M1, hk, hh1, ht1.join (hag.sub hs), hg1⟩
          | _ => exact hq
        · exact h.elim
      · exact h.elim
  | seq x y ihx ihy =>
    intro an K X R t H a w M hok hnt h hh ht
    cases an <;> try (exact h.elim)
    rename_i a1 a2
    simp only [resD, okRD, Bool.and_eq_true] at hok
    simp only [resD, runD] at h
    have h := runD_agree hM n _ hok.1 h
    refine wp_seq (wp_mono (ihx a1 _ _ _ t H a w M hok.1 hnt h hh ht) fun e a' w' hq => ?_)
    cases e with
    | normal =>
      obtain ⟨t1, H1, M1, ⟨hk, hag⟩, hh1, ht1, hg1⟩ := hq
      exact wp_mono (ihy a2 _ _ _ t1 H1 a' w' M1 hok.2 (hag.1.trans hnt) hk hh1 ht1) fun e a w h => h.from hg1
    | ret => exact Post.imp (fun _ _ h => h.1) hq
    | exit id => exact Post.imp (fun _ _ h => h.1) hq
    | _ => exact hq
  | cond c x y ihx ihy =>
    intro an K X R t H a w M hok hnt h hh ht
    cases an <;> try (exact h.elim)
    rename_i a1 a2 kill sel
    simp only [resD, okRD, Bool.and_eq_true] at hok
    obtain ⟨⟨h1, h2⟩, h3⟩ := hok
    have hs := subB_spec h1
    simp only [resD, runD] at h
    unfold dIf at h
    have hc := ht.rv c
    split at h
    · rename_i q hq
      rw [hq] at hc
      generalize hu : a.eval c = u at hc
      cases hc
      refine wp_cond hu ?_
      cases q with
      | true =>
        have h := runD_agree hM n _ h2 h
        refine wp_mono (ihx a1 _ _ _ t H a w M h2 hnt h hh ht) fun e a' w' hq => ?_
        cases e with
        | normal =>
          obtain ⟨t1, H1, M1, ⟨hk, hag⟩, hh1, ht1, hg1⟩ := hq
          exact ⟨_, H1, M1, hk, hh1, ht1.join (hag.sub fun n hn => hs n (by simp [hn])), hg1⟩
        | ret => exact Post.imp (fun _ _ h => h.1) hq
        | exit id => exact Post.imp (fun _ _ h => h.1) hq
        | _ => exact hq
      | false =>
        have h := runD_agree hM n _ h3 h
        refine wp_mono (ihy a2 _ _ _ t H a w M h3 hnt h hh ht) fun e a' w' hq => ?_
        cases e with
        | normal =>
          obtain ⟨t1, H1, M1, ⟨hk, hag⟩, hh1, ht1, hg1⟩ := hq
          exact ⟨_, H1, M1, hk, hh1, ht1.join (hag.sub fun n hn => hs n (by simp [hn])), hg1⟩
        | ret => exact Post.imp (fun _ _ h => h.1) hq
        | exit id => exact Post.imp (fun _ _ h => h.1) hq
        | _ => exact hq
    · exact h.elim
  | block id c ih =>
    intro an K X R t H a w M hok hnt h hh ht
    cases an <;> try (exact h.elim)
    rename_i a1 kill sel
    simp only [resD, okRD, Bool.and_eq_true] at hok
    have hs := subB_spec hok.1
    simp only [resD, runD, dBlk] at h
    have h := runD_agree hM n _ hok.2 h
    refine wp_block (wp_mono (ih a1 _ _ _ t H a w M hok.2 hnt h hh ht) fun e a' w' hq => ?_)
    cases e with
    | normal =>
      obtain ⟨t1, H1, M1, ⟨hk, hag⟩, hh1, ht1, hg1⟩ := hq
      exact ⟨_, H1, M1, hk, hh1, ht1.join (hag.sub hs), hg1⟩
    | exit j =>
      simp only [Exit.inBlock]
      obtain ⟨t1, H1, M1, ⟨hk, hag⟩, hh1, ht1, hg1⟩ := hq
      by_cases hj : j = id
      · subst hj
        simp only [Nat.beq_refl] at hk
        simp only [if_true]
        exact ⟨_, H1, M1, hk, hh1, ht1.join (hag.sub hs), hg1⟩
      · have : Nat.beq j id = false := by
          cases hb : Nat.beq j id with
          | false => rfl
          | true => exact absurd (Nat.eq_of_beq_eq_true hb) hj
        simp only [this] at hk
        simp only [hj, if_false]
        exact ⟨t1, H1, M1, hk, hh1, ht1, hg1⟩
    | ret => exact Post.imp (fun _ _ h => h.1) hq
    | _ => exact hq
  | loop c ih =>
    intro an K X R t H a w M hok hnt h hh ht b k' cs
    cases an <;> try (exact h.elim)
    rename_i a1 kill sel
    simp only [resD, okRD, Bool.and_eq_true] at hok
    have hs := subB_spec hok.1
    simp only [resD, runD] at h
    obtain ⟨e, a', w', hq, harr⟩ := dloop_sound (P := P) (J := J) (c := c) (t := t) (kill := kill) (sel := sel) (K := K) (X := X) (R := R) (fun k s H a w M hF hh ht => by
      have hF := runD_agree hM n _ hok.2 hF
      have hj := agree_join kill sel t s
      refine wp_mono (ih a1 _ _ _ _ H a w M hok.2 (by rw [hj.1]; exact hnt) hF hh ht) fun e a' w' hq => ?_
      cases e with
      | normal => exact Post.imp (fun _ _ h => ⟨h.1, hj.trans (h.2.sub hs)⟩) hq
      | ret => exact Post.imp (fun _ _ h => h.1) hq
      | exit id => exact Post.imp (fun _ _ h => h.1) hq
      | _ => exact hq) n _ H a w M h hh (ht.join (AgreeOut.refl _ _)) b k' cs
    exact ⟨e, a', w', hq, .of_steps (.one step_loop) harr⟩
  | exit id => intro an K X R t H a w M _ _ h hh ht; cases an <;> exact wp_exit ⟨t, H, M, h, hh, ht, Goes.refl w M⟩
  | ret => intro an K X R t H a w M _ _ h hh ht; cases an <;> exact wp_ret ⟨t, H, M, h, hh, ht, Goes.refl w M⟩
  | _ => intro an K X R t H a w M _ _ h; cases an <;> exact h.elim
end
end Go.Am

/- Results that bring their rows with them: what a call made for itself becomes the caller's. -/
namespace Go.Am

/-- A function over a list, with something carried along. -/
def allS {α β σ : Type} (f : α → σ → Option (β × σ)) : List α → σ → Option (List β × σ)
  | [], s => some ([], s)
  | a :: l, s => match f a s with
    | none => none
    | some (b, s) => match allS f l s with
      | none => none
      | some (bs, s) => some (b :: bs, s)

/-- The row r of a call's own heap, as one of the caller's; 'es': its elements there. -/
def newOwn (b r : Nat) (R : Row) (es : List (List V)) (acc : List (Nat × Row)) : Option (Nat × List (Nat × Row)) :=
  match (acc.map (·.1)).any (Nat.beq r) with
  | true => none
  | false => some (b + acc.length, acc ++ [(r, { R with es := es })])

mutual
def ownV (H : Heap) (b : Nat) : Sh → V → List (Nat × Row) → Option (V × List (Nat × Row))
  | .at_, v, acc => match plainV v with | true => some (v, acc) | false => none
  | .li cs, v, acc => match v with
    | .ns => some (.ns, acc)
    | .zs => some (.zs, acc)
    | .tl _ z [] => if z = cs.length then some (.tl false z [], acc) else none
    | .rw r z n => match row? H r with
      | none => none
      | some R => if R.z = cs.length ∧ z = cs.length ∧ R.bx = false then match qsame n (qlen R.es) with
          | false => none
          | true => match allS (ownCs H b cs) R.es acc with
            | none => none
            | some (es, acc) => match newOwn b r R es acc with
              | none => none
              | some (i, acc) => some (.rw i z n, acc)
        else none
    | .sl r z n off len => match row? H r with
      | none => none
      | some R => if R.z = cs.length ∧ z = cs.length ∧ R.bx = false then match qsame n (qlen R.es) with
          | false => none
          | true => match allS (ownCs H b cs) R.es acc with
            | none => none
            | some (es, acc) => match newOwn b r R es acc with
              | none => none
              | some (i, acc) => some (.sl i z n off len, acc)
        else none
    | _ => none
  | .ag cs, v, acc => match v with
    | .agg c => match ownCs H b cs c acc with
      | none => none
      | some (c, acc) => some (.agg c, acc)
    | _ => none
  | .tu cs, v, acc => match v with
    | .tup c => match ownCs H b cs c acc with
      | none => none
      | some (c, acc) => some (.tup c, acc)
    | _ => none
  | .pt _, _, _ => none
def ownCs (H : Heap) (b : Nat) : List Sh → List V → List (Nat × Row) → Option (List V × List (Nat × Row))
  | [], c, acc => match c with | [] => some ([], acc) | _ => none
  | s :: ss, c, acc => match c with
    | v :: vs => match ownV H b s v acc with
      | none => none
      | some (v', acc) => match ownCs H b ss vs acc with
        | none => none
        | some (vs', acc) => some (v' :: vs', acc)
    | [] => none
end

/-- Values that lean on rows alone. -/
inductive OW (M : List RI) : V → Value → Prop
  | i (k : IntKind) (n : Int) : OW M (.i k n) (.int k n)
  | b (t : Bool) : OW M (.b t) (.bool t)
  | s (t : ByteArray) : OW M (.s t) (.string t)
  | np : OW M .np (.pointer none)
  | ns : OW M .ns (.slice none 0 0)
  | zs (a : Addr) : OW M .zs (.slice (some a) 0 0)
  | nl (z : Nat) (a : Option Addr) (c : Nat) : OW M (.tl false z []) (.slice a 0 c)
  | rw (r z n : Nat) (m : RI) (g c : Nat) (h : M[r]? = some m) (hz : m.z = z) (hn : n ≤ m.len) (hc : n ≤ c) (ha : n = m.len → g = m.g ∧ c = m.cap) : OW M (.rw r z n) (.slice (some ⟨g, 0, none⟩) n c)
  | sl (r z n off len : Nat) (m : RI) (g o c : Nat) (h : M[r]? = some m) (hz : m.z = z) (hn : n ≤ m.len) (hl : off + len ≤ n) (hc : len ≤ c) (ha : n = m.len → g = m.g ∧ (len = 0 ∨ o = off * z)) : OW M (.sl r z n off len) (.slice (some ⟨g, o, none⟩) len c)
  | agg (cs : List V) (vs : List Value) (hl : vs.length = cs.length) (hv : ∀ (j : Nat) (x : V) (v : Value), cs[j]? = some x → vs[j]? = some v → OW M x v) : OW M (.agg cs) (.agg vs.toArray)
  | tup (cs : List V) (vs : List Value) (hl : vs.length = cs.length) (hv : ∀ (j : Nat) (x : V) (v : Value), cs[j]? = some x → vs[j]? = some v → OW M x v) : OW M (.tup cs) (.tuple vs.toArray)
  | fn (f : Nat) : OW M (.fn f []) (.func (.func f) #[] #[])

theorem OW.mono {M : List RI} {x : V} {v : Value} (L : List RI) (h : OW M x v) : OW (M ++ L) x v := by
  have app : ∀ {r : Nat} {m : RI}, M[r]? = some m → (M ++ L)[r]? = some m := fun {r m} h => by
    rw [List.getElem?_append_left (List.getElem?_eq_some_iff.1 h).1]; exact h
  induction h with
  | i k n => exact .i k n
  | b t => exact .b t
  | s t => exact .s t
  | np => exact .np
  | ns => exact .ns
  | zs a => exact .zs a
  | nl z a c => exact .nl z a c
  | rw r z n m g c h hz hn hc ha => exact .rw r z n m g c (app h) hz hn hc ha
  | sl r z n off len m g o c h hz hn hl hc ha => exact .sl r z n off len m g o c (app h) hz hn hl hc ha
  | agg cs vs hl hv ih => exact .agg cs vs hl ih
  | tup cs vs hl hv ih => exact .tup cs vs hl ih
  | fn f => exact .fn f

theorem OW.vr {w : World} {M : List RI} {J : Nat → Prop} {x : V} {v : Value} (h : OW M x v) : VR w M J x v := by
  induction h with
  | i k n => exact .i k n
  | b t => exact .b t
  | s t => exact .s t
  | np => exact .np
  | ns => exact .ns
  | zs a => exact .zs a
  | nl z a c => exact .tl false z [] a c 0 0 (fun _ _ => undef) (fun h => absurd rfl h) (Nat.zero_le _) (by simp) (by simp) (by simp)
  | rw r z n m g c h hz hn hc ha => exact .rw r z n m g c h hz hn hc ha
  | sl r z n off len m g o c h hz hn hl hc ha => exact .sl r z n off len m g o c h hz hn hl hc ha
  | agg cs vs hl hv ih => exact .agg cs vs hl ih
  | tup cs vs hl hv ih => exact .tup cs vs hl ih
  | fn f => exact .fn f [] [] rfl (by simp)

def ElemsO (M : List RI) (z : Nat) (es : List (List V)) (cur : Array Value) : Prop :=
  ∀ (i : Nat) (c : List V), es[i]? = some c → c.length = z ∧ ∀ (j : Nat) (x : V), c[j]? = some x → ∃ v, cur[i * z + j]? = some v ∧ OW M x v ∧ v.oneCell' = true

/-- What was taken over so far. -/
structure Own (w : World) (M' M : List RI) (acc : List (Nat × Row)) (Ma : List RI) : Prop where
  len : acc.length = Ma.length
  row : ∀ (i r : Nat) (R : Row), acc[i]? = some (r, R) → ∃ m cur, Ma[i]? = some m ∧ M'[r]? = some m ∧ m.z = R.z ∧ m.len = R.es.length ∧ 0 < R.z ∧ w.heap[m.g]? = some (.cells cur R.e (0, 0)) ∧ m.len ≤ m.cap ∧ m.cap ≤ maxLen ∧ cur.size = m.cap * m.z ∧ ElemsO (M ++ Ma) R.z R.es cur ∧ R.bx = false
  ids : (acc.map (·.1)).Nodup

section
variable {w : World} {M' M : List RI} {J' : Nat → Prop} {H' : Heap}

theorem Own.more {acc : List (Nat × Row)} {Ma : List RI} (h : Own w M' M acc Ma) : ∀ {L : List RI} {c : List V} {vs : List Value}, (∀ (j : Nat) (x : V) (v : Value), c[j]? = some x → vs[j]? = some v → OW (M ++ Ma) x v) → ∀ (j : Nat) (x : V) (v : Value), c[j]? = some x → vs[j]? = some v → OW (M ++ (Ma ++ L)) x v := by
  intro L c vs hv j x v hx hvv
  have := (hv j x v hx hvv).mono L
  rwa [List.append_assoc] at this

theorem newOwn_sound {b r i : Nat} {R : Row} {es : List (List V)} {acc acc' : List (Nat × Row)} {Ma : List RI} {m : RI} {cur : Array Value} (hb : b = M.length) (h : newOwn b r R es acc = some (i, acc')) (ho : Own w M' M acc Ma)
    (hm : M'[r]? = some m) (hr : RowR w M' J' m R cur) (hbx : R.bx = false) (hl : es.length = R.es.length) (he : ElemsO (M ++ Ma) R.z es cur) :
    Own w M' M acc' (Ma ++ [m]) ∧ (M ++ (Ma ++ [m]))[i]? = some m := by
  unfold newOwn at h
  split at h
  · cases h
  · rename_i hany
    cases h
    subst hb
    have hmono : ∀ {z : Nat} {es : List (List V)} {cur : Array Value}, ElemsO (M ++ Ma) z es cur → ElemsO (M ++ (Ma ++ [m])) z es cur := fun h i c hi => ⟨(h i c hi).1, fun j x hj => by
      obtain ⟨v, h1, h2, h3⟩ := (h i c hi).2 j x hj
      refine ⟨v, h1, ?_, h3⟩
      have := h2.mono [m]
      rwa [List.append_assoc] at this⟩
    refine ⟨⟨by simp [ho.len], fun i r' R' hi => ?_, ?_⟩, ?_⟩
    · rw [List.getElem?_append] at hi
      split at hi
      · rename_i hlt
        obtain ⟨m', cur', h1, h2, h3, h4, h5, h6, h7, h8, h9, h10, h11⟩ := ho.row i r' R' hi
        exact ⟨m', cur', by rw [List.getElem?_append_left (List.getElem?_eq_some_iff.1 h1).1]; exact h1, h2, h3, h4, h5, h6, h7, h8, h9, hmono h10, h11⟩
      · rename_i hge
        have : i - acc.length = 0 := by
          have := (List.getElem?_eq_some_iff.1 hi).1
          simp at this
          omega
        rw [this] at hi
        simp only [List.getElem?_cons_zero, Option.some.injEq, Prod.mk.injEq] at hi
        obtain ⟨rfl, rfl⟩ := hi
        have hi' : i = Ma.length := by rw [← ho.len]; omega
        refine ⟨m, cur, by rw [hi']; simp, hm, hr.z, by rw [hr.len, hl], hr.pos, hr.heap, hr.le, hr.max, hr.size, hmono he, hbx⟩
    · rw [List.map_append, List.map_cons, List.map_nil]
      rw [List.nodup_append]
      refine ⟨ho.ids, by simp, fun a ha c hc => ?_⟩
      simp only [List.mem_singleton] at hc
      subst hc
      rintro rfl
      exact mem_any hany ha
    · rw [ho.len, List.getElem?_append_right (Nat.le_add_right _ _), Nat.add_sub_cancel_left]
      simp

theorem plain_ow {v : V} {u : Value} {w : World} {M0 : List RI} (M : List RI) (hp : plainV v = true) (h : VR w M0 J' v u) : OW M v u := by
  unfold plainV at hp
  split at hp
  · cases h; exact .i _ _
  · cases h; exact .b _
  · cases h; exact .s _
  · cases h; exact .np
  · cases h with
    | fn f _ vs hl hvv =>
      have : vs = [] := List.eq_nil_of_length_eq_zero (by simpa using hl)
      subst this
      exact .fn _
  · cases hp

theorem allS_sound {f : List V → List (Nat × Row) → Option (List V × List (Nat × Row))} {cur : Array Value} {z : Nat}
    (hf : ∀ (c c' : List V) (acc acc' : List (Nat × Row)) (Ma : List RI), f c acc = some (c', acc') → Own w M' M acc Ma → ∃ L, Own w M' M acc' (Ma ++ L) ∧ c'.length = c.length ∧ ∀ (j : Nat) (x : V), c'[j]? = some x → ∃ y, c[j]? = some y ∧ ∀ u, VR w M' J' y u → OW (M ++ (Ma ++ L)) x u) :
    ∀ (es es' : List (List V)) (o : Nat) (acc acc' : List (Nat × Row)) (Ma : List RI), allS f es acc = some (es', acc') → Own w M' M acc Ma →
      (∀ (i : Nat) (c : List V), es[i]? = some c → c.length = z ∧ ∀ (j : Nat) (x : V), c[j]? = some x → ∃ v, cur[(o + i) * z + j]? = some v ∧ VR w M' J' x v ∧ v.oneCell' = true) →
      ∃ L, Own w M' M acc' (Ma ++ L) ∧ es'.length = es.length ∧ ∀ (i : Nat) (c : List V), es'[i]? = some c → c.length = z ∧ ∀ (j : Nat) (x : V), c[j]? = some x → ∃ v, cur[(o + i) * z + j]? = some v ∧ OW (M ++ (Ma ++ L)) x v ∧ v.oneCell' = true
  | [], es', o, acc, acc', Ma, h, ho, hel => by
    cases h
    exact ⟨[], by simpa using ho, rfl, by simp⟩
  | c :: es, es', o, acc, acc', Ma, h, ho, hel => by
    simp only [allS] at h
    split at h
    · cases h
    · rename_i c1 acc1 h1
      split at h
      · cases h
      · rename_i es1 acc2 h2
        cases h
        obtain ⟨L1, o1, l1, q1⟩ := hf c c1 acc acc1 Ma h1 ho
        obtain ⟨L2, o2, l2, q2⟩ := allS_sound hf es es1 (o + 1) acc1 acc' (Ma ++ L1) h2 o1 (fun i c hi => by
          have := hel (i + 1) c (by simpa using hi)
          rwa [show o + (i + 1) = o + 1 + i by omega] at this)
        refine ⟨L1 ++ L2, by rw [← List.append_assoc]; exact o2, by simp [l2], fun i c' hi => ?_⟩
        cases i with
        | zero =>
          simp only [List.getElem?_cons_zero, Option.some.injEq] at hi
          subst hi
          obtain ⟨z1, z2⟩ := hel 0 c rfl
          refine ⟨l1.trans z1, fun j x hj => ?_⟩
          obtain ⟨y, hy, hq⟩ := q1 j x hj
          obtain ⟨v, v1, v2, v3⟩ := z2 j y hy
          refine ⟨v, v1, ?_, v3⟩
          have := (hq v v2).mono L2
          simpa [List.append_assoc] using this
        | succ i =>
          have := q2 i c' (by simpa using hi)
          refine ⟨this.1, fun j x hj => ?_⟩
          obtain ⟨v, v1, v2, v3⟩ := this.2 j x hj
          exact ⟨v, by rw [show o + (i + 1) = o + 1 + i by omega]; exact v1, by simpa [List.append_assoc] using v2, v3⟩

mutual
theorem ownV_sound (hh : HR w M' J' H') {b : Nat} (hb : b = M.length) : ∀ (sh : Sh) (v v' : V) (acc acc' : List (Nat × Row)) (Ma : List RI), ownV H' b sh v acc = some (v', acc') → Own w M' M acc Ma →
    ∃ L, Own w M' M acc' (Ma ++ L) ∧ ∀ u, VR w M' J' v u → OW (M ++ (Ma ++ L)) v' u
  | .at_, v, v', acc, acc', Ma, h, ho => by
    simp only [ownV] at h
    split at h
    · rename_i hp
      cases h
      exact ⟨[], by simpa using ho, fun u hv => plain_ow _ hp hv⟩
    · cases h
  | .li cs, v, v', acc, acc', Ma, h, ho => by
    simp only [ownV] at h
    split at h
    · cases h; exact ⟨[], by simpa using ho, fun u hv => by cases hv; exact .ns⟩
    · cases h; exact ⟨[], by simpa using ho, fun u hv => by cases hv; exact .zs _⟩
    · split at h
      · cases h
        refine ⟨[], by simpa using ho, fun u hv => ?_⟩
        cases hv with
        | tl _ _ _ a c g o f ha hc hz h hv => exact .nl _ _ _
      · cases h
    · rename_i r z n
      split at h
      · cases h
      · rename_i R hR
        split at h
        · rename_i hcnd
          split at h
          · cases h
          · rename_i hq
            split at h
            · cases h
            · rename_i es acc1 h1
              split at h
              · cases h
              · rename_i i acc2 h2
                cases h
                obtain ⟨m, cur, hm, hr⟩ := hh.row r R hR
                obtain ⟨L, o1, l1, q1⟩ := allS_sound (cur := cur) (z := R.z) (fun c c' acc acc' Ma h ho => ownCs_sound hh hb cs c c' acc acc' Ma h ho) R.es es 0 acc acc1 Ma h1 ho (fun i c hi => by simpa using hr.els i c hi)
                obtain ⟨o2, hi⟩ := newOwn_sound hb h2 o1 hm hr hcnd.2.2 l1 (fun i c hi => by simpa using q1 i c hi)
                refine ⟨L ++ [m], by rw [← List.append_assoc]; exact o2, fun u hv => ?_⟩
                cases hv with
                | rw _ _ _ m0 g c hm0 hz hn hc ha =>
                  rw [hm] at hm0
                  cases hm0
                  refine .rw i z n m g c (by simpa [List.append_assoc] using hi) hz hn hc ha
        · cases h
    · rename_i r z n off len
      split at h
      · cases h
      · rename_i R hR
        split at h
        · rename_i hcnd
          split at h
          · cases h
          · rename_i hq
            split at h
            · cases h
            · rename_i es acc1 h1
              split at h
              · cases h
              · rename_i i acc2 h2
                cases h
                obtain ⟨m, cur, hm, hr⟩ := hh.row r R hR
                obtain ⟨L, o1, l1, q1⟩ := allS_sound (cur := cur) (z := R.z) (fun c c' acc acc' Ma h ho => ownCs_sound hh hb cs c c' acc acc' Ma h ho) R.es es 0 acc acc1 Ma h1 ho (fun i c hi => by simpa using hr.els i c hi)
                obtain ⟨o2, hi⟩ := newOwn_sound hb h2 o1 hm hr hcnd.2.2 l1 (fun i c hi => by simpa using q1 i c hi)
                refine ⟨L ++ [m], by rw [← List.append_assoc]; exact o2, fun u hv => ?_⟩
                cases hv with
                | sl _ _ _ _ _ m0 g o c hm0 hz hn hl hc ha =>
                  rw [hm] at hm0
                  cases hm0
                  exact .sl i z n off len m g o c (by simpa [List.append_assoc] using hi) hz hn hl hc ha
        · cases h
    · cases h
  | .ag cs, v, v', acc, acc', Ma, h, ho => by
    simp only [ownV] at h
    split at h
    · rename_i c
      split at h
      · cases h
      · rename_i c1 acc1 h1
        cases h
        obtain ⟨L, o1, l1, q1⟩ := ownCs_sound hh hb cs c c1 acc acc' Ma h1 ho
        refine ⟨L, o1, fun u hv => ?_⟩
        cases hv with
        | agg _ vs hl hvv =>
          refine .agg c1 vs (by rw [hl, l1]) fun j x v hx hv => ?_
          obtain ⟨y, hy, hq⟩ := q1 j x hx
          exact hq v (hvv j y v hy hv)
    · cases h
  | .tu cs, v, v', acc, acc', Ma, h, ho => by
    simp only [ownV] at h
    split at h
    · rename_i c
      split at h
      · cases h
      · rename_i c1 acc1 h1
        cases h
        obtain ⟨L, o1, l1, q1⟩ := ownCs_sound hh hb cs c c1 acc acc' Ma h1 ho
        refine ⟨L, o1, fun u hv => ?_⟩
        cases hv with
        | tup _ vs hl hvv =>
          refine .tup c1 vs (by rw [hl, l1]) fun j x v hx hv => ?_
          obtain ⟨y, hy, hq⟩ := q1 j x hx
          exact hq v (hvv j y v hy hv)
    · cases h
  | .pt cs, v, v', acc, acc', Ma, h, ho => by simp only [ownV] at h; cases h
theorem ownCs_sound (hh : HR w M' J' H') {b : Nat} (hb : b = M.length) : ∀ (shs : List Sh) (c c' : List V) (acc acc' : List (Nat × Row)) (Ma : List RI), ownCs H' b shs c acc = some (c', acc') → Own w M' M acc Ma →
    ∃ L, Own w M' M acc' (Ma ++ L) ∧ c'.length = c.length ∧ ∀ (j : Nat) (x : V), c'[j]? = some x → ∃ y, c[j]? = some y ∧ ∀ u, VR w M' J' y u → OW (M ++ (Ma ++ L)) x u
  | [], c, c', acc, acc', Ma, h, ho => by
    simp only [ownCs] at h
    split at h
    · cases h; exact ⟨[], by simpa using ho, rfl, by simp⟩
    · cases h
  | sh :: shs, c, c', acc, acc', Ma, h, ho => by
    simp only [ownCs] at h
    split at h
    · rename_i v vs
      split at h
      · cases h
      · rename_i v1 acc1 h1
        split at h
        · cases h
        · rename_i vs1 acc2 h2
          cases h
          obtain ⟨L1, o1, q1⟩ := ownV_sound hh hb sh v v1 acc acc1 Ma h1 ho
          obtain ⟨L2, o2, l2, q2⟩ := ownCs_sound hh hb shs vs vs1 acc1 acc' (Ma ++ L1) h2 o1
          refine ⟨L1 ++ L2, by rw [← List.append_assoc]; exact o2, by simp [l2], fun j x hj => ?_⟩
          cases j with
          | zero =>
            simp only [List.getElem?_cons_zero, Option.some.injEq] at hj
            subst hj
            refine ⟨v, rfl, fun u hu => ?_⟩
            have := (q1 u hu).mono L2
            simpa [List.append_assoc] using this
          | succ j =>
            obtain ⟨y, hy, hq⟩ := q2 j x (by simpa using hj)
            exact ⟨y, by simpa using hy, fun u hu => by simpa [List.append_assoc] using hq u hu⟩
    · cases h
end
end
end Go.Am

/- Calls, and that they are sound. -/
namespace Go.Am

/-- How a function is called with a heap of its own: 'lend': its arguments are lent (else they must be sealed for good); their shapes, its result's; 'own': its result comes with its rows. -/
structure SigD where
  lend : Bool
  args : List Sh
  res : Sh
  own : Bool

def backD (sg : SigD) (H : Heap) (K : V → Heap → Prop) (v : V) (H' : Heap) : Prop :=
  match sg.own with
  | false => match sealV false true false H' sg.res v with
    | some v' => K v' H
    | none => False
  | true => match ownV H' H.length sg.res v [] with
    | some (v', acc) => K v' (H ++ acc.map (·.2))
    | none => False

def callD (F : Nat → Option RFD) (sig : Nat → Option SigD) (orc : Nat → Option Call1) : Nat → Call1
  | 0, _, _, _, _ => False
  | k + 1, f, args, H, K => match orc f with
    | some g => g f args H K
    | none => match F f with
      | none => False
      | some fn => match sig f with
        | none => bodyD (callD F sig orc k) k fn args H K
        | some sg => match sealCs sg.lend sg.lend sg.lend H sg.args args with
          | none => False
          | some as => bodyD (callD F sig orc k) k fn as [] (backD sg H K)

def bodyO (C : Call1) (n : Nat) (o : Option RFD) (args : List V) (H : Heap) (K : V → Heap → Prop) : Prop :=
  match o with
  | some fn => bodyD C n fn args H K
  | none => False

/-- A function that is told, not run. -/
def OrcOk (P : Program) (f : Nat) (g : Call1) : Prop :=
  ∀ (args : List V) (H : Heap) (K : V → Heap → Prop) (w : World) (M : List RI) (J : Nat → Prop) (vals : Array Value), g f args H K → HR w M J H → args.length = vals.size →
    (∀ (n : Nat) (x : V) (v : Value), args[n]? = some x → vals[n]? = some v → VR w M J x v) → Good P f ∧ Calls P f vals w (CPost K J w M)

section
variable {C : Call1}
theorem retsD_mono : ∀ (rs : List (Nat ⊕ (Nat × Nat × Bool))) {t : List V} {H : Heap} {K K' : List V → Prop}, (∀ vs, K vs → K' vs) → retsD rs t H K → retsD rs t H K'
  | [], _, _, _, _, hk, h => hk _ h
  | .inl _ :: rs, _, _, _, _, hk, h => retsD_mono rs (fun _ => hk _) h
  | .inr (_, _, _) :: rs, _, _, _, _, hk, h => dOpt_mono (fun _ h => retsD_mono rs (fun _ => hk _) h) h

theorem bodyD_mono (hM : Mono C) {n : Nat} {fn : RFD} {args : List V} {H : Heap} {K K' : V → Heap → Prop} (hk : ∀ v H, K v H → K' v H) (h : bodyD C n fn args H K) : bodyD C n fn args H K' := by
  unfold bodyD at h ⊢
  split at h
  · exact runD_mono hM n fn.body (fun _ _ h => retsD_mono fn.res (fun _ => hk _ _) h) (fun _ _ _ h => h) (fun _ _ h => retsD_mono fn.res (fun _ => hk _ _) h) h
  · exact h

theorem backD_mono {sg : SigD} {H : Heap} {K K' : V → Heap → Prop} (hk : ∀ v H, K v H → K' v H) {v : V} {H' : Heap} (h : backD sg H K v H') : backD sg H K' v H' := by
  unfold backD at h ⊢
  split at h
  · split at h
    · exact hk _ _ h
    · exact h
  · split at h
    · exact hk _ _ h
    · exact h

theorem callD_mono {F : Nat → Option RFD} {sig : Nat → Option SigD} {orc : Nat → Option Call1} (ho : ∀ f g, orc f = some g → ∀ args H K K', (∀ v H, K v H → K' v H) → g f args H K → g f args H K') : ∀ k, Mono (callD F sig orc k) := by
  intro k
  induction k with
  | zero => intro f args H K K' _ h; exact h
  | succ k ih =>
    intro f args H K K' hk h
    simp only [callD] at h ⊢
    split at h
    · rename_i g hg; exact ho f g hg _ _ _ _ hk h
    · split at h
      · exact h
      · split at h
        · exact bodyD_mono ih hk h
        · split at h
          · exact h
          · exact bodyD_mono ih (fun v H h => backD_mono hk h) h

def neuOf (sig : Nat → Option SigD) (orc : Nat → Option Call1) (f : Nat) : Bool := match orc f with
  | some _ => false
  | none => match sig f with
    | some sg => !sg.own
    | none => false

theorem callD_neut {F : Nat → Option RFD} {sig : Nat → Option SigD} {orc : Nat → Option Call1} (ho : ∀ f g, orc f = some g → ∀ args H K K', (∀ v H, K v H → K' v H) → g f args H K → g f args H K') (neu : Nat → Bool) (hn : ∀ f, neu f = true → neuOf sig orc f = true) : ∀ k, Neut (callD F sig orc k) neu := by
  intro k f hf args H K h
  have hf := hn f hf
  cases k with
  | zero => exact h
  | succ k =>
    unfold neuOf at hf
    simp only [callD] at h ⊢
    split at hf
    · cases hf
    · rename_i h1
      simp only [h1] at h ⊢
      split at hf
      · rename_i sg h2
        simp only [h2] at h ⊢
        split at h
        · exact h
        · split at h
          · exact h
          · refine bodyD_mono (callD_mono ho k) (fun v H' h => ?_) h
            unfold backD at h ⊢
            simp only [Bool.not_eq_true'] at hf
            simp only [hf] at h ⊢
            split at h
            · exact ⟨h, True.intro⟩
            · exact h
      · cases hf
end

section
variable {P : Program} {T : Types} {w : World} {M : List RI} {J : Nat → Prop} {H : Heap}

theorem retsD_V : ∀ (rs : List (Nat ⊕ (Nat × Nat × Bool))) {t : List V} {H : Heap} {K : List V → Prop}, retsD rs t H K → ∃ vs, allM (resV t H) rs = some vs ∧ K vs
  | [], _, _, _, h => ⟨[], rfl, h⟩
  | .inl i :: rs, t, H, K, h => by
    obtain ⟨vs, h1, h2⟩ := retsD_V rs h
    exact ⟨_, by simp only [allM, resV, Option.bind_some, h1, Option.map_some], h2⟩
  | .inr (a, z, ag) :: rs, t, H, K, h => by
    obtain ⟨v, hv, h⟩ := dOpt_iff h
    obtain ⟨vs, h1, h2⟩ := retsD_V rs h
    exact ⟨_, by simp only [allM, resV, hv, Option.bind_some, h1, Option.map_some], h2⟩

theorem resF_of {T : Types} {neu : Nat → Bool} {lit : Bool} {an : An} {fn : Func} {rf : RFD} (h : resFD T neu lit an fn = some rf) : ∃ c rf', fn.body = some c ∧ resF T fn = some rf' ∧ rf'.res = rf.res ∧ rf.ntmps = fn.ntmps ∧ rf.body = resD T neu lit fn.ntmps an c ∧ okRD rf.body = true := by
  simp only [resFD, Option.bind_eq_some_iff] at h
  obtain ⟨c, hc, rs, hrs, h⟩ := h
  split at h
  · rename_i hok
    cases h
    exact ⟨c, { ntmps := fn.ntmps, res := rs, body := resC T c }, hc, by simp only [resF, hc, Option.bind_some]; exact congrArg (Option.map fun rs => ({ ntmps := fn.ntmps, res := rs, body := resC T c } : RF)) hrs, rfl, rfl, rfl, hok⟩
  · cases h

theorem bodyD_sound {C : Call1} {neu : Nat → Bool} (hT : TypesOk P T) (hM : Mono C) (hN : Neut C neu) (hC : CallOk P C) (hmix : P.follows .mixedOrders = true) {f n : Nat} {fn : Func} {rf : RFD} {lit : Bool} {an : An} (hf : P.funcs[f]? = some fn) (hr : resFD T neu lit an fn = some rf)
    {args : List V} {vals : Array Value} {K : V → Heap → Prop} (h : bodyD C n rf args H K)
    (hh : HR w M J H) (hl : args.length = vals.size) (ha : ∀ (n : Nat) (x : V) (v : Value), args[n]? = some x → vals[n]? = some v → VR w M J x v) : Calls P f vals w (CPost K J w M) := by
  obtain ⟨c, rf', hc, hr', hres, hn, hb, hok⟩ := resF_of hr
  refine calls_of_wp hf hc ?_
  have ht : TR w M J (frameD rf args) { tmps := vals ++ Array.replicate (fn.ntmps - vals.size) undef, defers := [] } := by
    refine ⟨rfl, by simp [frameD, hn, hl], fun n => ?_⟩
    rw [List.getD_eq_getElem?_getD, Array.getD_eq_getD_getElem?]
    simp only [frameD, hn]
    rw [List.getElem?_append, Array.getElem?_append]
    by_cases hlt : n < args.length
    · have hlt' : n < vals.size := by omega
      rw [if_pos hlt, if_pos hlt']
      rw [List.getElem?_eq_getElem hlt, Array.getElem?_eq_getElem hlt']
      exact ha n _ _ (List.getElem?_eq_getElem hlt) (Array.getElem?_eq_getElem hlt')
    · have hlt' : ¬ n < vals.size := by omega
      rw [if_neg hlt, if_neg hlt', List.getElem?_replicate, Array.getElem?_replicate, hl]
      split <;> exact .un
  unfold bodyD at h
  split at h
  case h_2 => exact h.elim
  rename_i hle0
  have hle : args.length ≤ rf.ntmps := Nat.le_of_ble_eq_true hle0
  rw [hb] at h
  refine wp_mono (runD_sound hM hN (op_ok hT) hC hmix fn.ntmps n c an _ _ _ _ H _ w M (hb ▸ hok) (by simp [frameD, hn]; omega) h hh ht) fun e a' w' hq => ?_
  have fin : Post (fun t H' => retsD rf.res t H' fun vs => K (oneV vs) H') J w M a' w' → a'.defers = [] ∧ ∃ v, (results fn a'.tmps).run P w' = .ok v w' ∧ CPost K J w M (.returned v) w' := by
    rintro ⟨t', H', M', hk, hh', ht', hg'⟩
    obtain ⟨vs, hvs, hk⟩ := retsD_V _ hk
    have hv : resultsV rf'.res t' H' = some (oneV vs) := by
      rw [hres]
      simp only [resultsV, hvs, Option.map_some]
      rfl
    obtain ⟨u, k1, k2⟩ := results_sound hT hh' hr' hv ht'
    exact ⟨ht'.1, u, k1, _, H', M', hk, hh', k2, hg'⟩
  cases e with
  | normal => exact fin hq
  | ret => exact fin hq
  | exit id =>
    obtain ⟨t', H', M', hk, _⟩ := hq
    exact hk.elim
  | _ => exact hq.elim

theorem callD_ok (hT : TypesOk P T) (hmix : P.follows .mixedOrders = true) {F : Nat → Option RFD} {sig : Nat → Option SigD} {orc : Nat → Option Call1} {neu : Nat → Bool} (hF : ∀ f rf, F f = some rf → Good P f ∧ ∃ fn lit an, P.funcs[f]? = some fn ∧ resFD T neu lit an fn = some rf)
    (hn : ∀ f, neu f = true → neuOf sig orc f = true)
    (hO : ∀ f g, orc f = some g → OrcOk P f g) (ho : ∀ f g, orc f = some g → ∀ args H K K', (∀ v H, K v H → K' v H) → g f args H K → g f args H K') : ∀ k, CallOk P (callD F sig orc k) := by
  intro k
  induction k with
  | zero => intro f args H K w M J vals h; exact h.elim
  | succ k ih =>
    intro f args H K w M J vals h hh hl ha
    simp only [callD] at h
    split at h
    · rename_i g hg
      exact hO f g hg args H K w M J vals h hh hl ha
    · split at h
      · exact h.elim
      · rename_i rf hrf
        obtain ⟨hgood, fn, lit, an, hfn, hr⟩ := hF f rf hrf
        refine ⟨hgood, ?_⟩
        split at h
        · exact bodyD_sound hT (callD_mono ho k) (callD_neut ho neu hn k) ih hmix hfn hr h hh hl ha
        · rename_i sg hsg
          split at h
          · exact h.elim
          · rename_i as has
            have hj : ∀ g, (J g ∨ ∃ m ∈ M, m.g = g) → g < w.heap.size := fun g hg => by
              rcases hg with h | ⟨m, hm, rfl⟩
              · exact hh.jlt g h
              · exact (hh.blk m hm).1
            have hs : SealOk w M J [] (fun g => J g ∨ ∃ m ∈ M, m.g = g) sg.lend sg.lend sg.lend := by
              cases sg.lend with
              | true => exact ⟨fun _ m _ => ⟨by simp, fun h => (by cases h)⟩, fun wl g _ _ => ⟨by simp, fun h => (by cases h)⟩⟩
              | false =>
                refine ⟨fun h => (by cases h), fun wl g hok hw => ⟨by simp, fun _ hg => ?_⟩⟩
                have hwl : wl = false := by
                  cases wl with
                  | false => rfl
                  | true => exact absurd (hw rfl) (by simp)
                rcases hg with h | ⟨m, hm, e⟩
                · exact hok.2 hwl h
                · exact hok.1 m hm e
            obtain ⟨k1, k2⟩ := sealCs_sound hh hs sg.args args as has
            have hh0 : HR w [] (fun g => J g ∨ ∃ m ∈ M, m.g = g) [] := ⟨rfl, by simp, by simp, by simp, hj⟩
            have hb := bodyD_sound (M := []) (J := fun g => J g ∨ ∃ m ∈ M, m.g = g) hT (callD_mono ho k) (callD_neut ho neu hn k) ih hmix hfn hr h hh0 (vals := vals) (by rw [k1.1, hl]) (fun n x v hx hv => by
              obtain ⟨y, hy, hq⟩ := k2 n x hx
              exact hq v (ha n y v hy hv))
            refine hb.mono fun e w' he => ?_
            cases e with
            | returned u =>
              obtain ⟨v, H', M', hk, hh', hv, hgo⟩ := he
              have hkeep : ∀ g, g < w.heap.size → w'.heap[g]? = w.heap[g]? := fun g hg => hgo.kept g hg (by simp)
              have hnew : ∀ m ∈ M', w.heap.size ≤ m.g := fun m hm => by
                rcases hgo.new m hm with ⟨m0, h0, _⟩ | h
                · simp at h0
                · exact h
              unfold backD at hk
              split at hk
              · split at hk
                · rename_i v' hv'
                  have hgo' : Goes w M w' M := ⟨fun _ m h => ⟨m, h, rfl, .inl rfl⟩, hgo.size, fun g hg _ => hkeep g hg, fun m hm => .inl ⟨m, hm, rfl⟩, hgo.os, hgo.tape, hgo.output⟩
                  have hs' : SealOk w' M' (fun g => J g ∨ ∃ m ∈ M, m.g = g) M J false true false := by
                    refine ⟨fun _ m hm => ?_, fun wl g hok hw => ?_⟩
                    · have hge := hnew m hm
                      refine ⟨fun m2 h2 e => ?_, fun _ hj' => ?_⟩
                      · have := (hh.blk m2 h2).1; omega
                      · have := hh.jlt _ hj'; omega
                    · have hwl : wl = false := by
                        cases wl with
                        | false => rfl
                        | true => exact absurd (hw rfl) (by simp)
                      have := hok.2 hwl
                      exact ⟨fun m hm e => this (.inr ⟨m, hm, e⟩), fun _ hj' => this (.inl hj')⟩
                  exact ⟨v', H, M, hk, hh.goes hgo' (fun m hm => hkeep _ (hh.blk m hm).1), sealV_sound hh' hs' sg.res v v' u hv' hv, hgo'⟩
                · exact hk.elim
              · split at hk
                · rename_i v' acc hv'
                  obtain ⟨Ma, ho', hq⟩ := ownV_sound (M := M) hh' hh.len sg.res v v' [] acc [] hv' ⟨rfl, by simp, by simp⟩
                  simp only [List.nil_append] at ho' hq
                  have hMa : ∀ m ∈ Ma, w.heap.size ≤ m.g ∧ m.g < w'.heap.size := fun m hm => by
                    obtain ⟨i, hi⟩ := List.getElem?_of_mem hm
                    have hil : i < acc.length := by rw [ho'.len]; exact (List.getElem?_eq_some_iff.1 hi).1
                    obtain ⟨m2, cur, h1, h2, _⟩ := ho'.row i _ _ (List.getElem?_eq_getElem hil)
                    rw [hi] at h1
                    cases h1
                    exact ⟨hnew m (List.mem_of_getElem? h2), (hh'.blk m (List.mem_of_getElem? h2)).1⟩
                  have hgo' : Goes w M w' (M ++ Ma) := by
                    refine ⟨fun r m h => ⟨m, ?_, rfl, .inl rfl⟩, hgo.size, fun g hg _ => hkeep g hg, fun m hm => ?_, hgo.os, hgo.tape, hgo.output⟩
                    · rw [List.getElem?_append_left (List.getElem?_eq_some_iff.1 h).1]; exact h
                    · rcases List.mem_append.1 hm with h | h
                      · exact .inl ⟨m, h, rfl⟩
                      · exact .inr (hMa m h).1
                  have hHR : HR w' (M ++ Ma) J (H ++ acc.map (·.2)) := by
                    refine ⟨by simp [hh.len, ho'.len], fun r R hr => ?_, fun r r' m m' h1 h2 e => ?_, fun m hm => ?_, fun g hg => Nat.lt_of_lt_of_le (hh.jlt g hg) hgo.size⟩
                    · rw [List.getElem?_append] at hr
                      split at hr
                      · rename_i hlt
                        obtain ⟨m, cur, h1, h2⟩ := hh.row r R hr
                        refine ⟨m, cur, by rw [List.getElem?_append_left (List.getElem?_eq_some_iff.1 h1).1]; exact h1, h2.z, h2.len, h2.pos, ?_, h2.le, h2.max, h2.size, h2.els.goes hgo', h2.one⟩
                        rw [hkeep _ (hh.blk m (List.mem_of_getElem? h1)).1]
                        exact h2.heap
                      · rename_i hge
                        rw [List.getElem?_map, Option.map_eq_some_iff] at hr
                        obtain ⟨⟨r', R'⟩, hr, e⟩ := hr
                        simp only at e
                        subst e
                        obtain ⟨m, cur, h1, h2, h3, h4, h5, h6, h7, h8, h9, h10, h11⟩ := ho'.row _ r' R' hr
                        refine ⟨m, cur, by rw [List.getElem?_append_right (by rw [← hh.len]; omega), ← hh.len]; exact h1, h3, h4, h5, h6, h7, h8, h9, fun i c hi => ⟨(h10 i c hi).1, fun j x hj => ?_⟩, fun e => by rw [h11] at e; cases e⟩
                        obtain ⟨v, v1, v2, v3⟩ := (h10 i c hi).2 j x hj
                        exact ⟨v, v1, v2.vr, v3⟩
                    · rw [List.getElem?_append] at h1 h2
                      split at h1 <;> split at h2
                      · exact hh.inj r r' m m' h1 h2 e
                      · have := (hh.blk m (List.mem_of_getElem? h1)).1
                        have := (hMa m' (List.mem_of_getElem? h2)).1
                        omega
                      · have := (hh.blk m' (List.mem_of_getElem? h2)).1
                        have := (hMa m (List.mem_of_getElem? h1)).1
                        omega
                      · rename_i hr1 hr2
                        have l1 : r - M.length < acc.length := by rw [ho'.len]; exact (List.getElem?_eq_some_iff.1 h1).1
                        have l2 : r' - M.length < acc.length := by rw [ho'.len]; exact (List.getElem?_eq_some_iff.1 h2).1
                        obtain ⟨m1, c1, a1, b1, _⟩ := ho'.row _ _ _ (List.getElem?_eq_getElem l1)
                        obtain ⟨m2, c2, a2, b2, _⟩ := ho'.row _ _ _ (List.getElem?_eq_getElem l2)
                        rw [h1] at a1
                        cases a1
                        rw [h2] at a2
                        cases a2
                        have hrr := hh'.inj _ _ _ _ b1 b2 e
                        have hnd := ho'.ids
                        have := (List.getElem_inj (h₀ := by simpa using l1) (h₁ := by simpa using l2) hnd).1 (by simpa using hrr)
                        omega
                    · rcases List.mem_append.1 hm with h | h
                      · exact ⟨Nat.lt_of_lt_of_le (hh.blk m h).1 hgo.size, (hh.blk m h).2⟩
                      · exact ⟨(hMa m h).2, fun hg => by have := hh.jlt _ hg; have := (hMa m h).1; omega⟩
                  exact ⟨v', _, _, hk, hHR, (hq u hv).vr, hgo'⟩
                · exact hk.elim
            | panicked ch => exact he.elim
            | outgrown => exact he.elim

end
end Go.Am
