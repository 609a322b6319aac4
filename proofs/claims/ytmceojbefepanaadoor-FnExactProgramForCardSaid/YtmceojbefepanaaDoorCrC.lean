/- A closed interpreter of a Go program's code, part 3: code run on plain data, and why that holds of the program. -/
import Derived.Test.YtmceojbefepanaaDoorCrB
import Derived.Lib.Bytealg
import Derived.Orders
import Derived.Defers
set_option linter.unusedVariables false
set_option linter.unusedSimpArgs false
/- Every operation, calls of Go functions apart. -/
namespace Go.CR
open Go
open Go.DW (D TT TI TK RV RVL RI RIL RILL ideq ideq_iff ideq_false TOk TRow GOk zerosAre)

section
variable {P : Program} {c : Ctx} {N : Nat} {w0 : World} {A : Nat → Prop} {s0 : Sto} {β0 : Id → Place} {w : World} {S : Nat → Prop} {s : Sto} {β : Id → Place} {e : Env} {a : Act} {Dp : Nat → Prop} {o : Oper} {d : Nat} {R : Rec}

theorem pCall_sound (hT : TOk P c.T) (hG : GOk c.G w0 A) (h : Rel c.T N w0 A s0 β0 w S s β e a Dp) (hd : ¬ S d) {cl : Call} (ho : o.op = .call cl) (hp : pCall c.T (opnd c.G e) (sget s) d cl = some R) : Good P c.T A o a w S s β d R := by
  obtain ⟨cal, args, ats⟩ := cl
  unfold pCall at hp
  simp only at hp
  split at hp
  · exact p_len hT hG h ho hp
  · exact p_append hT hG h hd ho hp
  · exact p_min (lt := true) hG h ho hp
  · exact p_min (lt := false) hG h ho hp
  · cases hp

theorem prim_sound (hT : TOk P c.T) (hE : EqOk P c.T c.E) (hG : GOk c.G w0 A) (h : Rel c.T N w0 A s0 β0 w S s β e a Dp) (hd : ¬ S d) (hp : prim c o.op (opnd c.G e) (sget s) d = some R) : Good P c.T A o a w S s β d R := by
  unfold prim at hp
  cases hop : o.op with
  | move x => rw [hop] at hp; exact good_ret hp (v := a.eval x) (by simp [execOp, hop]) (opnd_vr hG h x)
  | assign x => rw [hop] at hp; exact good_ret hp (v := a.eval x) (by simp [execOp, hop]) (opnd_vr hG h x)
  | pick x y z => rw [hop] at hp; exact p_pick hG h hop hp
  | alloc t => rw [hop] at hp; exact p_alloc hT h hd hop hp
  | box t x => rw [hop] at hp; exact p_box hG h hd hop hp
  | build t p => rw [hop] at hp; exact p_build hT hG h hop hp
  | buildSlice t l p => rw [hop] at hp; exact p_buildSlice hT hG h hd hop hp
  | makeSlice t l cp => rw [hop] at hp; exact p_makeSlice hT hG h hd hop hp
  | load t x => rw [hop] at hp; exact p_load hT hG h hop hp
  | store t x y => rw [hop] at hp; exact p_store hT hG h hd hop hp
  | nilCheck x => rw [hop] at hp; exact p_nilCheck hG h hop hp
  | binOp op t x y t' => rw [hop] at hp; exact p_bin hT hE hG h hop hp
  | unOp op t x => rw [hop] at hp; exact p_un hG h hop hp
  | convert t u x => rw [hop] at hp; exact p_convert hT hG h hop hp
  | makeFunc f x y =>
    rw [hop] at hp
    cases f with
    | func f => exact p_makeFunc hG h hop hp
    | _ => cases hp
  | slice t x lo hi m => rw [hop] at hp; exact p_slice hT hG h hop hp
  | fieldAddr t x f => rw [hop] at hp; exact p_fieldAddr hT hG h hop hp
  | field t x f => rw [hop] at hp; exact p_field hT hG h hop hp
  | indexAddr t x i => rw [hop] at hp; exact p_indexAddr hT hG h hop hp
  | index t x i => rw [hop] at hp; exact p_index hT hG h hop hp
  | extract x j => rw [hop] at hp; exact p_extract hG h hop hp
  | call cl => rw [hop] at hp; exact pCall_sound hT hG h hd hop hp
  | _ => rw [hop] at hp; cases hp
end
end Go.CR

/- A call, from the caller's side. -/
namespace Go.CR
open Go
open Go.DW (D TT TI TK RV RVL RI RIL RILL ideq ideq_iff ideq_false TOk TRow GOk zerosAre)

theorem memI_iff (l : List Id) (i : Id) : DW.memI l i = true ↔ i ∈ l := by
  induction l with
  | nil => simp [DW.memI]
  | cons j r ih =>
    simp only [DW.memI]
    cases h : ideq j i
    · rw [ideq_false] at h; simp [ih, Ne.symm h]
    · rw [ideq_iff] at h; simp [h]

/-! ### what is reached -/
theorem reach_mono (g : Id → Option O) : ∀ (n : Nat) (acc : List Id) (l : List V), ∀ id ∈ acc, id ∈ reach g n acc l := by
  intro n
  induction n with
  | zero => intro acc l id h; simpa [reach] using h
  | succ n ih =>
    intro acc l id h
    cases l with
    | nil => simpa [reach] using h
    | cons v r =>
      cases v <;> simp only [reach]
      case sl i a b c =>
        split
        · exact ih _ _ _ h
        · split <;> exact ih _ _ _ (by simp [h])
      case ptr i a =>
        split
        · exact ih _ _ _ h
        · split <;> exact ih _ _ _ (by simp [h])
      all_goals exact ih _ _ _ h
theorem reach_nodup (g : Id → Option O) : ∀ (n : Nat) (acc : List Id) (l : List V), acc.Nodup → (reach g n acc l).Nodup := by
  have add : ∀ (acc : List Id) (i : Id), acc.Nodup → DW.memI acc i = false → (acc ++ [i]).Nodup := by
    intro acc i h hi
    rw [List.nodup_append]
    refine ⟨h, by simp, ?_⟩
    intro a ha b hb
    simp at hb
    subst hb
    rintro rfl
    rw [(memI_iff acc a).2 ha] at hi
    cases hi
  intro n
  induction n with
  | zero => intro acc l h; simpa [reach] using h
  | succ n ih =>
    intro acc l h
    cases l with
    | nil => simpa [reach] using h
    | cons v r =>
      cases v <;> simp only [reach]
      case sl i a b c =>
        split
        · exact ih _ _ h
        · rename_i hi
          split <;> exact ih _ _ (add acc i h hi)
      case ptr i a =>
        split
        · exact ih _ _ h
        · rename_i hi
          split <;> exact ih _ _ (add acc i h hi)
      all_goals exact ih _ _ h
theorem reach_congr {g g' : Id → Option O} : ∀ (n : Nat) (acc : List Id) (l : List V), (∀ id ∈ reach g n acc l, g' id = g id) → reach g' n acc l = reach g n acc l := by
  intro n
  induction n with
  | zero => intro acc l h; rfl
  | succ n ih =>
    intro acc l h
    cases l with
    | nil => rfl
    | cons v r =>
      cases v <;> simp only [reach] at h ⊢
      case sl i a b c =>
        cases hi : DW.memI acc i
        case true => simp only [hi] at h ⊢; exact ih _ _ h
        case false =>
          simp only [hi] at h ⊢
          have hg : g' i = g i := by
            apply h
            split <;> exact reach_mono _ _ _ _ _ (by simp)
          rw [hg]
          split at h <;> exact ih _ _ h
      case ptr i a =>
        cases hi : DW.memI acc i
        case true => simp only [hi] at h ⊢; exact ih _ _ h
        case false =>
          simp only [hi] at h ⊢
          have hg : g' i = g i := by
            apply h
            split <;> exact reach_mono _ _ _ _ _ (by simp)
          rw [hg]
          split at h <;> exact ih _ _ h
      all_goals exact ih _ _ h

theorem mem_liveOf {g : Id → Option O} : ∀ {l : List Id} {id : Id}, id ∈ liveOf g l → id ∈ l ∧ ∃ o, g id = some o
  | [], id, h => by simp [liveOf] at h
  | x :: r, id, h => by
    simp only [liveOf] at h
    split at h
    · rename_i o ho
      rcases List.mem_cons.1 h with rfl | h
      · exact ⟨by simp, o, ho⟩
      · obtain ⟨h1, h2⟩ := mem_liveOf h
        exact ⟨by simp [h1], h2⟩
    · obtain ⟨h1, h2⟩ := mem_liveOf h
      exact ⟨by simp [h1], h2⟩
theorem liveOf_nodup {g : Id → Option O} : ∀ {l : List Id}, l.Nodup → (liveOf g l).Nodup
  | [], _ => by simp [liveOf]
  | x :: r, h => by
    rw [List.nodup_cons] at h
    simp only [liveOf]
    split
    · rw [List.nodup_cons]
      exact ⟨fun hx => h.1 (mem_liveOf hx).1, liveOf_nodup h.2⟩
    · exact liveOf_nodup h.2
theorem liveOf_congr {g g' : Id → Option O} : ∀ {l : List Id}, (∀ id ∈ l, g' id = g id) → liveOf g' l = liveOf g l
  | [], _ => rfl
  | x :: r, h => by
    simp only [liveOf]
    rw [h x (by simp), liveOf_congr fun id hid => h id (by simp [hid])]
theorem mem_newOf : ∀ {l : List Id} {id : Id}, id ∈ newOf l ↔ id ∈ l ∧ id.1 ≠ 0
  | [], id => by simp [newOf]
  | (0, j) :: r, id => by
    simp only [newOf, mem_newOf (l := r), List.mem_cons]
    constructor
    · rintro ⟨h1, h2⟩; exact ⟨.inr h1, h2⟩
    · rintro ⟨rfl | h1, h2⟩
      · exact absurd rfl h2
      · exact ⟨h1, h2⟩
  | (n + 1, j) :: r, id => by
    simp only [newOf, List.mem_cons, mem_newOf (l := r)]
    constructor
    · rintro (rfl | ⟨h1, h2⟩)
      · exact ⟨.inl rfl, by simp⟩
      · exact ⟨.inr h1, h2⟩
    · rintro ⟨rfl | h1, h2⟩
      · exact .inl rfl
      · exact .inr ⟨h1, h2⟩
theorem newOf_nodup : ∀ {l : List Id}, l.Nodup → (newOf l).Nodup
  | [], _ => by simp [newOf]
  | (0, j) :: r, h => by
    rw [List.nodup_cons] at h
    simpa [newOf] using newOf_nodup h.2
  | (n + 1, j) :: r, h => by
    rw [List.nodup_cons] at h
    simp only [newOf, List.nodup_cons]
    exact ⟨fun hx => h.1 (mem_newOf.1 hx).1, newOf_nodup h.2⟩

theorem idxOf_some : ∀ {m : List Id} {id : Id} {j : Nat}, idxOf m id = some j → m[j]? = some id
  | [], id, j, h => by simp [idxOf] at h
  | a :: r, id, j, h => by
    simp only [idxOf] at h
    split at h
    · rename_i he
      rw [ideq_iff] at he
      simp only [Option.some.injEq] at h
      subst h; subst he
      rfl
    · split at h
      · rename_i n hn
        simp only [Option.some.injEq] at h
        subst h
        simpa using idxOf_some hn
      · cases h
theorem nameIn_some {d : Nat} {m : List Id} {id id' : Id} (h : nameIn d m id = some id') : ∃ j, id' = (d, j) ∧ m[j]? = some id := by
  unfold nameIn at h
  split at h
  · rename_i j hj
    simp only [Option.some.injEq] at h
    exact ⟨j, h.symm, idxOf_some hj⟩
  · cases h
theorem nthI_eq (l : List Id) (i : Nat) : nthI l i = l[i]? := by
  induction l generalizing i with
  | nil => simp [nthI]
  | cons d r ih => cases i <;> simp [nthI, ih]
theorem nameOut_some {m kept : List Id} {d : Nat} {id id' : Id} (h : nameOut m kept d id = some id') : (id.1 = 0 ∧ m[id.2]? = some id') ∨ (∃ k, id' = (d, k) ∧ kept[k]? = some id) := by
  obtain ⟨a, b⟩ := id
  cases a with
  | zero => simp only [nameOut, nthI_eq] at h; exact .inl ⟨rfl, h⟩
  | succ a => simp only [nameOut] at h; exact .inr (nameIn_some h)

theorem sget_handed {g : Id → Option O} {f : Id → Option Id} {d : Nat} : ∀ {m : List Id} {j : Nat} {id : Id} {o : O}, sget (handed g f d j m) id = some o → ∃ k i0 o0, id = (d, j + k) ∧ m[k]? = some i0 ∧ g i0 = some o0 ∧ o = omap f o0
  | [], j, id, o, h => by simp [handed, sget] at h
  | x :: r, j, id, o, h => by
    simp only [handed] at h
    split at h
    · rename_i o0 ho0
      rw [sget_cons] at h
      split at h
      · rename_i he
        simp only [Option.some.injEq] at h
        exact ⟨0, x, o0, he.symm, rfl, ho0, h.symm⟩
      · obtain ⟨k, i0, o1, h1, h2, h3, h4⟩ := sget_handed h
        exact ⟨k + 1, i0, o1, by rw [h1]; congr 1; omega, by simpa using h2, h3, h4⟩
    · obtain ⟨k, i0, o1, h1, h2, h3, h4⟩ := sget_handed h
      exact ⟨k + 1, i0, o1, by rw [h1]; congr 1; omega, by simpa using h2, h3, h4⟩
theorem handed_some {g : Id → Option O} {f : Id → Option Id} {d : Nat} : ∀ {m : List Id} {j k : Nat} {i0 : Id} {o0 : O}, m[k]? = some i0 → g i0 = some o0 → sget (handed g f d j m) (d, j + k) = some (omap f o0)
  | [], j, k, i0, o0, h, _ => by simp at h
  | x :: r, j, 0, i0, o0, h, hg => by
    simp at h
    subst h
    simp only [handed, hg, sget_cons]
    simp
  | x :: r, j, k + 1, i0, o0, h, hg => by
    have ih := handed_some (f := f) (d := d) (m := r) (j := j + 1) (k := k) (by simpa using h) hg
    rw [show j + 1 + k = j + (k + 1) by omega] at ih
    simp only [handed]
    split
    · rw [sget_cons, if_neg (by simp), ih]
    · exact ih
theorem sget_changed {s : Sto} {f : Id → Option Id} {m : List Id} : ∀ {l : List Nat} {id : Id} {o : O}, sget (changed s f m l) id = some o → ∃ j o0, j ∈ l ∧ m[j]? = some id ∧ sget s (0, j) = some o0 ∧ o = omap f o0
  | [], id, o, h => by simp [changed, sget] at h
  | j :: r, id, o, h => by
    simp only [changed, nthI_eq] at h
    split at h
    · rename_i i0 o0 h1 h2
      rw [sget_cons] at h
      split at h
      · rename_i he
        simp only [Option.some.injEq] at h
        subst he
        exact ⟨j, o0, by simp, h1, h2, h.symm⟩
      · obtain ⟨k, o1, h3, h4⟩ := sget_changed h
        exact ⟨k, o1, by simp [h3], h4⟩
    · obtain ⟨k, o1, h3, h4⟩ := sget_changed h
      exact ⟨k, o1, by simp [h3], h4⟩
theorem nodup_at {m : List Id} (hm : m.Nodup) {i j : Nat} {id : Id} (h1 : m[i]? = some id) (h2 : m[j]? = some id) : i = j := by
  obtain ⟨p1, p2⟩ := List.getElem?_eq_some_iff.1 h1
  obtain ⟨p3, p4⟩ := List.getElem?_eq_some_iff.1 h2
  have hp := List.pairwise_iff_getElem.1 hm
  rcases Nat.lt_trichotomy i j with h | h | h
  · exact absurd (p2.trans p4.symm) (hp i j p1 p3 h)
  · exact h
  · exact absurd (p4.trans p2.symm) (hp j i p3 p1 h)

theorem changed_some {s : Sto} {f : Id → Option Id} {m : List Id} (hm : m.Nodup) : ∀ {l : List Nat} {j : Nat} {id : Id} {o0 : O}, j ∈ l → m[j]? = some id → sget s (0, j) = some o0 → sget (changed s f m l) id = some (omap f o0)
  | [], j, id, o0, h, _, _ => by cases h
  | i :: r, j, id, o0, h, h1, h2 => by
    simp only [changed, nthI_eq]
    by_cases hij : i = j
    · subst hij
      simp only [h1, h2]
      rw [sget_cons]
      simp
    · have hj : j ∈ r := by
        rcases List.mem_cons.1 h with rfl | h
        · exact absurd rfl hij
        · exact h
      have ih := changed_some (f := f) hm hj h1 h2
      split
      · rename_i i0 o1 h3 h4
        rw [sget_cons, if_neg, ih]
        rintro rfl
        exact hij (nodup_at hm h3 h1)
      · exact ih
theorem mem_nthsOf {m : List Id} : ∀ {l : List Nat} {id : Id}, id ∈ nthsOf m l ↔ ∃ j ∈ l, m[j]? = some id
  | [], id => by simp [nthsOf]
  | j :: r, id => by
    simp only [nthsOf, nthI_eq]
    split
    · rename_i i0 h1
      simp only [List.mem_cons, mem_nthsOf (l := r)]
      constructor
      · rintro (rfl | ⟨k, hk, hk2⟩)
        · exact ⟨j, .inl rfl, h1⟩
        · exact ⟨k, .inr hk, hk2⟩
      · rintro ⟨k, rfl | hk, hk2⟩
        · rw [h1] at hk2
          simp only [Option.some.injEq] at hk2
          exact .inl hk2.symm
        · exact .inr ⟨k, hk, hk2⟩
    · rename_i h1
      rw [mem_nthsOf (l := r)]
      constructor
      · rintro ⟨k, hk, hk2⟩; exact ⟨k, by simp [hk], hk2⟩
      · rintro ⟨k, hk, hk2⟩
        rcases List.mem_cons.1 hk with rfl | hk
        · rw [hk2] at h1; cases h1
        · exact ⟨k, hk, hk2⟩
/-! ### other names -/
section
variable {T : TT} {w : World} {A : Nat → Prop} {S S' : Nat → Prop} {s s' : Sto} {β β' : Id → Place} {f : Id → Option Id}
/-- the names say the same -/
def Names (S S' : Nat → Prop) (s s' : Sto) (β β' : Id → Place) (f : Id → Option Id) : Prop :=
  ∀ id id', S id.1 → f id = some id' → S' id'.1 ∧ ∀ o', sget s' id' = some o' → ∃ o, sget s id = some o ∧ β' id' = β id ∧ o'.t = o.t
mutual
theorem VR.ren (hn : Names S S' s s' β β' f) : ∀ (d : V) (v : Value), VR T w A S s β d v → VR T w A S' s' β' (vmap f d) v
  | .undef, v, h => by simp [vmap, VR]
  | .gone, v, h => by simpa [vmap, VR] using h
  | .d x, v, h => by simpa [vmap, VR] using h
  | .sl id off len cap, v, h => by
    simp only [VR] at h
    simp only [vmap]
    split
    · rename_i id' hf
      obtain ⟨h1, h2⟩ := hn id id' h.2.1 hf
      simp only [VR]
      refine ⟨h.1, h1, fun o' ho' => ?_⟩
      obtain ⟨o, ho, hb, ht⟩ := h2 o' ho'
      obtain ⟨c, h4, h5, h6, h7, h8⟩ := h.2.2 o ho
      exact ⟨c, by rw [hb]; exact h4, h5, h6, h7, by rw [hb, ht]; exact h8⟩
    · simp only [VR]; exact h.1
  | .ptr id off, v, h => by
    simp only [VR] at h
    simp only [vmap]
    split
    · rename_i id' hf
      obtain ⟨h1, h2⟩ := hn id id' h.2.1 hf
      simp only [VR]
      refine ⟨h.1, h1, fun hs => ?_⟩
      obtain ⟨o', ho'⟩ := Option.isSome_iff_exists.1 hs
      obtain ⟨o, ho, hb, ht⟩ := h2 o' ho'
      rw [hb]
      exact h.2.2 (by simp [ho])
    · simp only [VR]; exact h.1
  | .agg cs, v, h => by
    simp only [VR, vmap] at h ⊢
    obtain ⟨vs, hv, h⟩ := h
    exact ⟨vs, hv, VRL.ren hn cs _ h⟩
  | .tup cs, v, h => by
    simp only [VR, vmap] at h ⊢
    obtain ⟨vs, hv, h⟩ := h
    exact ⟨vs, hv, VRL.ren hn cs _ h⟩
  | .fn g a b, v, h => by
    simp only [VR, vmap] at h ⊢
    obtain ⟨x, y, hv, h1, h2⟩ := h
    exact ⟨x, y, hv, VRL.ren hn a _ h1, VRL.ren hn b _ h2⟩
theorem VRL.ren (hn : Names S S' s s' β β' f) : ∀ (l : List V) (us : List Value), VRL T w A S s β l us → VRL T w A S' s' β' (vmapL f l) us
  | [], us, h => by simpa [vmapL, VRL] using h
  | d :: r, us, h => by
    simp only [VRL, vmapL] at h ⊢
    obtain ⟨u, us', rfl, h1, h2⟩ := h
    exact ⟨u, us', rfl, VR.ren hn d u h1, VRL.ren hn r us' h2⟩
end
theorem vmapL_length (f : Id → Option Id) (l : List V) : (vmapL f l).length = l.length := by
  induction l with
  | nil => rfl
  | cons v r ih => simp [vmapL, ih]
theorem oneV_vmap {f : Id → Option Id} {v : V} (h : oneV v = true) : oneV (vmap f v) = true := by
  cases v <;> simp only [vmap] <;> first | exact h | (split <;> rfl) | (simp [oneV] at h) | rfl
theorem one_vmapL {f : Id → Option Id} : ∀ {l : List V}, (∀ v ∈ l, oneV v = true) → ∀ v ∈ vmapL f l, oneV v = true
  | [], _, v, hv => by simp [vmapL] at hv
  | x :: r, h, v, hv => by
    simp only [vmapL, List.mem_cons] at hv
    rcases hv with rfl | hv
    · exact oneV_vmap (h x (by simp))
    · exact one_vmapL (fun v hv => h v (by simp [hv])) v hv
theorem omap_t (f : Id → Option Id) (o : O) : (omap f o).t = o.t := by obtain ⟨t, cs, fl, ro⟩ := o; cases fl <;> rfl
theorem omap_ro (f : Id → Option Id) (o : O) : (omap f o).ro = o.ro := by obtain ⟨t, cs, fl, ro⟩ := o; cases fl <;> rfl
theorem RO.ren (hn : Names S S' s s' β β' f) {id id' : Id} {o : O} (h : RO T w A S s β id o) (hβ : β' id' = β id) : RO T w A S' s' β' id' (omap f o) := by
  obtain ⟨cur, h1, h2, h3, h4, h5⟩ := h
  obtain ⟨t, cs, fl, ro⟩ := o
  cases fl with
  | true => exact ⟨cur, by rw [hβ]; exact h1, by rw [hβ]; exact h2, by rw [hβ]; exact VRL.flat (h5 rfl) h3, h4, h5⟩
  | false =>
    refine ⟨cur, by rw [hβ]; exact h1, by rw [hβ]; exact h2, ?_, one_vmapL h4, fun hf => by cases hf⟩
    rw [hβ]
    simp only [omap, vmapL_length]
    exact VRL.ren hn _ _ h3
end
end Go.CR

/- A call by its run: the caller's side. -/
namespace Go.CR
open Go
open Go.DW (D TT TI TK RV RVL RI RIL RILL ideq ideq_iff ideq_false TOk TRow GOk zerosAre)

/-- what is handed over, in memory -/
structure Start (T : TT) (w : World) (A : Nat → Prop) (s0 : Sto) (β0 : Id → Place) : Prop where
  obj : ∀ id o, sget s0 id = some o → id.1 = 0 ∧ RO T w A (fun n => n = 0) s0 β0 id o
  inj : ∀ i j o o', sget s0 i = some o → sget s0 j = some o' → (β0 i).1 = (β0 j).1 → i = j ∨ (o.ro = true ∧ o'.ro = true)
  base : ∀ b, A b → b < w.heap.size ∧ ∀ j, Live s0 (0, j) → (β0 (0, j)).1 ≠ b

/-- what a call leaves -/
structure After (T : TT) (w0 : World) (A : Nat → Prop) (s0 : Sto) (β0 : Id → Place) (w : World) (S : Nat → Prop) (s : Sto) (β : Id → Place) (Dp : Nat → Prop) (r : V) (v : Value) : Prop where
  val : VR T w A S s β r v
  obj : ∀ id o, sget s id = some o → RO T w A S s β id o ∧ S id.1
  inj : ∀ i j o o', sget s i = some o → sget s j = some o' → (β i).1 = (β j).1 → i = j ∨ (o.ro = true ∧ o'.ro = true)
  rw : ∀ j o, Dp j → sget s0 (0, j) = some o → o.ro = false
  fresh : ∀ i, Live s i → i.1 = 0 ∨ w0.heap.size ≤ (β i).1 ∨ ∃ j, Dp j ∧ Live s0 (0, j) ∧ (β0 (0, j)).1 = (β i).1
  pin : ∀ j, β (0, j) = β0 (0, j)
  same : ∀ j, ¬ Dp j → sget s (0, j) = sget s0 (0, j)
  keepT : ∀ j o, sget s (0, j) = some o → ∃ o0, sget s0 (0, j) = some o0 ∧ o.t = o0.t
  frame : ∀ b, b < w0.heap.size → (∀ j, Dp j → Live s0 (0, j) → (β0 (0, j)).1 ≠ b) → w.heap[b]? = w0.heap[b]?
  hsize : w0.heap.size ≤ w.heap.size
  os : w.os = w0.os
  tape : w.tape = w0.tape
  output : w.output = w0.output

/-- the program's function does what the run tells -/
def CallsR (P : Program) (c : Ctx) (f : FuncId) (as : List V) (s0 : Sto) (res : Res) : Prop :=
  ∀ (w : World) (A : Nat → Prop) (β0 : Id → Place) (vs : Array Value), Start c.T w A s0 β0 → GOk c.G w A → VRL c.T w A (fun n => n = 0) s0 β0 as vs.toList →
    (∃ fn, P.funcs[f]? = some fn ∧ fn.body.isSome = true ∧ fn.name ≠ "runtime.NumGoroutine") ∧
    Calls P f vs w fun e w' => ∃ v S β, e = .returned v ∧ After c.T w A s0 β0 w' S res.2.1 β (fun j => j ∈ res.2.2) res.1 v
def RunOk (P : Program) (c : Ctx) (run : Caller) : Prop := ∀ f as s0 res, run f as s0 = some res → CallsR P c f as s0 res

section
variable {P : Program} {c : Ctx} {N : Nat} {w0 : World} {A : Nat → Prop} {s0 : Sto} {β0 : Id → Place} {w : World} {S : Nat → Prop} {s : Sto} {β : Id → Place} {e : Env} {a : Act} {Dp : Nat → Prop} {o : Oper} {d : Nat} {R : Rec}

def βin (m : List Id) (β : Id → Place) (i : Id) : Place := β (m.getD i.2 (0, 0))

theorem getD_some {m : List Id} {j : Nat} {id : Id} (h : m[j]? = some id) : m.getD j (0, 0) = id := by
  rw [List.getD_eq_getElem?_getD, h]; rfl

/-- what the callee gets stands in memory -/
theorem start_in (h : Rel c.T N w0 A s0 β0 w S s β e a Dp) {m : List Id} (hm : m.Nodup) (hl : ∀ id ∈ m, ∃ o, sget s id = some o) {as : List V} {vs : List Value} (hv : VRL c.T w A S s β as vs) :
    Start c.T w A (handed (sget s) (nameIn 0 m) 0 0 m) (βin m β) ∧ VRL c.T w A (fun n => n = 0) (handed (sget s) (nameIn 0 m) 0 0 m) (βin m β) (vmapL (nameIn 0 m) as) vs := by
  have hn : Names S (fun n => n = 0) s (handed (sget s) (nameIn 0 m) 0 0 m) β (βin m β) (nameIn 0 m) := by
    intro id id' hS hf
    obtain ⟨j, rfl, hj⟩ := nameIn_some hf
    refine ⟨rfl, fun o' ho' => ?_⟩
    obtain ⟨k, i0, o0, h1, h2, h3, h4⟩ := sget_handed ho'
    simp only [Nat.zero_add, Prod.mk.injEq, true_and] at h1
    subst h1
    rw [hj] at h2
    simp only [Option.some.injEq] at h2
    subst h2
    exact ⟨o0, h3, by simp only [βin]; rw [getD_some hj], by rw [h4, omap_t]⟩
  refine ⟨⟨?_, ?_, ?_⟩, VRL.ren hn _ _ hv⟩
  · intro id o' ho'
    obtain ⟨k, i0, o0, h1, h2, h3, h4⟩ := sget_handed ho'
    subst h1; subst h4
    refine ⟨rfl, RO.ren hn (h.obj i0 o0 h3).1 ?_⟩
    simp only [βin, Nat.zero_add]
    rw [getD_some h2]
  · intro i j o1 o2 h1 h2 he
    obtain ⟨k1, i1, p1, a1, a2, a3, a4⟩ := sget_handed h1
    obtain ⟨k2, i2, p2, b1, b2, b3, b4⟩ := sget_handed h2
    subst a1; subst b1
    simp only [βin, Nat.zero_add] at he
    rw [getD_some a2, getD_some b2] at he
    rcases h.inj i1 i2 p1 p2 a3 b3 he with rfl | ⟨r1, r2⟩
    · left
      rw [nodup_at hm a2 b2]
    · exact .inr ⟨by rw [a4, omap_ro]; exact r1, by rw [b4, omap_ro]; exact r2⟩
  · intro b hb
    refine ⟨Nat.lt_of_lt_of_le (h.base b hb).1 h.hsize, fun j hj => ?_⟩
    obtain ⟨o', ho'⟩ := Option.isSome_iff_exists.1 hj
    obtain ⟨k, i0, o0, h1, h2, h3, h4⟩ := sget_handed ho'
    simp only [Nat.zero_add, Prod.mk.injEq, true_and] at h1
    subst h1
    simp only [βin]
    rw [getD_some h2]
    intro he
    exact h.notA (id := i0) (by simp [Live, h3]) (by rw [he]; exact hb)

/-- what the call leaves is a change of the caller's -/
theorem chg_out (h : Rel c.T N w0 A s0 β0 w S s β e a Dp) (hd : ¬ S d) {m : List Id} (hm : m.Nodup) (hl : ∀ id ∈ m, ∃ o, sget s id = some o) {acc : List Id} {r : V} {s' : Sto} {dirty : List Nat} {w' : World} {S' : Nat → Prop} {β' : Id → Place} {v : Value}
    (ha : After c.T w A (handed (sget s) (nameIn 0 m) 0 0 m) (βin m β) w' S' s' β' (fun j => j ∈ dirty) r v) {kept : List Id} (hk : kept.Nodup) (hk1 : ∀ id ∈ kept, id.1 ≠ 0 ∧ ∃ o, sget s' id = some o) :
    ∃ β'', Chg c.T A w w' S s β d ⟨vmap (nameOut m kept d) r, acc, nthsOf m dirty, changed s' (nameOut m kept d) m dirty ++ handed (sget s') (nameOut m kept d) d 0 kept⟩ β'' v := by
  have hin : ∀ (j : Nat) (id : Id), m[j]? = some id → ∃ o, sget s id = some o ∧ sget (handed (sget s) (nameIn 0 m) 0 0 m) (0, j) = some (omap (nameIn 0 m) o) := by
    intro j id hj
    obtain ⟨o, ho⟩ := hl id (List.mem_of_getElem? hj)
    have := handed_some (f := nameIn 0 m) (d := 0) (j := 0) hj ho
    rw [Nat.zero_add] at this
    exact ⟨o, ho, this⟩
  have hSm : ∀ (j : Nat) (id : Id), m[j]? = some id → S id.1 := by
    intro j id hj
    obtain ⟨o, ho⟩ := hl id (List.mem_of_getElem? hj)
    exact (h.obj id o ho).2
  have hmd : ∀ (j : Nat) (id : Id), m[j]? = some id → id.1 ≠ d := fun j id hj e => hd (e ▸ hSm j id hj)
  have hpin : ∀ (j : Nat) (id : Id), m[j]? = some id → β' (0, j) = β id := by
    intro j id hj
    rw [ha.pin]
    simp only [βin]
    rw [getD_some hj]
  -- the new objects
  have hnew : ∀ id o', sget (changed s' (nameOut m kept d) m dirty ++ handed (sget s') (nameOut m kept d) d 0 kept) id = some o' →
      (∃ j o0, j ∈ dirty ∧ m[j]? = some id ∧ sget s' (0, j) = some o0 ∧ o' = omap (nameOut m kept d) o0) ∨ (∃ k i0 o0, id = (d, k) ∧ kept[k]? = some i0 ∧ sget s' i0 = some o0 ∧ o' = omap (nameOut m kept d) o0) := by
    intro id o' h1
    rw [sget_append] at h1
    cases hc : sget (changed s' (nameOut m kept d) m dirty) id with
    | some o2 =>
      rw [hc] at h1
      simp only [Option.some_or, Option.some.injEq] at h1
      subst h1
      exact .inl (sget_changed hc)
    | none =>
      rw [hc] at h1
      simp only [Option.none_or] at h1
      obtain ⟨k, i0, o0, p1, p2, p3, p4⟩ := sget_handed h1
      rw [Nat.zero_add] at p1
      exact .inr ⟨k, i0, o0, p1, p2, p3, p4⟩
  let β'' : Id → Place := fun id => if id.1 = d then β' (kept.getD id.2 (0, 0)) else β id
  have hβm : ∀ (j : Nat) (id : Id), m[j]? = some id → β'' id = β' (0, j) := by
    intro j id hj
    simp only [β'', hmd j id hj, if_false, hpin j id hj]
  have hβk : ∀ (k : Nat) (i0 : Id), kept[k]? = some i0 → β'' (d, k) = β' i0 := by
    intro k i0 hk
    simp only [β'', if_true]
    rw [getD_some hk]
  -- the names on the way out
  have hnames : Names S' (fun n => S n ∨ n = d) s' (eff s ⟨vmap (nameOut m kept d) r, acc, nthsOf m dirty, changed s' (nameOut m kept d) m dirty ++ handed (sget s') (nameOut m kept d) d 0 kept⟩) β' β'' (nameOut m kept d) := by
    intro id id' hS hf
    rcases nameOut_some hf with ⟨h0, hj⟩ | ⟨k, rfl, hk2⟩
    · obtain ⟨i1, j⟩ := id
      simp only at h0 hj
      subst h0
      refine ⟨.inl (hSm j id' hj), fun o' ho' => ?_⟩
      have hbe : β'' id' = β' (0, j) := hβm j id' hj
      rw [sget_eff] at ho'
      simp only at ho'
      cases hq : sget (changed s' (nameOut m kept d) m dirty ++ handed (sget s') (nameOut m kept d) d 0 kept) id' with
      | some o2 =>
        rw [hq] at ho'
        simp only [Option.some_or, Option.some.injEq] at ho'
        subst ho'
        rcases hnew id' o2 hq with ⟨j2, o0, _, q2, q3, q4⟩ | ⟨k, i0, o0, q1, _⟩
        · have := nodup_at hm q2 hj
          subst this
          exact ⟨o0, q3, hbe, by rw [q4, omap_t]⟩
        · exact absurd (by rw [q1]) (hmd j id' hj)
      | none =>
        rw [hq] at ho'
        simp only [Option.none_or] at ho'
        split at ho'
        · cases ho'
        · rename_i hnd
          have hjd : j ∉ dirty := fun hh => hnd (mem_nthsOf.2 ⟨j, hh, hj⟩)
          have hsame := ha.same j hjd
          obtain ⟨o3, q1, q2⟩ := hin j id' hj
          rw [ho'] at q1
          simp only [Option.some.injEq] at q1
          subst q1
          exact ⟨_, by rw [hsame, q2], hbe, by rw [omap_t]⟩
    · refine ⟨.inr rfl, fun o' ho' => ?_⟩
      have hbe : β'' (d, k) = β' id := hβk k id hk2
      obtain ⟨o1, ho1⟩ := (hk1 id (List.mem_of_getElem? hk2)).2
      rw [sget_eff] at ho'
      simp only at ho'
      cases hq : sget (changed s' (nameOut m kept d) m dirty ++ handed (sget s') (nameOut m kept d) d 0 kept) (d, k) with
      | some o2 =>
        rw [hq] at ho'
        simp only [Option.some_or, Option.some.injEq] at ho'
        subst ho'
        rcases hnew _ o2 hq with ⟨j2, o0, _, q2, _⟩ | ⟨k2, i0, o0, q1, q2, q3, q4⟩
        · exact absurd rfl (hmd j2 _ q2)
        · simp only [Prod.mk.injEq, true_and] at q1
          subst q1
          rw [hk2] at q2
          simp only [Option.some.injEq] at q2
          subst q2
          exact ⟨o0, q3, hbe, by rw [q4, omap_t]⟩
      | none =>
        exfalso
        have := handed_some (f := nameOut m kept d) (d := d) (j := 0) hk2 ho1
        rw [Nat.zero_add] at this
        rw [sget_append, this] at hq
        cases hc : sget (changed s' (nameOut m kept d) m dirty) (d, k) <;> rw [hc] at hq <;> simp at hq
  refine ⟨β'', ha.os, ha.tape, ha.output, ha.hsize, ?_, ?_, ?_, ?_, ?_, ?_, ?_, VR.ren hnames _ _ ha.val⟩
  · intro b hb hnb
    refine ha.frame b hb fun j hj hlj he => ?_
    obtain ⟨o', ho'⟩ := Option.isSome_iff_exists.1 hlj
    obtain ⟨k, i0, o0, p1, p2, p3, p4⟩ := sget_handed ho'
    simp only [Nat.zero_add, Prod.mk.injEq, true_and] at p1
    subst p1
    refine hnb i0 (mem_nthsOf.2 ⟨j, hj, p2⟩) (by simp [Live, p3]) ?_
    simp only [βin] at he
    rw [getD_some p2] at he
    exact he
  · intro id hid
    simp only [β'', hid, if_false]
  · intro id o' h1
    rcases hnew id o' h1 with ⟨j, o0, q1, q2, q3, q4⟩ | ⟨k, i0, o0, q1, _⟩
    · left
      obtain ⟨o1, p1, p2⟩ := hin j id q2
      obtain ⟨o2, p3, p4⟩ := ha.keepT j o0 q3
      rw [p2] at p3
      simp only [Option.some.injEq] at p3
      subst p3
      exact ⟨mem_nthsOf.2 ⟨j, q1, q2⟩, o1, p1, by rw [q4, omap_t, p4, omap_t]⟩
    · right; rw [q1]
  · intro id o' h1 hid
    rcases hnew id o' h1 with ⟨j, o0, q1, q2, q3, q4⟩ | ⟨k, i0, o0, q1, q2, q3, q4⟩
    · exact absurd hid (hmd j id q2)
    · subst q1
      rw [hβk k i0 q2]
      rcases ha.fresh i0 (by simp [Live, q3]) with p1 | p1 | ⟨j, p1, p2, p3⟩
      · exact absurd p1 (hk1 i0 (List.mem_of_getElem? q2)).1
      · exact .inl p1
      · right
        obtain ⟨o', ho'⟩ := Option.isSome_iff_exists.1 p2
        obtain ⟨k2, i1, o1, r1, r2, r3, r4⟩ := sget_handed ho'
        simp only [Nat.zero_add, Prod.mk.injEq, true_and] at r1
        subst r1
        refine ⟨i1, mem_nthsOf.2 ⟨j, p1, r2⟩, by simp [Live, r3], ?_⟩
        simp only [βin] at p3
        rw [getD_some r2] at p3
        exact p3
  · intro i j o1 o2 h1 h2 he
    have key : ∀ i o1, sget (changed s' (nameOut m kept d) m dirty ++ handed (sget s') (nameOut m kept d) d 0 kept) i = some o1 → ∃ i' o0, sget s' i' = some o0 ∧ o1.ro = o0.ro ∧ β'' i = β' i' ∧ ((i'.1 = 0 ∧ m[i'.2]? = some i) ∨ (i'.1 ≠ 0 ∧ ∃ k, i = (d, k) ∧ kept[k]? = some i')) := by
      intro i o1 h1
      rcases hnew i o1 h1 with ⟨j, o0, q1, q2, q3, q4⟩ | ⟨k, i0, o0, q1, q2, q3, q4⟩
      · exact ⟨(0, j), o0, q3, by rw [q4, omap_ro], hβm j i q2, .inl ⟨rfl, q2⟩⟩
      · subst q1
        exact ⟨i0, o0, q3, by rw [q4, omap_ro], hβk k i0 q2, .inr ⟨(hk1 i0 (List.mem_of_getElem? q2)).1, k, rfl, q2⟩⟩
    obtain ⟨i', p1, a1, a2, a3, a4⟩ := key i o1 h1
    obtain ⟨j', p2, b1, b2, b3, b4⟩ := key j o2 h2
    rw [a3, b3] at he
    rcases ha.inj i' j' p1 p2 a1 b1 he with rfl | ⟨r1, r2⟩
    · left
      rcases a4 with ⟨c1, c2⟩ | ⟨c1, k, c2, c3⟩ <;> rcases b4 with ⟨d1, d2⟩ | ⟨d1, k', d2, d3⟩
      · rw [c2] at d2
        simpa using d2
      · exact absurd c1 d1
      · exact absurd d1 c1
      · rw [c2, d2, nodup_at hk c3 d3]
    · exact .inr ⟨a2.trans r1, b2.trans r2⟩
  · intro id hid o1 ho1
    obtain ⟨j, hj, hmj⟩ := mem_nthsOf.1 hid
    obtain ⟨o2, p1, p2⟩ := hin j id hmj
    rw [ho1] at p1
    simp only [Option.some.injEq] at p1
    subst p1
    have := ha.rw j _ hj p2
    rwa [omap_ro] at this
  · intro id o' h1
    rcases hnew id o' h1 with ⟨j, o0, q1, q2, q3, q4⟩ | ⟨k, i0, o0, q1, q2, q3, q4⟩
    · subst q4
      exact RO.ren hnames (ha.obj (0, j) o0 q3).1 (hβm j id q2)
    · subst q4; subst q1
      exact RO.ren hnames (ha.obj i0 o0 q3).1 (hβk k i0 q2)

theorem callRec_sound {run : Caller} (hrun : RunOk P c run) (hG : GOk c.G w0 A) (h : Rel c.T N w0 A s0 β0 w S s β e a Dp) (hd : ¬ S d) {fn : FuncId} {as : List V} {vs : Array Value} (hv : VRL c.T w A S s β as vs.toList) (hk : callRec run fn as (sget s) d = some R) :
    (∃ f, P.funcs[fn]? = some f ∧ f.body.isSome = true ∧ f.name ≠ "runtime.NumGoroutine") ∧
    Calls P fn vs w fun ee w' => ∃ v β', ee = .returned v ∧ Chg c.T A w w' S s β d R β' v := by
  unfold callRec at hk
  simp only at hk
  have hm : (liveOf (sget s) (reach (sget s) enough [] as)).Nodup := liveOf_nodup (reach_nodup _ _ _ _ (by simp))
  have hl : ∀ id ∈ liveOf (sget s) (reach (sget s) enough [] as), ∃ o, sget s id = some o := fun id hid => (mem_liveOf hid).2
  split at hk
  · cases hk
  · rename_i r s' dirty hres
    simp only [Option.some.injEq] at hk
    subst hk
    obtain ⟨hst, hvr⟩ := start_in h hm hl hv
    obtain ⟨hf, hc⟩ := hrun _ _ _ _ hres w A _ vs hst (gok_now hG h) hvr
    refine ⟨hf, hc.mono fun ee w' => ?_⟩
    rintro ⟨v, S', β', he, ha⟩
    obtain ⟨β'', hch⟩ := chg_out h hd hm hl (acc := reach (sget s) enough [] as) ha (kept := newOf (liveOf (sget s') (reach (sget s') enough [] (r :: rootsOf s' dirty)))) (newOf_nodup (liveOf_nodup (reach_nodup _ _ _ _ (by simp)))) (fun id hid => ⟨(mem_newOf.1 hid).2, (mem_liveOf (mem_newOf.1 hid).1).2⟩)
    exact ⟨v, β'', he, hch⟩
end
end Go.CR

/- One operation, whatever it is; operations in the text's order. -/
namespace Go.CR
open Go
open Go.DW (D TT TI TK RV RVL RI RIL RILL ideq ideq_iff ideq_false TOk TRow GOk zerosAre)

/-- functions without a body -/
structure XOk (P : Program) (X : FuncId → Option Nat) : Prop where
  ok : ∀ f k, X f = some k → ∃ fn, P.funcs[f]? = some fn ∧ (fn.name == "runtime.NumGoroutine") = false ∧ fn.body.isNone = true ∧ Extern.findNext fn = none ∧
    ((k = 0 ∧ Extern.find fn = some Extern.BytealgCount.count) ∨ (k = 1 ∧ Extern.find fn = some Extern.BytealgIndexByte.indexByte))

theorem countB_eq (l : List UInt8) (n : Nat) (h : n < 256) : (countB l n : Int) = Lib.countByte l (UInt8.ofNat n) := by
  unfold Lib.countByte
  congr 1
  induction l with
  | nil => rfl
  | cons b r ih =>
    simp only [countB, List.count_cons, ih]
    cases hb : Nat.beq b.toNat n
    · have hne : b ≠ UInt8.ofNat n := by
        rintro rfl
        simp [Nat.mod_eq_of_lt h] at hb
      simp [hne]
    · have he : b.toNat = n := by simpa using hb
      have he : b = UInt8.ofNat n := by rw [← he]; simp
      simp [he]
theorem indexB_eq (l : List UInt8) (n : Nat) (h : n < 256) : ∀ i : Nat, indexB l n i = (if Lib.indexByte l (UInt8.ofNat n) = -1 then -1 else Lib.indexByte l (UInt8.ofNat n) + i) := by
  induction l with
  | nil => intro i; simp [indexB, Lib.indexByte]
  | cons b r ih =>
    intro i
    simp only [indexB, Lib.indexByte]
    cases hb : Nat.beq b.toNat n
    · have hne : b ≠ UInt8.ofNat n := by
        rintro rfl
        simp [Nat.mod_eq_of_lt h] at hb
      simp only [ih]
      have hge := Lib.indexByte_ge r (UInt8.ofNat n)
      simp only [beq_iff_eq, hne, if_false]
      by_cases h1 : Lib.indexByte r (UInt8.ofNat n) = -1
      · simp [h1]
      · simp only [h1, if_false]
        rw [if_neg (by omega)]
        omega
    · have he : b.toNat = n := by simpa using hb
      have he : b = UInt8.ofNat n := by rw [← he]; simp
      simp [he]

section
variable {P : Program} {c : Ctx} {N : Nat} {w0 : World} {A : Nat → Prop} {s0 : Sto} {β0 : Id → Place} {w : World} {S : Nat → Prop} {s : Sto} {β : Id → Place} {e : Env} {a : Act} {Dp : Nat → Prop} {o : Oper} {d : Nat} {R : Rec} {next : Act → World → Prop} {Q : Exit → Act → World → Prop}

theorem Runs.wp {v : Value} {w' : World} (h : Runs P o a w v w') (hn : next (a.put o.dst v) w') : o.wp P a w next Q := by
  unfold Oper.wp
  rcases h with hr | ⟨hr, rfl⟩
  · rw [hr]; exact hn
  · rw [hr]; exact hn

theorem call_vals (hG : GOk c.G w0 A) (h : Rel c.T N w0 A s0 β0 w S s β e a Dp) {f : Operand} {g : FuncId} {first caps : List V} {args : Array Operand} (hf : opnd c.G e f = .fn g first caps) :
    ∃ x y : Array Value, a.eval f = .func (.func g) x y ∧ VRL c.T w A S s β (first ++ (args.toList.map (opnd c.G e) ++ caps)) (x ++ args.map a.eval ++ y).toList := by
  have hx := opnd_vr hG h f
  rw [hf] at hx
  simp only [VR] at hx
  obtain ⟨x, y, hv, h1, h2⟩ := hx
  refine ⟨x, y, hv, ?_⟩
  simp only [Array.toList_append, Array.toList_map, List.append_assoc]
  exact VRL.append h1 (VRL.append (opnds_vr hG h args.toList) h2)

theorem run_call {f : Operand} {args : Array Operand} {ats : Array TypeId} (ho : o.op = .call { callee := .value f, args := args, argTypes := ats }) {g : FuncId} {x y : Array Value} (hf : a.eval f = .func (.func g) x y) :
    (execOp a.eval o).run P w = (callFunc g (x ++ args.map a.eval ++ y)).run P w := by
  simp [execOp, ho, resolve, Deferred.ofValue, hf, invoke]

theorem ext_sound {k : Nat} {as : List V} {vs : Array Value} (hv : VRL c.T w A S s β as vs.toList) (hk : extRec k as = some R) {f : FuncId} {X : FuncId → Option Nat} (hX : XOk P X) (hf : X f = some k) :
    ∃ v, (callFunc f vs).run P w = .ok (.value v) w ∧ Chg c.T A w w S s β d R β v := by
  obtain ⟨fn, h1, h2, h3, h4, h5⟩ := hX.ok f k hf
  unfold extRec at hk
  split at hk
  · rename_i b n
    split at hk
    · rename_i hn
      have hn : n < 256 := by simpa using hn
      rcases h5 with ⟨_, h5⟩ | ⟨h0, _⟩
      · simp only [VRL, VR, RV] at hv
        obtain ⟨u, us, hvs, rfl, u', us', rfl, rfl, rfl⟩ := hv
        have hvs : vs = #[.string b, .int .u8 (.ofNat n)] := by apply Array.ext'; simpa using hvs
        subst hvs
        simp only [ret, Option.some.injEq] at hk
        subst hk
        refine ⟨.int .i64 (countB (bytesOf b) n), ?_, Chg.val1 (by simp [VR, RV])⟩
        rw [run_callFunc_extern h1 h2 h3 h4 h5, Lib.run_countString]
        simp only [Result.andThen_ok]
        rw [countB_eq _ _ hn]
        rfl
      · omega
    · cases hk
  · rename_i b n
    split at hk
    · rename_i hn
      have hn : n < 256 := by simpa using hn
      rcases h5 with ⟨h0, _⟩ | ⟨_, h5⟩
      · omega
      · simp only [VRL, VR, RV] at hv
        obtain ⟨u, us, hvs, rfl, u', us', rfl, rfl, rfl⟩ := hv
        have hvs : vs = #[.string b, .int .u8 (.ofNat n)] := by apply Array.ext'; simpa using hvs
        subst hvs
        simp only [ret, Option.some.injEq] at hk
        subst hk
        refine ⟨.int .i64 (indexB (bytesOf b) n 0), ?_, Chg.val1 (by simp [VR, RV])⟩
        rw [run_callFunc_extern h1 h2 h3 h4 h5, Lib.run_indexByteString]
        simp only [Result.andThen_ok]
        rw [indexB_eq _ _ hn]
        congr 3
        have : (Int.ofNat n).toNat.toUInt8 = UInt8.ofNat n := rfl
        rw [this]
        simp only [bytesOf]
        by_cases hh : Lib.indexByte b.data.toList (UInt8.ofNat n) = -1 <;> simp [hh]
    · cases hk
  · cases hk

structure Env0 (P : Program) (c : Ctx) (run : Caller) (w0 : World) (A : Nat → Prop) : Prop where
  T : TOk P c.T
  E : EqOk P c.T c.E
  X : XOk P c.X
  G : GOk c.G w0 A
  run : RunOk P c run

theorem exec_sound {run : Caller} (H : Env0 P c run w0 A) (h : Rel c.T N w0 A s0 β0 w S s β e a Dp) (hd : ¬ S d) (hdst : dstOk N o.dst = true) (hp : exec c run o.op e (sget s) d = some R)
    (hn : ∀ a' w' β', Rel c.T N w0 A s0 β0 w' (fun n => S n ∨ n = d) (eff s R) β' (CR.put e o.dst R.v) a' (fun j => Dp j ∨ (0, j) ∈ R.del) → next a' w') : o.wp P a w next Q := by
  have plain : Good P c.T A o a w S s β d R → o.wp P a w next Q := by
    rintro ⟨v, w', β', hr, hc⟩
    exact hr.wp (hn _ _ _ (h.chg hc hd hdst))
  unfold exec at hp
  split at hp
  · rename_i cl ho
    obtain ⟨cal, args, ats⟩ := cl
    simp only at hp
    split at hp
    · rename_i f
      unfold doCall at hp
      split at hp
      · rename_i g first caps hf
        obtain ⟨x, y, hv, hrv⟩ := call_vals (args := args) H.G h hf
        split at hp
        · rename_i k hk
          obtain ⟨v, hr, hc⟩ := ext_sound (d := d) hrv hp H.X hk
          refine plain ⟨v, w, β, .inl ?_, hc⟩
          rw [run_call ho hv]
          exact hr
        · obtain ⟨hfn, hc⟩ := callRec_sound (P := P) H.run H.G h hd hrv hp
          unfold Oper.wp
          obtain ⟨fn, h1, h2, h3⟩ := hfn
          have hb : fn.body ≠ none := by intro hb; simp [hb] at h2
          have he : (execOp a.eval o).run P w = .ok (.enter g (x ++ args.map a.eval ++ y)) w := by
            rw [run_call ho hv]
            simp [callFunc, h1, hb, h3]
          rw [he, Oper.upon_enter]
          refine hc.mono fun ee w' => ?_
          rintro ⟨v, β', rfl, hch⟩
          exact hn _ _ _ (h.chg hch hd hdst)
      · cases hp
    · exact plain (pCall_sound H.T H.G h hd ho hp)
  · exact plain (prim_sound H.T H.E H.G h hd hp)

theorem dstOf_eq : ∀ (l : List Oper) (j : Nat), dstOf l j = (l[j]?).bind (·.dst)
  | [], j => by simp [dstOf]
  | o :: r, 0 => by simp [dstOf]
  | o :: r, j + 1 => by simp [dstOf, dstOf_eq r j]

theorem env_at (h : Rel c.T N w0 A s0 β0 w S s β e a Dp) (t : Nat) : VR c.T w A S s β (e.get t) (a.tmps.getD t undef) := h.env t

theorem wanted_sound {ops : Array Oper} (h : Rel c.T N w0 A s0 β0 w S s β e a Dp) {b : Bool} (hw : wanted ops.toList o e = some b) : Region.wanted o (yielded ops a.tmps) = b := by
  unfold wanted at hw
  cases hg : o.guard with
  | none => rw [hg] at hw; simp at hw; simp [Region.wanted, hg, hw]
  | some p =>
    obtain ⟨j, want⟩ := p
    rw [hg] at hw
    simp only at hw
    split at hw
    · cases hw
    · rename_i t ht
      rw [dstOf_eq] at ht
      simp only [Array.getElem?_toList] at ht
      have hv := h.env t
      rw [Array.getD_eq_getD_getElem?] at hv
      simp only [Region.wanted, hg, yielded, ht, Option.bind_some]
      split at hw
      · rename_i he
        rw [he] at hv
        simp only [VR, VRL] at hv
        obtain ⟨vs, hv, hl⟩ := hv
        simp only [Option.some.injEq] at hw
        subst hw
        cases hx : a.tmps[t]? with
        | none => rfl
        | some u =>
          rw [hx] at hv
          simp only [Option.getD_some] at hv
          subst hv
          rfl
      · split at hw
        · cases hw
        · rename_i b' hb
          have hv2 := boolV_vr hb hv
          simp only [Option.some.injEq] at hw
          subst hw
          cases hx : a.tmps[t]? with
          | none => rw [hx] at hv2; simp [undef] at hv2
          | some u =>
            rw [hx] at hv2
            simp only [Option.getD_some] at hv2
            subst hv2
            simp only
            cases want <;> cases b' <;> rfl

theorem Rel.dirt (h : Rel c.T N w0 A s0 β0 w S s β e a Dp) {Dp' : Nat → Prop} (hd : ∀ j, Dp j ↔ Dp' j) : Rel c.T N w0 A s0 β0 w S s β e a Dp' := by
  have : Dp = Dp' := funext fun j => propext (hd j)
  rw [← this]; exact h
theorem mem_addDirty : ∀ (l : List Nat) (del : List Id) (j : Nat), j ∈ addDirty l del ↔ j ∈ l ∨ (0, j) ∈ del
  | l, [], j => by simp [addDirty]
  | l, (0, k) :: r, j => by
    simp only [addDirty]
    split
    · rename_i hk
      have hk := (mem1_iff l k).1 hk
      rw [mem_addDirty l r j]
      simp only [List.mem_cons, Prod.mk.injEq, true_and]
      constructor
      · rintro (h | h)
        · exact .inl h
        · exact .inr (.inr h)
      · rintro (h | rfl | h)
        · exact .inl h
        · exact .inl hk
        · exact .inr h
    · rw [mem_addDirty (k :: l) r j]
      simp only [List.mem_cons, Prod.mk.injEq, true_and]
      constructor
      · rintro ((rfl | h) | h)
        · exact .inr (.inl rfl)
        · exact .inl h
        · exact .inr (.inr h)
      · rintro (h | rfl | h)
        · exact .inl (.inr h)
        · exact .inl (.inl rfl)
        · exact .inr h
  | l, (n + 1, k) :: r, j => by
    simp only [addDirty]
    rw [mem_addDirty l r j]
    simp

theorem skip_vr : VR c.T w A S s β (.tup []) undef := by
  simp only [VR, VRL]
  exact ⟨#[], rfl, rfl⟩
theorem Rel.issue (h : Rel c.T N w0 A s0 β0 w S s β e a Dp) {S' : Nat → Prop} (hS : ∀ n, S n → S' n) : Rel c.T N w0 A s0 β0 w S' s β e a Dp :=
  { h with env := fun t => (h.env t).mono (fun _ _ => rfl) hS (Agrees.refl S s β), obj := fun id o ho => ⟨(h.obj id o ho).1.mono (fun _ _ => rfl) hS (Agrees.refl S s β) rfl rfl, hS _ (h.obj id o ho).2⟩, zero := hS _ h.zero }

theorem runOps_sound {run : Caller} (H : Env0 P c run w0 A) {ops : Array Oper} : ∀ (l : List Oper) {e : Env} {s : Sto} {n : Nat} {dirty : List Nat} {st' : St}, runOps c run N ops.toList l ⟨e, s, n, dirty⟩ = some st' →
    (hn : ∀ a' w' β', Rel c.T N w0 A s0 β0 w' (fun k => k < st'.n) st'.s β' st'.e a' (fun j => j ∈ st'.dirty) → Q .normal a' w') →
    ∀ {w : World} {β : Id → Place} {a : Act}, Rel c.T N w0 A s0 β0 w (fun k => k < n) s β e a (fun j => j ∈ dirty) → wpList P ops Q l a w
  | [], e, s, n, dirty, st', hr, hn, w, β, a, h => by
    simp only [runOps, Option.some.injEq] at hr
    subst hr
    exact hn _ _ _ h
  | o :: r, e, s, n, dirty, st', hr, hn, w, β, a, h => by
    simp only [runOps] at hr
    unfold wpList
    split at hr
    · rename_i hw hdst
      split at hr
      · rename_i T hT
        rw [if_pos (wanted_sound h hw)]
        refine .inl (exec_sound H h (Nat.lt_irrefl n) hdst hT fun a' w' β' hr' => ?_)
        refine runOps_sound H r hr hn ((hr'.dirt (Dp' := fun j => j ∈ addDirty dirty T.del) fun j => (mem_addDirty dirty T.del j).symm).issue (S' := fun k => k < n + 1) ?_)
        rintro k (hk | rfl) <;> omega
      · cases hr
    · rename_i hw hdst
      rw [if_neg (by rw [wanted_sound h hw]; simp)]
      exact runOps_sound H r hr hn ((h.put hdst skip_vr).issue (S' := fun k => k < n + 1) fun k hk => Nat.lt_succ_of_lt hk)
    · cases hr
end
end Go.CR

/- An operation looks at its operands and at the objects that it names, and at nothing else. -/
namespace Go.CR
open Go
open Go.DW (D TT TI TK)

section
variable {c : Ctx} {T : TT} {g g' : Id → Option O} {R : Rec} {d : Nat}

theorem withObj_local {id : Id} {K K' : O → Option Rec} (h : withObj g id K = some R) (hg : ∀ i ∈ R.acc, g' i = g i) (hK : ∀ o R1, K o = some R1 → (∀ i ∈ R1.acc, g' i = g i) → K' o = some R1) : withObj g' id K' = some R := by
  obtain ⟨ob, R1, h1, h2, rfl⟩ := withObj_some h
  unfold withObj
  rw [hg id (by simp), h1]
  simp only
  rw [hK ob R1 h2 fun i hi => hg i (by simp [hi])]
theorem withObj_local' {id : Id} {K : O → Option Rec} (h : withObj g id K = some R) (hg : ∀ i ∈ R.acc, g' i = g i) : withObj g' id K = some R :=
  withObj_local h hg fun o R1 h _ => h

theorem srcV_local {el : TypeId} {y : V} {K K' : List V → Nat → Option Rec} (h : srcV T el g y K = some R) (hg : ∀ i ∈ R.acc, g' i = g i) (hK : ∀ l n R1, K l n = some R1 → (∀ i ∈ R1.acc, g' i = g i) → K' l n = some R1) : srcV T el g' y K' = some R := by
  unfold srcV at h ⊢
  split at h
  · exact hK _ _ _ h hg
  · exact hK _ _ _ h hg
  · refine withObj_local h hg fun o R1 h1 hg1 => ?_
    split at h1
    · skip
      exact hK _ _ _ h1 hg1
    · cases h1
  · cases h

theorem appendV_local {el : TypeId} {x : V} {news : List V} {m : Nat} (h : appendV T el g d x news m = some R) (hg : ∀ i ∈ R.acc, g' i = g i) : appendV T el g' d x news m = some R := by
  unfold appendV at h ⊢
  split at h
  · exact h
  · exact h
  · exact withObj_local' h hg
  · exact h
  · exact withObj_local' h hg
  · cases h

theorem pLoad_local {t : TypeId} {x : V} (h : pLoad T t g x = some R) (hg : ∀ i ∈ R.acc, g' i = g i) : pLoad T t g' x = some R := by
  unfold pLoad at h ⊢
  split at h
  · exact withObj_local' h hg
  · exact h
  · cases h
theorem pStore_local {t : TypeId} {x : V} {cs : List V} (h : pStore T t g x cs = some R) (hg : ∀ i ∈ R.acc, g' i = g i) : pStore T t g' x cs = some R := by
  unfold pStore at h ⊢
  split at h
  · skip
    exact withObj_local' h hg
  · cases h
theorem pNilCheck_local {x : V} (h : pNilCheck g x = some R) (hg : ∀ i ∈ R.acc, g' i = g i) : pNilCheck g' x = some R := by
  unfold pNilCheck at h ⊢
  split at h
  · exact withObj_local' h hg
  · exact h
  · exact h
  · cases h
theorem pBin_local {op : BinOp} {t : TypeId} {x y : V} (h : pBin c op t g x y = some R) (hg : ∀ i ∈ R.acc, g' i = g i) : pBin c op t g' x y = some R := by
  unfold pBin at h ⊢
  split at h
  · split at h
    · exact withObj_local' h hg
    · exact withObj_local' h hg
    · cases h
  · exact h
theorem pConvert_local {t u : TypeId} {x : V} (h : pConvert T g t u x = some R) (hg : ∀ i ∈ R.acc, g' i = g i) : pConvert T g' t u x = some R := by
  unfold pConvert at h ⊢
  split at h
  · exact h
  · skip
    split at h
    · exact srcV_local h hg fun _ _ _ h _ => h
    · cases h
  · cases h
theorem pFieldAddr_local {t : TypeId} {f : Nat} {x : V} (h : pFieldAddr T t f g x = some R) (hg : ∀ i ∈ R.acc, g' i = g i) : pFieldAddr T t f g' x = some R := by
  unfold pFieldAddr at h ⊢
  split at h
  · skip
    split at h
    · skip
      split at h
      · exact withObj_local' h hg
      · exact h
      · cases h
    · cases h
  · cases h
theorem pIndexAddr_local {t : TypeId} {x : V} {i : Option Nat} (h : pIndexAddr T t g x i = some R) (hg : ∀ i ∈ R.acc, g' i = g i) : pIndexAddr T t g' x i = some R := by
  unfold pIndexAddr at h ⊢
  split at h
  · exact withObj_local' h hg
  · exact withObj_local' h hg
  · exact h
  · cases h
theorem pSlice_local {t : TypeId} {x : V} {lo hi mx : Option V} (h : pSlice T t g x lo hi mx = some R) (hg : ∀ i ∈ R.acc, g' i = g i) : pSlice T t g' x lo hi mx = some R := by
  unfold pSlice at h ⊢
  split at h
  · exact h
  · exact h
  · exact h
  · exact withObj_local' h hg
  · cases h
theorem pLen_local {l : List V} {t : List TypeId} (h : pLen T g l t = some R) (hg : ∀ i ∈ R.acc, g' i = g i) : pLen T g' l t = some R := by
  unfold pLen at h ⊢
  split at h
  · split at h
    · exact h
    · exact h
    · exact h
    · exact withObj_local' h hg
    · cases h
  · cases h
theorem pAppend_local {l : List V} {t : List TypeId} (h : pAppend T g d l t = some R) (hg : ∀ i ∈ R.acc, g' i = g i) : pAppend T g' d l t = some R := by
  unfold pAppend at h ⊢
  split at h
  · split at h
    · skip
      exact srcV_local h hg fun _ _ _ h hg => appendV_local h hg
    · cases h
  · cases h
theorem pCall_local {ρ : Operand → V} {cl : Call} (h : pCall T ρ g d cl = some R) (hg : ∀ i ∈ R.acc, g' i = g i) : pCall T ρ g' d cl = some R := by
  unfold pCall at h ⊢
  split at h
  · exact pLen_local h hg
  · exact pAppend_local h hg
  · exact h
  · exact h
  · cases h
theorem prim_local {op : Op} {ρ : Operand → V} (h : prim c op ρ g d = some R) (hg : ∀ i ∈ R.acc, g' i = g i) : prim c op ρ g' d = some R := by
  unfold prim at h ⊢
  cases op <;> try exact h
  case makeFunc f a b => cases f <;> exact h
  case load => exact pLoad_local h hg
  case store => exact pStore_local h hg
  case nilCheck => exact pNilCheck_local h hg
  case binOp => exact pBin_local h hg
  case convert => exact pConvert_local h hg
  case slice => exact pSlice_local h hg
  case fieldAddr => exact pFieldAddr_local h hg
  case indexAddr => exact pIndexAddr_local h hg
  case call => exact pCall_local h hg

theorem handed_congr {f : Id → Option Id} : ∀ {m : List Id} {j : Nat}, (∀ i ∈ m, g' i = g i) → handed g' f d j m = handed g f d j m
  | [], j, _ => rfl
  | x :: r, j, h => by
    simp only [handed, h x (by simp)]
    split <;> rw [handed_congr fun i hi => h i (by simp [hi])]
theorem callRec_local {run : Caller} {fn : FuncId} {as : List V} (h : callRec run fn as g d = some R) (hg : ∀ i ∈ R.acc, g' i = g i) : callRec run fn as g' d = some R := by
  unfold callRec at h ⊢
  simp only at h ⊢
  split at h
  · cases h
  · rename_i r s dirty hr
    simp only [Option.some.injEq] at h
    subst h
    simp only at hg
    rw [reach_congr enough [] as hg, liveOf_congr hg, handed_congr fun i hi => hg i (mem_liveOf hi).1, hr]

theorem prim_opnd {op : Op} {ρ ρ' : Operand → V} (h : ∀ x ∈ op.operands, ρ' x = ρ x) : prim c op ρ' g d = prim c op ρ g d := by
  have omap : ∀ {x : Option Operand}, (∀ y ∈ x.toArray, ρ' y = ρ y) → omapV ρ' x = omapV ρ x := by
    intro x hx
    cases x with
    | none => rfl
    | some y => simp only [omapV]; rw [hx y (by simp)]
  have hmap : ∀ {l : Array Operand}, (∀ y ∈ l, ρ' y = ρ y) → l.toList.map ρ' = l.toList.map ρ := by
    intro l hl
    exact List.map_congr_left fun x hx => hl x (by simpa using hx)
  unfold prim
  cases op <;> simp only [Op.operands, Array.mem_append, List.mem_toArray, List.mem_cons, List.not_mem_nil, or_false, forall_eq_or_imp, forall_eq] at h ⊢ <;> (try (simp only [h])) <;> (try rfl)
  case build t parts =>
    rw [prL_eq, prL_eq]
    congr 1
    refine List.map_congr_left fun p hp => ?_
    obtain ⟨i, x⟩ := p
    simp only
    rw [h x (List.mem_map.2 ⟨(i, x), hp, rfl⟩)]
  case buildSlice t l parts =>
    rw [sndL_eq, sndL_eq]
    congr 1
    refine List.map_congr_left fun p hp => ?_
    obtain ⟨i, x⟩ := p
    simp only
    rw [h x (List.mem_map.2 ⟨(i, x), hp, rfl⟩)]
  case makeFunc f first caps =>
    cases f with
    | func f => simp only; rw [hmap fun y hy => h y (.inl hy), hmap fun y hy => h y (.inr hy)]
    | _ => rfl
  case slice t x lo hi m =>
    rw [h x (.inl (.inl (.inl rfl))), omap fun y hy => h y (.inl (.inl (.inr hy))), omap fun y hy => h y (.inl (.inr hy)), omap fun y hy => h y (.inr hy)]
  case call cl =>
    simp only [Call.operands, Array.mem_append] at h
    unfold pCall
    rw [hmap fun y hy => h y (.inr hy)]

theorem exec_local {run : Caller} {op : Op} {e e' : Env} (hx : ∀ x ∈ op.operands, opnd c.G e' x = opnd c.G e x) (h : exec c run op e g d = some R) (hg : ∀ i ∈ R.acc, g' i = g i) : exec c run op e' g' d = some R := by
  unfold exec at h ⊢
  split at h
  · rename_i cl
    simp only [Op.operands, Call.operands, Array.mem_append] at hx
    have hmap : cl.args.toList.map (opnd c.G e') = cl.args.toList.map (opnd c.G e) := List.map_congr_left fun x hx' => hx x (.inr (by simpa using hx'))
    cases hcal : cl.callee with
    | value f =>
      simp only [hcal] at h ⊢
      have hfe : opnd c.G e' f = opnd c.G e f := hx f (.inl (by rw [hcal]; simp))
      rw [hfe, hmap]
      unfold doCall at h ⊢
      split at h
      · rename_i fn first caps hfv
        split at h
        · exact h
        · exact callRec_local h hg
      · cases h
    | _ =>
      simp only [hcal] at h ⊢
      have h2 := pCall_local h hg
      have h3 : pCall c.T (opnd c.G e') g' d cl = pCall c.T (opnd c.G e) g' d cl := by
        unfold pCall
        rw [hmap]
      rw [h3]; exact h2
  · rename_i hno
    have h2 := prim_local h hg
    rw [← prim_opnd (ρ' := opnd c.G e') hx] at h2
    exact h2
end
end Go.CR

/- A region that draws its order: every order leaves the same. -/
namespace Go.CR
open Go
open Go.DW (D TT TI TK RV RVL RI RIL RILL ideq ideq_iff ideq_false TOk TRow GOk zerosAre always befs befOf nthL slotsOf tmpsOf memO sameO hits mem1)

/-! ### slots and stores under the records -/
theorem get_put_ne {e : Env} {d : Option Nat} {v : V} {t : Nat} (hd : ∀ i, d = some i → i < most) (h : d ≠ some t) : (put e d v).get t = e.get t := by
  cases d with
  | none => rfl
  | some d => simp only [put]; rw [get_setE (hd d rfl), if_neg (fun hh => h (by rw [hh]))]
theorem get_put_congr {e e' : Env} {d : Option Nat} {v : V} {t : Nat} (hd : ∀ i, d = some i → i < most) (h : e.get t = e'.get t) : (put e d v).get t = (put e' d v).get t := by
  cases d with
  | none => exact h
  | some d => simp only [put, get_setE (hd d rfl), h]
theorem put_comm {e : Env} {d d' : Option Nat} {v v' : V} (hd : ∀ i, d = some i → i < most) (hd' : ∀ i, d' = some i → i < most) (h : ∀ i, d = some i → d' ≠ some i) (t : Nat) : (put (put e d v) d' v').get t = (put (put e d' v') d v).get t := by
  cases d with
  | none => rfl
  | some d =>
    cases d' with
    | none => rfl
    | some d' =>
      have hne : d ≠ d' := fun hh => h d rfl (by rw [hh])
      simp only [put, get_setE (hd d rfl), get_setE (hd' d' rfl)]
      by_cases h1 : t = d'
      · subst h1
        simp [Ne.symm hne]
      · simp [h1]

def touches (R : Rec) (id : Id) : Prop := id ∈ R.del ∨ id ∈ keys R.new
theorem sget_keys : ∀ (s : Sto) (id : Id), id ∉ keys s → sget s id = none
  | [], id, _ => rfl
  | (i, o) :: r, id, h => by
    simp only [keys, List.mem_cons, not_or] at h
    rw [sget_cons, if_neg (fun e => h.1 e.symm)]
    exact sget_keys r id h.2
theorem sget_eff_ne {s : Sto} {R : Rec} {id : Id} (h : ¬ touches R id) : sget (eff s R) id = sget s id := by
  simp only [touches, not_or] at h
  rw [sget_eff, sget_keys _ _ h.2, if_neg h.1]; rfl

abbrev Items := List (Oper × Rec)
/-- all slots that are written lie in the tree -/
def DstOk (l : Items) : Prop := ∀ y ∈ l, ∀ i, y.1.dst = some i → i < most
noncomputable def runE (e : Env) : Items → Env
  | [] => e
  | x :: r => runE (put e x.1.dst x.2.v) r
noncomputable def runS (s : Sto) : Items → Sto
  | [] => s
  | x :: r => runS (eff s x.2) r
theorem runE_append (e : Env) (l l' : Items) : runE e (l ++ l') = runE (runE e l) l' := by
  induction l generalizing e with
  | nil => rfl
  | cons x r ih => exact ih _
theorem runS_append (s : Sto) (l l' : Items) : runS s (l ++ l') = runS (runS s l) l' := by
  induction l generalizing s with
  | nil => rfl
  | cons x r ih => exact ih _
theorem runE_congr {e e' : Env} {t : Nat} (h : e.get t = e'.get t) : ∀ (l : Items), DstOk l → (runE e l).get t = (runE e' l).get t := by
  intro l
  induction l generalizing e e' with
  | nil => intro _; exact h
  | cons x r ih => exact fun hd => ih (get_put_congr (hd x (by simp)) h) fun y hy => hd y (by simp [hy])
theorem runS_congr {s s' : Sto} (h : ∀ id, sget s id = sget s' id) (l : Items) : ∀ id, sget (runS s l) id = sget (runS s' l) id := by
  induction l generalizing s s' with
  | nil => exact h
  | cons x r ih => exact ih fun id => by rw [sget_eff, sget_eff, h id]
theorem runE_ne {e : Env} {t : Nat} : ∀ (l : Items), DstOk l → (∀ y ∈ l, y.1.dst ≠ some t) → (runE e l).get t = e.get t := by
  intro l
  induction l generalizing e with
  | nil => intro _ _; rfl
  | cons x r ih =>
    intro hd h
    simp only [runE]
    rw [ih (fun y hy => hd y (by simp [hy])) fun y hy => h y (by simp [hy]), get_put_ne (hd x (by simp)) (h x (by simp))]
theorem runS_ne {s : Sto} {id : Id} : ∀ (l : Items), (∀ y ∈ l, ¬ touches y.2 id) → sget (runS s l) id = sget s id := by
  intro l
  induction l generalizing s with
  | nil => intro _; rfl
  | cons x r ih =>
    intro h
    simp only [runS]
    rw [ih fun y hy => h y (by simp [hy]), sget_eff_ne (h x (by simp))]
theorem runE_insert {x : Oper × Rec} (hx : ∀ i, x.1.dst = some i → i < most) : ∀ (l : Items) (e : Env), DstOk l → (∀ y ∈ l, ∀ i, x.1.dst = some i → y.1.dst ≠ some i) → ∀ t, (runE (put e x.1.dst x.2.v) l).get t = (put (runE e l) x.1.dst x.2.v).get t
  | [], e, _, _, t => rfl
  | y :: r, e, hd, h, t => by
    simp only [runE]
    have hd' : DstOk r := fun z hz => hd z (by simp [hz])
    rw [← runE_insert hx r _ hd' (fun z hz => h z (by simp [hz])) t]
    exact runE_congr (put_comm hx (hd y (by simp)) (h y (by simp)) t) r hd'
theorem runS_insert {x : Oper × Rec} : ∀ (l : Items) (s : Sto), (∀ y ∈ l, ∀ id, touches x.2 id → ¬ touches y.2 id) → ∀ id, sget (runS (eff s x.2) l) id = sget (eff (runS s l) x.2) id
  | [], s, _, id => rfl
  | y :: r, s, h, id => by
    simp only [runS]
    rw [← runS_insert r (eff s y.2) (fun z hz => h z (by simp [hz])) id]
    refine runS_congr (fun id => ?_) r id
    by_cases hx : touches x.2 id
    · have hy := h y (by simp) id hx
      rw [sget_eff_ne hy, sget_eff, sget_eff, sget_eff_ne hy]
    · rw [sget_eff_ne hx, sget_eff _ y.2, sget_eff_ne hx, ← sget_eff]

/-- the items of a set of numbers -/
def sel (S : Nat → Bool) : Nat → Items → Items
  | _, [] => []
  | k, x :: r => if S k then x :: sel S (k + 1) r else sel S (k + 1) r
theorem sel_append (S : Nat → Bool) : ∀ (k : Nat) (l l' : Items), sel S k (l ++ l') = sel S k l ++ sel S (k + l.length) l'
  | k, [], l' => by simp [sel]
  | k, x :: r, l' => by
    simp only [List.cons_append, sel, sel_append S (k + 1) r l', List.length_cons]
    rw [show k + 1 + r.length = k + (r.length + 1) by omega]
    split <;> simp
theorem sel_congr {S S' : Nat → Bool} : ∀ (k : Nat) (l : Items), (∀ i, k ≤ i → i < k + l.length → S i = S' i) → sel S k l = sel S' k l
  | k, [], _ => rfl
  | k, x :: r, h => by
    simp only [sel, h k (Nat.le_refl k) (by simp)]
    rw [sel_congr (k + 1) r fun i h1 h2 => h i (by omega) (by simp at h2 ⊢; omega)]
theorem mem_sel {S : Nat → Bool} : ∀ {k : Nat} {l : Items} {y : Oper × Rec}, y ∈ sel S k l → ∃ i : Nat, l[i]? = some y ∧ S (k + i) = true
  | k, [], y, h => by simp [sel] at h
  | k, x :: r, y, h => by
    simp only [sel] at h
    by_cases hs : S k = true
    · rw [if_pos hs] at h
      rcases List.mem_cons.1 h with rfl | h
      · exact ⟨0, rfl, hs⟩
      · obtain ⟨i, h1, h2⟩ := mem_sel h
        exact ⟨i + 1, by simpa using h1, by rw [show k + (i + 1) = k + 1 + i by omega]; exact h2⟩
    · rw [if_neg hs] at h
      obtain ⟨i, h1, h2⟩ := mem_sel h
      exact ⟨i + 1, by simpa using h1, by rw [show k + (i + 1) = k + 1 + i by omega]; exact h2⟩
theorem sel_all {S : Nat → Bool} : ∀ (k : Nat) (l : Items), (∀ i, k ≤ i → i < k + l.length → S i = true) → sel S k l = l
  | k, [], _ => rfl
  | k, x :: r, h => by
    simp only [sel, h k (Nat.le_refl k) (by simp), if_true]
    rw [sel_all (k + 1) r fun i h1 h2 => h i (by omega) (by simp at h2 ⊢; omega)]
theorem sel_none {S : Nat → Bool} : ∀ (k : Nat) (l : Items), (∀ i, k ≤ i → i < k + l.length → S i = false) → sel S k l = []
  | k, [], _ => rfl
  | k, x :: r, h => by
    simp only [sel, h k (Nat.le_refl k) (by simp), Bool.false_eq_true, if_false]
    rw [sel_none (k + 1) r fun i h1 h2 => h i (by omega) (by simp at h2 ⊢; omega)]
theorem sel_dst {S : Nat → Bool} {k : Nat} {l : Items} (h : DstOk l) : DstOk (sel S k l) := by
  intro y hy
  obtain ⟨i, h1, _⟩ := mem_sel hy
  exact h y (List.mem_of_getElem? h1)
theorem runE_sel {S : Nat → Bool} {t : Nat} : ∀ (k : Nat) (l : Items) (e e' : Env), DstOk l → e.get t = e'.get t → (∀ (i : Nat) (y : Oper × Rec), l[i]? = some y → S (k + i) = false → y.1.dst ≠ some t) →
    (runE e (sel S k l)).get t = (runE e' l).get t
  | k, [], e, e', _, h, _ => h
  | k, x :: r, e, e', hd, h, hh => by
    have hd' : DstOk r := fun z hz => hd z (by simp [hz])
    simp only [sel, runE]
    by_cases hs : S k = true
    · rw [if_pos hs]
      simp only [runE]
      exact runE_sel (k + 1) r _ _ hd' (get_put_congr (hd x (by simp)) h) fun i y hi hy => hh (i + 1) y (by simpa using hi) (by rw [show k + (i + 1) = k + 1 + i by omega]; exact hy)
    · rw [if_neg hs]
      refine runE_sel (k + 1) r _ _ hd' ?_ fun i y hi hy => hh (i + 1) y (by simpa using hi) (by rw [show k + (i + 1) = k + 1 + i by omega]; exact hy)
      rw [get_put_ne (hd x (by simp)) (hh 0 x rfl (by simpa using hs)), h]
theorem runS_sel {S : Nat → Bool} {id : Id} : ∀ (k : Nat) (l : Items) (s s' : Sto), sget s id = sget s' id → (∀ (i : Nat) (y : Oper × Rec), l[i]? = some y → S (k + i) = false → ¬ touches y.2 id) →
    sget (runS s (sel S k l)) id = sget (runS s' l) id
  | k, [], s, s', h, _ => h
  | k, x :: r, s, s', h, hh => by
    simp only [sel, runS]
    by_cases hs : S k = true
    · rw [if_pos hs]
      simp only [runS]
      exact runS_sel (k + 1) r _ _ (by rw [sget_eff, sget_eff, h]) fun i y hi hy => hh (i + 1) y (by simpa using hi) (by rw [show k + (i + 1) = k + 1 + i by omega]; exact hy)
    · rw [if_neg hs]
      refine runS_sel (k + 1) r _ _ ?_ fun i y hi hy => hh (i + 1) y (by simpa using hi) (by rw [show k + (i + 1) = k + 1 + i by omega]; exact hy)
      rw [sget_eff_ne (hh 0 x rfl (by simpa using hs)), h]

/-! ### the evaluation in the text's order -/
def GoodI (c : Ctx) (run : Caller) (all : List Oper) (n : Nat) (o : Oper) (R : Rec) (e : Env) (s : Sto) : Prop :=
  (wanted all o e = some true ∧ exec c run o.op e (sget s) n = some R) ∨ (wanted all o e = some false ∧ R = noRec)
def Ev (c : Ctx) (run : Caller) (all : List Oper) : Nat → Items → Env → Sto → Prop
  | n, [], e, s => True
  | n, x :: r, e, s => GoodI c run all n x.1 x.2 e s ∧ Ev c run all (n + 1) r (put e x.1.dst x.2.v) (eff s x.2)
def dirtI (dirty : List Nat) : Items → List Nat
  | [] => dirty
  | x :: r => dirtI (addDirty dirty x.2.del) r

theorem eff_no (s : Sto) : eff s noRec = s := rfl
theorem runD_ev {c : Ctx} {run : Caller} {N : Nat} {all : List Oper} : ∀ (l : List Oper) {e : Env} {s : Sto} {n : Nat} {dirty : List Nat} {st' : St} {rs : List Rec}, runD c run N all l ⟨e, s, n, dirty⟩ = some (st', rs) →
    rs.length = l.length ∧ Ev c run all n (l.zip rs) e s ∧ (∀ o ∈ l, dstOk N o.dst = true) ∧ st'.e = runE e (l.zip rs) ∧ st'.s = runS s (l.zip rs) ∧ st'.n = n + l.length ∧ st'.dirty = dirtI dirty (l.zip rs)
  | [], e, s, n, dirty, st', rs, h => by
    simp only [runD, Option.some.injEq, Prod.mk.injEq] at h
    obtain ⟨rfl, rfl⟩ := h
    exact ⟨rfl, trivial, by simp, rfl, rfl, rfl, rfl⟩
  | o :: r, e, s, n, dirty, st', rs, h => by
    simp only [runD] at h
    split at h
    · rename_i hw hdst
      split at h
      · rename_i T hT
        split at h
        · rename_i st2 rs2 h2
          simp only [Option.some.injEq, Prod.mk.injEq] at h
          obtain ⟨rfl, rfl⟩ := h
          obtain ⟨a1, a2, a3, a4, a5, a6, a7⟩ := runD_ev r h2
          refine ⟨by simp [a1], ⟨.inl ⟨hw, hT⟩, a2⟩, ?_, a4, a5, by rw [a6]; simp; omega, a7⟩
          intro o' ho'
          rcases List.mem_cons.1 ho' with rfl | ho'
          · exact hdst
          · exact a3 o' ho'
        · cases h
      · cases h
    · rename_i hw hdst
      split at h
      · rename_i st2 rs2 h2
        simp only [Option.some.injEq, Prod.mk.injEq] at h
        obtain ⟨rfl, rfl⟩ := h
        obtain ⟨a1, a2, a3, a4, a5, a6, a7⟩ := runD_ev r h2
        refine ⟨by simp [a1], ⟨.inr ⟨hw, rfl⟩, a2⟩, ?_, a4, a5, by rw [a6]; simp; omega, a7⟩
        intro o' ho'
        rcases List.mem_cons.1 ho' with rfl | ho'
        · exact hdst
        · exact a3 o' ho'
      · cases h
    · cases h
theorem Ev.at {c : Ctx} {run : Caller} {all : List Oper} : ∀ {Z : Items} {n : Nat} {e : Env} {s : Sto}, Ev c run all n Z e s → ∀ (pre : Items) (x : Oper × Rec) (post : Items), Z = pre ++ x :: post → GoodI c run all (n + pre.length) x.1 x.2 (runE e pre) (runS s pre)
  | Z, n, e, s, h, [], x, post, hz => by subst hz; exact h.1
  | Z, n, e, s, h, y :: pre, x, post, hz => by
    subst hz
    have := Ev.at h.2 pre x post rfl
    rw [show n + (y :: pre).length = n + 1 + pre.length by simp; omega]
    exact this
theorem mem_dirtI : ∀ (l : Items) (dirty : List Nat) (j : Nat), j ∈ dirtI dirty l ↔ j ∈ dirty ∨ ∃ x ∈ l, (0, j) ∈ x.2.del
  | [], dirty, j => by simp [dirtI]
  | x :: r, dirty, j => by
    simp only [dirtI, mem_dirtI r, mem_addDirty, List.mem_cons, exists_eq_or_imp, or_assoc]

theorem hits_false {l m : List Id} (h : hits l m = false) : ∀ i ∈ l, i ∉ m := by
  induction l with
  | nil => intro i hi; cases hi
  | cons a r ih =>
    simp only [hits] at h
    cases hm : DW.memI m a
    · rw [hm] at h
      intro i hi
      rcases List.mem_cons.1 hi with rfl | hi
      · rw [← memI_iff, hm]; simp
      · exact ih h i hi
    · rw [hm] at h; cases h

theorem apartAll_spec {all : List Oper} {bef : List Nat} {o : Oper} {T : Rec} : ∀ {os : List Oper} {ts : List Rec} {k : Nat}, apartAll all bef o T k os ts = true → ∀ (i : Nat) (o' : Oper) (T' : Rec), os[i]? = some o' → ts[i]? = some T' →
    (k + i ∈ bef ∨ apartOps all o' T' o T = true)
  | [], ts, k, h, i, o', T', h1, h2 => by simp at h1
  | _ :: _, [], k, h, i, o', T', h1, h2 => by simp at h2
  | p :: os, q :: ts, k, h, i, o', T', h1, h2 => by
    simp only [apartAll] at h
    have key : apartAll all bef o T (k + 1) os ts = true ∧ (k ∈ bef ∨ apartOps all p q o T = true) := by
      split at h
      · rename_i hm; exact ⟨h, .inl ((mem1_iff _ _).1 hm)⟩
      · split at h
        · rename_i ha; exact ⟨h, .inr ha⟩
        · cases h
    cases i with
    | zero =>
      simp at h1 h2
      subst h1; subst h2
      simpa using key.2
    | succ i =>
      have := apartAll_spec key.1 i o' T' (by simpa using h1) (by simpa using h2)
      rw [show k + (i + 1) = k + 1 + i by omega]
      exact this

theorem orderFree_spec {all : List Oper} : ∀ {r : List Oper} {q : List Rec} {bs : List (List Nat)} {os : List Oper} {ts : List Rec}, orderFree all os ts bs r q = true →
    r.length = q.length ∧ ∀ (k : Nat) (o : Oper) (T : Rec), r[k]? = some o → q[k]? = some T → ∃ b, bs[k]? = some b ∧ apartAll all b o T 0 (os ++ r.take k) (ts ++ q.take k) = true
  | [], [], [], os, ts, h => ⟨rfl, fun k o T h1 => by simp at h1⟩
  | o :: r, T :: q, b :: bs, os, ts, h => by
    simp only [orderFree] at h
    split at h
    · rename_i ha
      obtain ⟨hl, hh⟩ := orderFree_spec h
      refine ⟨by simp [hl], fun k o' T' h1 h2 => ?_⟩
      cases k with
      | zero =>
        simp at h1 h2
        subst h1; subst h2
        exact ⟨b, rfl, by simpa using ha⟩
      | succ k =>
        obtain ⟨b', hb, hh'⟩ := hh k o' T' (by simpa using h1) (by simpa using h2)
        exact ⟨b', by simpa using hb, by simpa using hh'⟩
    · cases h
  | [], [], _ :: _, os, ts, h => by simp [orderFree] at h
  | [], _ :: _, _, os, ts, h => by cases ‹List (List Nat)› <;> simp [orderFree] at h
  | _ :: _, [], _, os, ts, h => by cases ‹List (List Nat)› <;> simp [orderFree] at h
  | _ :: _, _ :: _, [], os, ts, h => by simp [orderFree] at h

theorem always_binds (x : Edge) : always x.ground = Region.binds .any x := by
  unfold always Region.binds
  cases x.ground <;> rfl

theorem befOf_mem {acc : List (List Nat)} : ∀ {l : List Edge} {i : Nat}, i ∈ befOf acc l → ∃ x ∈ l, always x.ground = true ∧ (i = x.on ∨ i ∈ nthL acc x.on)
  | [], i, h => by simp [befOf] at h
  | x :: r, i, h => by
    simp only [befOf] at h
    split at h
    · rename_i hx
      rcases List.mem_cons.1 h with rfl | h
      · exact ⟨x, by simp, hx, .inl rfl⟩
      · rcases List.mem_append.1 h with h | h
        · exact ⟨x, by simp, hx, .inr h⟩
        · obtain ⟨y, h1, h2⟩ := befOf_mem h
          exact ⟨y, by simp [h1], h2⟩
    · obtain ⟨y, h1, h2⟩ := befOf_mem h
      exact ⟨y, by simp [h1], h2⟩

theorem nthL_eq : ∀ (l : List (List Nat)) (i : Nat), nthL l i = (l[i]?).getD []
  | [], i => by simp [nthL]
  | a :: r, 0 => by simp [nthL]
  | a :: r, i + 1 => by simp [nthL, nthL_eq r i]

theorem befs_spec : ∀ (l : List Oper) (acc : List (List Nat)), ∃ t, befs acc l = acc ++ t ∧ ∀ (k : Nat) (o : Oper), l[k]? = some o → (befs acc l)[acc.length + k]? = some (befOf ((befs acc l).take (acc.length + k)) o.after.toList)
  | [], acc => ⟨[], by simp [befs], fun k o h => by simp at h⟩
  | o :: r, acc => by
    obtain ⟨t, h1, h2⟩ := befs_spec r (acc ++ [befOf acc o.after.toList])
    refine ⟨befOf acc o.after.toList :: t, by simp [befs, h1], fun k o' hk => ?_⟩
    simp only [befs]
    cases k with
    | zero =>
      simp at hk
      subst hk
      rw [h1]
      simp
    | succ k =>
      have := h2 k o' (by simpa using hk)
      simp only [List.length_append, List.length_singleton] at this
      rw [show acc.length + (k + 1) = acc.length + 1 + k by omega]
      exact this

/-- the operations of S come ahead of nothing outside -/
def Down (L : List Oper) (S : Nat → Bool) : Prop := ∀ (k : Nat) (o : Oper), S k = true → L[k]? = some o → ∀ x ∈ o.after, Region.binds .any x = true → S x.on = true

theorem bef_in {L : List Oper} {S : Nat → Bool} (hS : Down L S) : ∀ (k : Nat) (o : Oper) (b : List Nat), L[k]? = some o → (befs [] L)[k]? = some b → (∀ x ∈ o.after, Region.binds .any x = true → S x.on = true) → ∀ i ∈ b, S i = true := by
  intro k
  induction k using Nat.strongRecOn with
  | _ k ih =>
    intro o b ho hb hx i hi
    obtain ⟨t, h1, h2⟩ := befs_spec L []
    have hk := h2 k o ho
    simp only [List.length_nil, Nat.zero_add] at hk
    rw [hb] at hk
    simp only [Option.some.injEq] at hk
    rw [hk] at hi
    obtain ⟨x, hxm, hal, hc⟩ := befOf_mem hi
    have hbind : Region.binds .any x = true := by rw [← always_binds]; exact hal
    have hSx := hx x (by simpa using hxm) hbind
    rcases hc with rfl | hc
    · exact hSx
    · rw [nthL_eq, List.getElem?_take] at hc
      by_cases hlt : x.on < k
      · rw [if_pos hlt] at hc
        cases hbx : (befs [] L)[x.on]? with
        | none => rw [hbx] at hc; simp at hc
        | some b' =>
          rw [hbx] at hc
          have hlx : x.on < L.length := by
            have := (List.getElem?_eq_some_iff.1 ho).1
            omega
          have hox := List.getElem?_eq_getElem hlx
          exact ih x.on hlt _ b' hox hbx (hS x.on _ hSx hox) i (by simpa using hc)
      · rw [if_neg hlt] at hc; simp at hc

theorem apartOps_spec {all : List Oper} {o o' : Oper} {T T' : Rec} (h : apartOps all o T o' T' = true) :
    (∀ t ∈ slotsOf all o', o.dst ≠ some t) ∧ (∀ t ∈ slotsOf all o, o'.dst ≠ some t) ∧ (∀ i, o.dst = some i → o'.dst ≠ some i) ∧ (∀ id, touches T id → ¬ touches T' id) ∧ (∀ id ∈ T'.acc, ¬ touches T id) ∧ (∀ id ∈ T.acc, ¬ touches T' id) := by
  unfold apartOps at h
  split at h
  · rename_i h1 h2 h3 h4 h5
    have m1 : ∀ {l : List Nat} {d : Option Nat}, memO l d = false → ∀ t ∈ l, d ≠ some t := by
      intro l d hm t ht hd
      subst hd
      simp only [memO] at hm
      rw [(mem1_iff _ _).2 ht] at hm
      cases hm
    have h4' := hits_false h4
    have h5' := hits_false h5
    have ht : ∀ (R : Rec) id, touches R id ↔ id ∈ R.del ++ keys R.new := by intro R id; simp [touches]
    refine ⟨m1 h1, m1 h2, ?_, ?_, ?_, ?_⟩
    · intro i hi hi'
      rw [hi, hi'] at h3
      simp [sameO] at h3
    · intro id hx hy
      have := h4' id ((ht _ _).1 hx)
      simp only [List.mem_append, not_or] at this
      rcases hy with hy | hy
      · exact this.2.1 hy
      · exact this.2.2 hy
    · intro id hid hx
      have := h4' id ((ht _ _).1 hx)
      simp only [List.mem_append, not_or] at this
      exact this.1 hid
    · intro id hid hx
      exact h5' id ((ht _ _).1 hx) hid
  · cases h

theorem edgesBack_spec {n : Nat} : ∀ {l : List Edge}, edgesBack n l = true → ∀ x ∈ l, always x.ground = true → x.on < n
  | [], h, x, hx, _ => by cases hx
  | y :: r, h, x, hx, ha => by
    simp only [edgesBack] at h
    rcases List.mem_cons.1 hx with rfl | hx
    · rw [ha] at h
      simp only at h
      split at h
      · rename_i hb; simpa using hb
      · cases h
    · split at h
      · split at h
        · exact edgesBack_spec h x hx ha
        · cases h
      · exact edgesBack_spec h x hx ha
theorem backward_spec : ∀ {l : List Oper} {n : Nat}, backward n l = true → ∀ (i : Nat) (o : Oper), l[i]? = some o → ∀ x ∈ o.after, always x.ground = true → x.on < n + i
  | [], n, h, i, o, hi => by simp at hi
  | p :: r, n, h, i, o, hi => by
    simp only [backward] at h
    split at h
    · rename_i ha
      cases i with
      | zero =>
        simp at hi
        subst hi
        intro x hx hal
        exact edgesBack_spec ha x (by simpa using hx) hal
      | succ i =>
        intro x hx hal
        have := backward_spec h i o (by simpa using hi) x hx hal
        omega
    · cases h

theorem tmpsOf_mem {t : Nat} : ∀ {l : List Operand}, Operand.tmp t ∈ l → t ∈ tmpsOf l
  | [], h => by cases h
  | x :: r, h => by
    rcases List.mem_cons.1 h with h | h
    · subst h; simp [tmpsOf]
    · have ih := tmpsOf_mem h
      cases x <;> simp [tmpsOf, ih]
theorem dstOf_dw : ∀ (l : List Oper) (j : Nat), DW.dstOf l j = dstOf l j
  | [], j => rfl
  | o :: r, 0 => rfl
  | o :: r, j + 1 => dstOf_dw r j
theorem slots_opnd {all : List Oper} {o : Oper} {t : Nat} (h : Operand.tmp t ∈ o.op.operands) : t ∈ slotsOf all o := by
  have := tmpsOf_mem (l := o.op.operands.toList) (by simpa using h)
  unfold slotsOf
  split
  · exact this
  · split
    · simp [this]
    · exact this

theorem wanted_congr {all : List Oper} {o : Oper} {e e' : Env} (h : ∀ t ∈ slotsOf all o, e'.get t = e.get t) : wanted all o e' = wanted all o e := by
  unfold wanted
  cases hg : o.guard with
  | none => rfl
  | some p =>
    obtain ⟨j, want⟩ := p
    simp only
    cases hd : dstOf all j with
    | none => rfl
    | some d =>
      simp only
      rw [h d (by simp [slotsOf, hg, dstOf_dw, hd])]
theorem opnd_congr {G : Nat → Option (List D)} {all : List Oper} {o : Oper} {e e' : Env} (h : ∀ t ∈ slotsOf all o, e'.get t = e.get t) : ∀ x ∈ o.op.operands, opnd G e' x = opnd G e x := by
  intro x hx
  cases x with
  | tmp t => exact h t (slots_opnd hx)
  | _ => rfl

theorem countP_set : ∀ (l : List Bool) (i : Nat), l[i]? = some false → (l.set i true).countP (· == false) + 1 = l.countP (· == false)
  | [], i, h => by simp at h
  | b :: r, 0, h => by
    simp at h
    subst h
    simp
  | b :: r, i + 1, h => by
    have := countP_set r i (by simpa using h)
    simp only [List.set_cons_succ, List.countP_cons]
    omega
end Go.CR

/- A region that draws its order: its run is sound. -/
namespace Go.CR
open Go
open Go.DW (D TT TI TK RV RVL RI RIL RILL ideq ideq_iff ideq_false TOk TRow GOk zerosAre always befs befOf nthL slotsOf tmpsOf memO sameO hits mem1)

section
variable {P : Program} {c : Ctx} {N : Nat} {w0 : World} {A : Nat → Prop} {s0 : Sto} {β0 : Id → Place} {w : World} {S : Nat → Prop} {s : Sto} {β : Id → Place} {e : Env} {a : Act} {Dp : Nat → Prop} {o : Oper} {d : Nat} {R : Rec} {Q : Exit → Act → World → Prop}

theorem Rel.congr (h : Rel c.T N w0 A s0 β0 w S s β e a Dp) {s' : Sto} {e' : Env} {S' Dp' : Nat → Prop} (hs : ∀ id, sget s' id = sget s id) (he : ∀ t, e'.get t = e.get t) (hS : ∀ n, S n → S' n) (hD : ∀ j, Dp j ↔ Dp' j) : Rel c.T N w0 A s0 β0 w S' s' β e' a Dp' := by
  have hD : Dp = Dp' := funext fun j => propext (hD j)
  subst hD
  have hag : Agrees S s s' β β := fun id o' _ ho' => ⟨o', by rw [← hs]; exact ho', rfl, rfl⟩
  have hl : ∀ id, Live s' id ↔ Live s id := fun id => by simp [Live, hs]
  refine { h with env := fun t => by rw [he]; exact (h.env t).mono (fun _ _ => rfl) hS hag, obj := fun id o ho => ?_, inj := fun i j o o' hi hj => h.inj i j o o' (by rw [← hs]; exact hi) (by rw [← hs]; exact hj), fresh := fun i hi => h.fresh i ((hl i).1 hi), same := fun j hj => by rw [hs]; exact h.same j hj, keepT := fun j o ho => h.keepT j o (by rw [← hs]; exact ho), zero := hS _ h.zero }
  rw [hs] at ho
  obtain ⟨h1, h2⟩ := h.obj id o ho
  exact ⟨h1.mono (fun _ _ => rfl) hS hag rfl rfl, hS _ h2⟩

/-- the numbers that are issued, the objects that are changed -/
def SOf (n : Nat) (L : Nat → Bool) (k : Nat) : Prop := k < n ∨ ∃ i, k = n + i ∧ L i = true
def DOf (dirty : List Nat) (l : Items) (j : Nat) : Prop := j ∈ dirty ∨ ∃ x ∈ l, (0, j) ∈ x.2.del

theorem draw_any {run : Caller} (H : Env0 P c run w0 A) {ops : Array Oper} {n : Nat} {dirty : List Nat} {Rs : List Rec} (hback : backward 0 ops.toList = true) (hof : orderFree ops.toList [] [] (befs [] ops.toList) ops.toList Rs = true) {e1 : Env} {s1 : Sto} (hN : N ≤ most)
    (hEv : Ev c run ops.toList n (ops.toList.zip Rs) e1 s1) (hdst : ∀ o ∈ ops.toList, dstOk N o.dst = true)
    (hn : ∀ a w β, Rel c.T N w0 A s0 β0 w (fun k => k < n + ops.size) (runS s1 (ops.toList.zip Rs)) β (runE e1 (ops.toList.zip Rs)) a (fun j => j ∈ dirtI dirty (ops.toList.zip Rs)) → Q .normal a w) :
    ∀ (fuel : Nat) (listed : Array Bool) (a : Act) (w : World) (β : Id → Place) (e : Env) (s : Sto), Rel c.T N w0 A s0 β0 w (SOf n (fun i => listed.getD i false)) s β e a (DOf dirty (sel (fun i => listed.getD i false) 0 (ops.toList.zip Rs))) →
      (∀ t, e.get t = (runE e1 (sel (fun i => listed.getD i false) 0 (ops.toList.zip Rs))).get t) → (∀ id, sget s id = sget (runS s1 (sel (fun i => listed.getD i false) 0 (ops.toList.zip Rs))) id) →
      listed.size = ops.size → Down ops.toList (fun i => listed.getD i false) → listed.toList.countP (· == false) ≤ fuel → wpAny P .any ops Q fuel listed a w := by
  obtain ⟨hlen, hpair⟩ := orderFree_spec hof
  have hZd : DstOk (ops.toList.zip Rs) := by
    intro y hy i hi
    have hm := (List.of_mem_zip (a := y.1) (b := y.2) (by simpa using hy)).1
    have := hdst y.1 hm
    rw [hi] at this
    exact Nat.lt_of_lt_of_le (dstOk_some this) hN
  -- when nothing is ready, all is done
  have hdone : ∀ (listed : Array Bool), listed.size = ops.size → Region.ready .any ops listed = [] → ∀ i, i < ops.size → listed.getD i false = true := by
    intro listed hsz hr i
    induction i using Nat.strongRecOn with
    | _ i ih =>
      intro hi
      refine Classical.byContradiction fun hne => ?_
      have ho := Array.getElem?_eq_getElem hi
      have : i ∈ Region.ready .any ops listed := by
        rw [mem_ready]
        have hl : i < listed.size := by omega
        refine ⟨?_, ops[i], ho, fun x hx hb => ?_⟩
        · simp [hl] at hne ⊢; exact hne
        · have hlt := backward_spec hback i ops[i] (by simp [hi]) x hx (by rw [always_binds]; exact hb)
          exact ih x.on (by omega) (by omega)
      rw [hr] at this
      cases this
  have hend : ∀ (listed : Array Bool) (a : Act) (w : World) (β : Id → Place) (e : Env) (s : Sto), Rel c.T N w0 A s0 β0 w (SOf n (fun i => listed.getD i false)) s β e a (DOf dirty (sel (fun i => listed.getD i false) 0 (ops.toList.zip Rs))) →
      (∀ t, e.get t = (runE e1 (sel (fun i => listed.getD i false) 0 (ops.toList.zip Rs))).get t) → (∀ id, sget s id = sget (runS s1 (sel (fun i => listed.getD i false) 0 (ops.toList.zip Rs))) id) →
      listed.size = ops.size → Region.ready .any ops listed = [] → Q .normal a w := by
    intro listed a w β e s h he hs hsz hr
    have hall := sel_all (S := fun i => listed.getD i false) 0 (ops.toList.zip Rs) (fun i _ hi => hdone listed hsz hr i (by simp at hi; omega))
    rw [hall] at he hs h
    refine hn a w β (h.congr (fun i => (hs i).symm) (fun t => (he t).symm) ?_ ?_)
    · rintro k (hk | ⟨i, rfl, hi⟩)
      · omega
      · have : i < listed.size := by
          rcases Nat.lt_or_ge i listed.size with h | h
          · exact h
          · simp [Array.getElem?_eq_none h] at hi
        omega
    · intro j
      exact (mem_dirtI _ _ _).symm
  intro fuel
  induction fuel with
  | zero =>
    intro listed a w β e s h he hs hsz hd hc
    have hr : Region.ready .any ops listed = [] := by
      cases hr : Region.ready .any ops listed with
      | nil => rfl
      | cons i r =>
        have hi : i ∈ Region.ready .any ops listed := by rw [hr]; simp
        rw [mem_ready] at hi
        have hil : i < listed.size := by
          rcases Nat.lt_or_ge i listed.size with h | h
          · exact h
          · have := hi.1; simp [Array.getElem?_eq_none h] at this
        have hm : false ∈ listed.toList := by
          have := hi.1
          simp [hil] at this
          rw [← this]; simp
        have := (List.countP_pos_iff (p := fun x => x == false)).2 ⟨false, hm, rfl⟩
        simp only [Nat.le_zero] at hc
        have hc' : listed.toList.countP (fun x => x == false) = 0 := hc
        omega
    exact ⟨hr, hend listed a w β e s h he hs hsz hr⟩
  | succ fuel ih =>
    intro listed a w β e s h he hs hsz hd hc
    refine ⟨fun hr => hend listed a w β e s h he hs hsz hr, fun k hk => ?_⟩
    rw [mem_ready] at hk
    obtain ⟨hk0, o, ho, hedge⟩ := hk
    have hkl : k < listed.size := by
      rcases Nat.lt_or_ge k listed.size with h | h
      · exact h
      · simp [Array.getElem?_eq_none h] at hk0
    have hSk : listed.getD k false = false := by simp [hkl] at hk0 ⊢; exact hk0
    have hol : ops.toList[k]? = some o := by simpa using ho
    have hkR : k < Rs.length := by rw [← hlen]; simp; omega
    have hR := List.getElem?_eq_getElem hkR
    generalize Rs[k] = R at hR
    have hZ : (ops.toList.zip Rs)[k]? = some (o, R) := by
      rw [List.getElem?_zip_eq_some]
      exact ⟨hol, hR⟩
    have hkZ : k < (ops.toList.zip Rs).length := (List.getElem?_eq_some_iff.1 hZ).1
    have hsplit : ops.toList.zip Rs = (ops.toList.zip Rs).take k ++ (o, R) :: (ops.toList.zip Rs).drop (k + 1) := by
      have h1 := (List.getElem?_eq_some_iff.1 hZ).2
      rw [← h1, ← List.drop_eq_getElem_cons hkZ, List.take_append_drop]
    have hpl : ((ops.toList.zip Rs).take k).length = k := by simp at hkZ ⊢; omega
    have hgood := hEv.at _ _ _ hsplit
    rw [hpl] at hgood
    have hod := hdst o (List.mem_of_getElem? hol)
    have hdt : DstOk ((ops.toList.zip Rs).take k) := fun y hy => hZd y (List.mem_of_mem_take hy)
    have hdd : DstOk ((ops.toList.zip Rs).drop (k + 1)) := fun y hy => hZd y (List.mem_of_mem_drop hy)
    have hdo : ∀ i, o.dst = some i → i < most := hZd (o, R) (List.mem_of_getElem? hZ)
    -- the pairs
    have item : ∀ (i : Nat) (y : Oper × Rec), (ops.toList.zip Rs)[i]? = some y → ops.toList[i]? = some y.1 ∧ Rs[i]? = some y.2 := by
      intro i y hy
      have := (List.getElem?_zip_eq_some).1 hy
      exact this
    have pair : ∀ (i j : Nat) (x y : Oper × Rec), (ops.toList.zip Rs)[i]? = some x → (ops.toList.zip Rs)[j]? = some y → i < j →
        ((∃ b, (befs [] ops.toList)[j]? = some b ∧ i ∈ b) ∨ apartOps ops.toList x.1 x.2 y.1 y.2 = true) := by
      intro i j x y hx hy hij
      obtain ⟨x1, x2⟩ := item i x hx
      obtain ⟨y1, y2⟩ := item j y hy
      obtain ⟨b, hb, ha⟩ := hpair j y.1 y.2 y1 y2
      simp only [List.nil_append] at ha
      have h2 := apartAll_spec ha i x.1 x.2 (by rw [List.getElem?_take, if_pos hij]; exact x1) (by rw [List.getElem?_take, if_pos hij]; exact x2)
      exact h2.imp (fun hh => ⟨b, hb, by simpa using hh⟩) id
    have before : ∀ (i : Nat) (x : Oper × Rec), (ops.toList.zip Rs)[i]? = some x → i < k → listed.getD i false = false → apartOps ops.toList x.1 x.2 o R = true := by
      intro i x hx hik hS
      rcases pair i k x (o, R) hx hZ hik with ⟨b, hb, hib⟩ | h2
      · have : listed.getD i false = true := bef_in hd k o b hol hb (fun x hx hbb => hedge x hx hbb) i hib
        rw [hS] at this
        cases this
      · exact h2
    have behind : ∀ (i : Nat) (x : Oper × Rec), (ops.toList.zip Rs)[i]? = some x → k < i → listed.getD i false = true → apartOps ops.toList o R x.1 x.2 = true := by
      intro i x hx hik hS
      rcases pair k i (o, R) x hZ hx hik with ⟨b, hb, hib⟩ | h2
      · have : listed.getD k false = true := bef_in hd i x.1 b (item i x hx).1 hb (fun y hy hbb => hd i x.1 hS (item i x hx).1 y hy hbb) k hib
        rw [hSk] at this
        cases this
      · exact h2
    have inpre : ∀ (i : Nat) (y : Oper × Rec), ((ops.toList.zip Rs).take k)[i]? = some y → (ops.toList.zip Rs)[i]? = some y ∧ i < k := by
      intro i y hy
      rw [List.getElem?_take] at hy
      split at hy
      · rename_i hlt; exact ⟨hy, hlt⟩
      · cases hy
    have inpost : ∀ y ∈ sel (fun i => listed.getD i false) (k + 1) ((ops.toList.zip Rs).drop (k + 1)), ∃ i, (ops.toList.zip Rs)[i]? = some y ∧ k < i ∧ listed.getD i false = true := by
      intro y hy
      obtain ⟨i, h1, h2⟩ := mem_sel hy
      rw [List.getElem?_drop] at h1
      exact ⟨k + 1 + i, h1, by omega, h2⟩
    have hsel : sel (fun i => listed.getD i false) 0 (ops.toList.zip Rs) = sel (fun i => listed.getD i false) 0 ((ops.toList.zip Rs).take k) ++ sel (fun i => listed.getD i false) (k + 1) ((ops.toList.zip Rs).drop (k + 1)) := by
      conv => lhs; rw [hsplit]
      rw [sel_append, hpl]
      simp only [sel, Nat.zero_add, hSk, Bool.false_eq_true, if_false]
    have hsel' : sel (fun i => (listed.setIfInBounds k true).getD i false) 0 (ops.toList.zip Rs) = sel (fun i => listed.getD i false) 0 ((ops.toList.zip Rs).take k) ++ (o, R) :: sel (fun i => listed.getD i false) (k + 1) ((ops.toList.zip Rs).drop (k + 1)) := by
      conv => lhs; rw [hsplit]
      rw [sel_append, hpl]
      have hkk : (listed.setIfInBounds k true).getD k false = true := by simp [hkl]
      simp only [sel, Nat.zero_add, hkk, if_true]
      rw [sel_congr (S' := fun i => listed.getD i false) 0 _ (fun i _ hi => getD_set_ne false (by omega)), sel_congr (S' := fun i => listed.getD i false) (k + 1) _ (fun i hi _ => getD_set_ne false (by omega))]
    -- what the operation reads is as it was in the text's order
    have hslot : ∀ t ∈ slotsOf ops.toList o, e.get t = (runE e1 ((ops.toList.zip Rs).take k)).get t := by
      intro t ht
      rw [he, hsel, runE_append, runE_ne _ (sel_dst hdd) (fun y hy => ?_)]
      · refine runE_sel 0 _ e1 e1 hdt rfl fun i y hy hS => ?_
        obtain ⟨h1, h2⟩ := inpre i y hy
        exact (apartOps_spec (before i y h1 h2 (by simpa using hS))).1 t ht
      · obtain ⟨i, h1, h2, h3⟩ := inpost y hy
        exact (apartOps_spec (behind i y h1 h2 h3)).2.1 t ht
    have hobj : ∀ id ∈ R.acc, sget s id = sget (runS s1 ((ops.toList.zip Rs).take k)) id := by
      intro id hid
      rw [hs, hsel, runS_append, runS_ne _ (fun y hy => ?_)]
      · refine runS_sel 0 _ s1 s1 rfl fun i y hy hS => ?_
        obtain ⟨h1, h2⟩ := inpre i y hy
        exact (apartOps_spec (before i y h1 h2 (by simpa using hS))).2.2.2.2.1 id hid
      · obtain ⟨i, h1, h2, h3⟩ := inpost y hy
        exact (apartOps_spec (behind i y h1 h2 h3)).2.2.2.2.2 id hid
    -- and what is left behind it
    have hnext : ∀ (a' : Act) (w' : World) (β' : Id → Place) (S' Dp' : Nat → Prop), Rel c.T N w0 A s0 β0 w' S' (eff s R) β' (put e o.dst R.v) a' Dp' → (∀ x, S' x → SOf n (fun i => listed.getD i false) x ∨ x = n + k) → (∀ j, Dp' j ↔ (DOf dirty (sel (fun i => listed.getD i false) 0 (ops.toList.zip Rs)) j ∨ (0, j) ∈ R.del)) → wpAny P .any ops Q fuel (listed.setIfInBounds k true) a' w' := by
      intro a' w' β' S' Dp' hr hS' hD'
      have hset : ∀ t, (put e o.dst R.v).get t = (runE e1 (sel (fun i => (listed.setIfInBounds k true).getD i false) 0 (ops.toList.zip Rs))).get t := by
        intro t
        rw [hsel', runE_append]
        simp only [runE]
        have hi := runE_insert (x := (o, R)) hdo (sel (fun i => listed.getD i false) (k + 1) ((ops.toList.zip Rs).drop (k + 1))) (runE e1 (sel (fun i => listed.getD i false) 0 ((ops.toList.zip Rs).take k))) (sel_dst hdd) (fun y hy i hi => by
          obtain ⟨j, h1, h2, h3⟩ := inpost y hy
          exact (apartOps_spec (behind j y h1 h2 h3)).2.2.1 i hi) t
        simp only at hi
        rw [hi]
        refine get_put_congr hdo ?_
        rw [he, hsel, runE_append]
      have hsto : ∀ id, sget (eff s R) id = sget (runS s1 (sel (fun i => (listed.setIfInBounds k true).getD i false) 0 (ops.toList.zip Rs))) id := by
        intro id
        rw [hsel', runS_append]
        simp only [runS]
        have hi := runS_insert (x := (o, R)) (sel (fun i => listed.getD i false) (k + 1) ((ops.toList.zip Rs).drop (k + 1))) (runS s1 (sel (fun i => listed.getD i false) 0 ((ops.toList.zip Rs).take k))) (fun y hy i hi => by
          obtain ⟨j, h1, h2, h3⟩ := inpost y hy
          exact (apartOps_spec (behind j y h1 h2 h3)).2.2.2.1 i hi) id
        simp only at hi
        rw [hi, sget_eff, sget_eff, hs id, hsel, runS_append]
      refine ih (listed.setIfInBounds k true) a' w' β' _ _ (hr.congr (fun _ => rfl) (fun _ => rfl) ?_ ?_) hset hsto (by simpa using hsz) ?_ ?_
      · intro x hx
        rcases hS' x hx with (h1 | ⟨i, rfl, h1⟩) | rfl
        · exact .inl h1
        · exact .inr ⟨i, rfl, getD_set_true h1⟩
        · exact .inr ⟨k, rfl, by simp [hkl]⟩
      · intro j
        rw [hD', hsel', hsel]
        simp only [DOf, List.mem_append, List.mem_cons]
        constructor
        · rintro ((h1 | ⟨x, h1 | h1, h2⟩) | h1)
          · exact .inl h1
          · exact .inr ⟨x, .inl h1, h2⟩
          · exact .inr ⟨x, .inr (.inr h1), h2⟩
          · exact .inr ⟨(o, R), .inr (.inl rfl), h1⟩
        · rintro (h1 | ⟨x, h1 | rfl | h1, h2⟩)
          · exact .inl (.inl h1)
          · exact .inl (.inr ⟨x, .inl h1, h2⟩)
          · exact .inr h2
          · exact .inl (.inr ⟨x, .inr h1, h2⟩)
      · intro j o' hj ho' x hx hb
        by_cases hjk : k = j
        · subst hjk
          rw [hol] at ho'
          simp only [Option.some.injEq] at ho'
          subst ho'
          exact getD_set_true (hedge x hx hb)
        · simp only at hj
          rw [getD_set_ne false hjk] at hj
          exact getD_set_true (hd j o' hj ho' x hx hb)
      · have := countP_set listed.toList k (by simp [hkl]; simp [hkl] at hSk; exact hSk)
        rw [Array.toList_setIfInBounds]
        omega
    unfold wpOp
    simp only [ho]
    have hdn : ¬ SOf n (fun i => listed.getD i false) (n + k) := by
      rintro (h1 | ⟨i, h1, h2⟩)
      · omega
      · have : i = k := by omega
        subst this
        simp only [hSk] at h2
        cases h2
    rcases hgood with ⟨hw, hone⟩ | ⟨hw, hno⟩
    · have hw' := wanted_sound h (b := true) (by rw [wanted_congr hslot]; exact hw)
      rw [if_pos hw']
      refine .inl (exec_sound H h hdn hod (exec_local (opnd_congr hslot) hone hobj) ?_)
      intro a' w' β' hr
      exact hnext a' w' β' _ _ hr (fun x hx => hx) (fun j => Iff.rfl)
    · have hw' := wanted_sound h (b := false) (by rw [wanted_congr hslot]; exact hw)
      simp only at hno hw'
      subst hno
      rw [if_neg (by simp [hw'])]
      exact hnext _ _ β _ _ (h.put hod skip_vr) (fun x hx => .inl hx) (fun j => by simp [noRec])
end
end Go.CR

/- Code, functions: the closed interpreter is sound. -/
namespace Go.CR
open Go
open Go.DW (D TT TI TK RV RVL RI RIL RILL ideq ideq_iff ideq_false TOk TRow GOk zerosAre always befs befOf nthL slotsOf tmpsOf memO sameO hits mem1 X)

section
variable {P : Program} {c : Ctx} {N : Nat} {w0 : World} {A : Nat → Prop} {s0 : Sto} {β0 : Id → Place} {w : World} {S : Nat → Prop} {s : Sto} {β : Id → Place} {e : Env} {a : Act} {Dp : Nat → Prop} {o : Oper} {d : Nat} {R : Rec} {Q : Exit → Act → World → Prop}

/-- memory grows by nothing that is of interest -/
theorem Rel.world (h : Rel c.T N w0 A s0 β0 w S s β e a Dp) {w' : World} (hb : w'.heap = w.heap) (hos : w'.os = w.os) (ht : w'.tape = w.tape) (ho : w'.output = w.output) : Rel c.T N w0 A s0 β0 w' S s β e a Dp := by
  have hw : ∀ b : Nat, w'.heap[b]? = w.heap[b]? := fun b => by rw [hb]
  refine { h with env := fun t => (h.env t).mono (fun b _ => hw b) (fun _ h => h) (Agrees.refl S s β), obj := fun id o ho => ⟨(h.obj id o ho).1.mono (fun b _ => hw b) (fun _ h => h) (Agrees.refl S s β) rfl (hw _), (h.obj id o ho).2⟩, frame := fun b hb' hn => by rw [hw]; exact h.frame b hb' hn, hsize := by rw [hb]; exact h.hsize, os := hos.trans h.os, tape := ht.trans h.tape, output := ho.trans h.output }

/-- the state between two operations -/
abbrev At (c : Ctx) (N : Nat) (w0 : World) (A : Nat → Prop) (s0 : Sto) (β0 : Id → Place) (w : World) (β : Id → Place) (a : Act) (st : St) : Prop := Rel c.T N w0 A s0 β0 w (fun k => k < st.n) st.s β st.e a (fun j => j ∈ st.dirty)

theorem runDraw_sound {run : Caller} (hm : P.follows .mixedOrders = true) (H : Env0 P c run w0 A) {ops : Array Oper} {st st' : St} (hr : runDraw c run N ops.toList st = some st')
    (hn : ∀ a' w' β', At c N w0 A s0 β0 w' β' a' st' → Q .normal a' w') (id : Nat) (h : At c N w0 A s0 β0 w β a st) : (Code.region id ops true).wp P Q a w := by
  unfold runDraw at hr
  split at hr
  · rename_i st2 rs hback hD
    split at hr
    · rename_i hof
      simp only [Option.some.injEq] at hr
      subst hr
      obtain ⟨e1, s1, n1, dirty1⟩ := st
      obtain ⟨a1, a2, a3, a4, a5, a6, a7⟩ := runD_ev ops.toList hD
      have h0 := h.world (w' := { w with drawn := w.drawn + 1 }) rfl rfl rfl rfl
      have hnone : ∀ i, (Array.replicate ops.size false).getD i false = false := by
        intro i
        simp [Array.getD_eq_getD_getElem?, Array.getElem?_replicate]
        split <;> rfl
      have hsel : sel (fun i => (Array.replicate ops.size false).getD i false) 0 (ops.toList.zip rs) = [] := sel_none 0 _ (fun i _ _ => hnone i)
      refine wp_region_any hm (draw_any (s0 := s0) (β0 := β0) (n := n1) (dirty := dirty1) H hback hof h.nmost a2 a3 (fun a' w' β' hrel => ?_) ops.size (Array.replicate ops.size false) a _ β e1 s1 (h0.congr (fun _ => rfl) (fun _ => rfl) ?_ ?_) ?_ ?_ (by simp) ?_ ?_)
      · refine hn _ _ β' ?_
        unfold At
        rw [a4, a5, a6, a7]
        simpa using hrel
      · intro k hk
        exact .inl hk
      · intro j
        rw [hsel]
        simp [DOf]
      · intro t; rw [hsel]; rfl
      · intro i; rw [hsel]; rfl
      · intro k o hk1
        simp only [hnone] at hk1
        cases hk1
      · simp [List.countP_replicate]
    · cases hr
  · cases hr
end
end Go.CR

/- Code, functions: the closed interpreter is sound. -/
namespace Go.CR
open Go
open Go.DW (D TT TI TK RV RVL RI RIL RILL ideq ideq_iff ideq_false TOk TRow GOk zerosAre always befs befOf nthL slotsOf tmpsOf memO sameO hits mem1 X)

def exitOf : X → Exit
  | .normal => .normal
  | .exit id => .exit id
  | .ret => .ret

section
variable {P : Program} {c : Ctx} {N : Nat} {w0 : World} {A : Nat → Prop} {s0 : Sto} {β0 : Id → Place} {w : World} {S : Nat → Prop} {s : Sto} {β : Id → Place} {e : Env} {a : Act} {Dp : Nat → Prop} {o : Oper} {d : Nat} {R : Rec}

theorem iter_not_normal {f : St → Option (X × St)} : ∀ (n : Nat) {st st' : St}, iter n f st ≠ some (.normal, st')
  | 0, st, st' => by simp [iter]
  | n + 1, st, st' => by
    simp only [iter]
    intro h
    split at h
    · exact iter_not_normal n h
    · rename_i hx
      exact hx _ h

theorem runC_sound {run : Caller} (hm : P.follows .mixedOrders = true) (H : Env0 P c run w0 A) (fuel : Nat) : ∀ (cd : Code) {st st' : St} {x : X} {Q : Exit → Act → World → Prop}, runC c run N fuel cd st = some (x, st') →
    (∀ a' w' β', At c N w0 A s0 β0 w' β' a' st' → Q (exitOf x) a' w') → ∀ {w : World} {β : Id → Place} {a : Act}, At c N w0 A s0 β0 w β a st → cd.wp P Q a w
  | .skip, st, st', x, Q, hr, hq, w, β, a, h => by
    simp only [runC, Option.some.injEq, Prod.mk.injEq] at hr
    obtain ⟨rfl, rfl⟩ := hr
    exact wp_skip (hq _ _ _ h)
  | .region id ops false, st, st', x, Q, hr, hq, w, β, a, h => by
    simp only [runC] at hr
    split at hr
    · rename_i st2 h2
      simp only [Option.some.injEq, Prod.mk.injEq] at hr
      obtain ⟨rfl, rfl⟩ := hr
      obtain ⟨e, s, n, dirty⟩ := st
      exact wp_region_list (runOps_sound H ops.toList h2 hq h)
    · cases hr
  | .region id ops true, st, st', x, Q, hr, hq, w, β, a, h => by
    simp only [runC] at hr
    split at hr
    · rename_i st2 h2
      simp only [Option.some.injEq, Prod.mk.injEq] at hr
      obtain ⟨rfl, rfl⟩ := hr
      exact runDraw_sound hm H h2 hq id h
    · cases hr
  | .seq p q, st, st', x, Q, hr, hq, w, β, a, h => by
    simp only [runC] at hr
    split at hr
    · rename_i st2 h2
      exact wp_seq (runC_sound hm H fuel p h2 (fun a' w' β' h' => runC_sound hm H fuel q hr hq h') h)
    · rename_i hx
      refine wp_seq (runC_sound hm H fuel p hr (fun a' w' β' h' => ?_) h)
      cases x with
      | normal => exact absurd hr (hx _)
      | exit id => exact hq _ _ _ h'
      | ret => exact hq _ _ _ h'
  | .cond (.tmp t) p q, st, st', x, Q, hr, hq, w, β, a, h => by
    simp only [runC] at hr
    have hv : ∀ b, boolV (st.e.get t) = some b → a.eval (.tmp t) = .bool b := fun b hb => by
      have := boolV_vr hb (h.env t)
      simpa [Act.eval] using this
    split at hr
    · rename_i hb
      exact wp_cond_true (hv _ hb) (runC_sound hm H fuel p hr hq h)
    · rename_i hb
      exact wp_cond_false (hv _ hb) (runC_sound hm H fuel q hr hq h)
    · cases hr
  | .block id b, st, st', x, Q, hr, hq, w, β, a, h => by
    simp only [runC] at hr
    split at hr
    · rename_i j st2 h2
      refine wp_block (runC_sound hm H fuel b h2 (fun a' w' β' h' => ?_) h)
      simp only [exitOf, Exit.inBlock]
      split at hr
      · rename_i hj
        simp only [Option.some.injEq, Prod.mk.injEq] at hr
        obtain ⟨rfl, rfl⟩ := hr
        rw [if_pos (by simpa using hj)]
        exact hq _ _ _ h'
      · rename_i hj
        simp only [Option.some.injEq, Prod.mk.injEq] at hr
        obtain ⟨rfl, rfl⟩ := hr
        rw [if_neg (fun e => by simp [e] at hj)]
        exact hq _ _ _ h'
    · rename_i hx
      refine wp_block (runC_sound hm H fuel b hr (fun a' w' β' h' => ?_) h)
      cases x with
      | normal => exact hq _ _ _ h'
      | exit id => exact absurd hr (hx _ _)
      | ret => exact hq _ _ _ h'
  | .exit id, st, st', x, Q, hr, hq, w, β, a, h => by
    simp only [runC, Option.some.injEq, Prod.mk.injEq] at hr
    obtain ⟨rfl, rfl⟩ := hr
    exact wp_exit (hq _ _ _ h)
  | .ret, st, st', x, Q, hr, hq, w, β, a, h => by
    simp only [runC, Option.some.injEq, Prod.mk.injEq] at hr
    obtain ⟨rfl, rfl⟩ := hr
    exact wp_ret (hq _ _ _ h)
  | .loop b, st, st', x, Q, hr, hq, w, β, a, h => by
    simp only [runC] at hr
    let J : Nat → Act → World → Prop := fun n a w => ∃ st β, iter n (runC c run N fuel b) st = some (x, st') ∧ At c N w0 A s0 β0 w β a st
    have hex : ∀ a w, (∃ n, J n a w) → ∃ n, J n a w ∧ ∀ m, J m a w → n ≤ m := by
      intro a w ⟨n, hn⟩
      induction n using Nat.strongRecOn with
      | _ n ih =>
        by_cases hmin : ∃ m, m < n ∧ J m a w
        · obtain ⟨m, hm1, hm2⟩ := hmin
          exact ih m hm1 hm2
        · exact ⟨n, hn, fun m hm2 => Nat.le_of_not_lt fun hlt => hmin ⟨m, hlt, hm2⟩⟩
    let μ : Act → World → Nat := fun a w => open Classical in if h : ∃ n, J n a w then (hex a w h).choose else 0
    have hμ : ∀ a w, (∃ n, J n a w) → J (μ a w) a w ∧ ∀ m, J m a w → μ a w ≤ m := by
      intro a w hh
      simp only [μ, dif_pos hh]
      exact (hex a w hh).choose_spec
    refine wp_loop (fun a w => ∃ n, J n a w) μ ⟨fuel, st, β, hr, h⟩ fun a w hJ => ?_
    obtain ⟨⟨st1, β1, hI, h1⟩, hleast⟩ := hμ a w hJ
    generalize hk : μ a w = k at hI
    cases k with
    | zero => simp [iter] at hI
    | succ k =>
      simp only [iter] at hI
      split at hI
      · rename_i st2 h2
        refine runC_sound hm H fuel b h2 (fun a' w' β' h' => ?_) h1
        have hJm : J k a' w' := ⟨_, _, hI, h'⟩
        have := (hμ a' w' ⟨k, hJm⟩).2 k hJm
        exact ⟨⟨k, hJm⟩, by omega⟩
      · rename_i hx
        refine runC_sound hm H fuel b hI (fun a' w' β' h' => ?_) h1
        cases x with
        | normal => exact absurd hI (hx _)
        | exit id => exact hq _ _ _ h'
        | ret => exact hq _ _ _ h'
  | .cond (.const _) _ _, st, st', x, Q, hr, hq, w, β, a, h | .cond (.global _) _ _, st, st', x, Q, hr, hq, w, β, a, h | .cond (.func _) _ _, st, st', x, Q, hr, hq, w, β, a, h => by simp only [runC] at hr; cases hr
  | .rangeFunc _ _ _ _, st, st', x, Q, hr, hq, w, β, a, h | .scope _, st, st', x, Q, hr, hq, w, β, a, h | .label _, st, st', x, Q, hr, hq, w, β, a, h | .goto _, st, st', x, Q, hr, hq, w, β, a, h => by simp only [runC] at hr; cases hr

/-! ### results -/
def resRun (tmps : Array Value) : ResultVar → Sem Value
  | .tmp t => pure (tmps.getD t undef)
  | .cell a t => do loadVar t (← asAddr (tmps.getD a undef))

theorem res_run (hT : TOk P c.T) (h : Rel c.T N w0 A s0 β0 w S s β e a Dp) {x : ResultVar} {d : V} (hd : resOf c.T e s x = some d) : ∃ u, (resRun a.tmps x).run P w = .ok u w ∧ VR c.T w A S s β d u := by
  cases x with
  | tmp t =>
    simp only [resOf, Option.some.injEq] at hd
    subst hd
    exact ⟨a.tmps.getD t undef, by simp [resRun], h.env t⟩
  | cell t ty =>
    simp only [resOf] at hd
    have hx := h.env t
    split at hd
    · rename_i id off he
      rw [he] at hx
      split at hd
      · rename_i ob hob
        obtain ⟨hkn, hpk⟩ := packT_some hd
        simp only [VR] at hx
        have hval := hx.2.2 (by simp [hob])
        obtain ⟨us, h1, h2⟩ := (h.obj id ob hob).1.range
        obtain ⟨i, z, dd, r⟩ := hT.row ty hkn
        obtain ⟨u, hu, hru⟩ := loadVar_run (P := P) r (DW.rangeAt_drop (n := off) h2) (VRL.drop off h1) (by rw [← dropV_eq]; exact hpk)
        refine ⟨u, ?_, hru⟩
        simp only [resRun, hval, asAddr, Sem.run_bind, Sem.run_pure, Result.andThen_ok, hu]
      · cases hd
    · cases hd

theorem res_runs (hT : TOk P c.T) (h : Rel c.T N w0 A s0 β0 w S s β e a Dp) : ∀ {l : List ResultVar} {rs : List V}, resAll c.T e s l = some rs → ∃ us : List Value, (l.mapM (resRun a.tmps)).run P w = .ok us w ∧ VRL c.T w A S s β rs us
  | [], rs, hr => by simp [resAll] at hr; subst hr; exact ⟨[], by simp, by simp [VRL]⟩
  | x :: r, rs, hr => by
    simp only [resAll] at hr
    split at hr
    · rename_i d l' hd hl
      simp only [Option.some.injEq] at hr
      subst hr
      obtain ⟨u, h1, h2⟩ := res_run hT h hd
      obtain ⟨us, h3, h4⟩ := res_runs hT h hl
      refine ⟨u :: us, ?_, by simp only [VRL]; exact ⟨u, us, rfl, h2, h4⟩⟩
      simp only [List.mapM_cons, Sem.run_bind, h1, Result.andThen_ok, h3, Sem.run_pure]
    · cases hr

theorem results_run (hT : TOk P c.T) (h : Rel c.T N w0 A s0 β0 w S s β e a Dp) {f : Func} {rs : List V} (hr : resAll c.T e s f.results.toList = some rs) : ∃ v, (results f a.tmps).run P w = .ok v w ∧ VR c.T w A S s β (single rs) v := by
  obtain ⟨us, h1, h2⟩ := res_runs hT h hr
  have hF : results f a.tmps = (do let vs ← f.results.mapM (resRun a.tmps); pure (if h : vs.size = 1 then vs[0] else .tuple vs)) := by
    unfold results
    congr 2
  refine ⟨if h : us.toArray.size = 1 then us.toArray[0] else .tuple us.toArray, ?_, ?_⟩
  · rw [hF, Array.mapM_eq_mapM_toList]
    simp only [map_eq_pure_bind, bind_assoc, pure_bind, Sem.run_bind, h1, Result.andThen_ok, Sem.run_pure]
  · have hl := h2.length
    cases rs with
    | nil =>
      simp only [VRL] at h2
      subst h2
      simp [single, VR, VRL]
    | cons d r =>
      cases r with
      | nil =>
        simp only [VRL] at h2
        obtain ⟨u, us', rfl, h3, rfl⟩ := h2
        simpa [single] using h3
      | cons d' r' =>
        have : ¬ us.toArray.size = 1 := by simp [hl]
        rw [dif_neg this]
        simp only [single, VR]
        exact ⟨_, rfl, by simpa using h2⟩

/-! ### a function -/
theorem get_lf (t : Nat) : Tr.get .lf t = .undef := Tr.getP_lf _
theorem envOf_vr {T : TT} : ∀ (l : List V) {us : List Value} (i : Nat) {e : Env} {f : Nat → Value}, i + l.length ≤ most → VRL T w A S s β l us → (∀ t, VR T w A S s β (e.get t) (f t)) →
    ∀ t, VR T w A S s β ((envOf i l e).get t) (if i ≤ t ∧ t < i + us.length then us.getD (t - i) undef else f t)
  | [], us, i, e, f, hi, hl, he, t => by
    simp only [VRL] at hl
    subst hl
    rw [if_neg (by simp)]
    exact he t
  | d :: r, us, i, e, f, hi, hl, he, t => by
    simp only [VRL] at hl
    obtain ⟨u, us', rfl, h1, h2⟩ := hl
    simp only [List.length_cons] at hi
    have := envOf_vr r (i + 1) (e := setE e i d) (f := fun t => if t = i then u else f t) (by omega) h2 (fun t => by
      rw [get_setE (by omega)]
      split
      · exact h1
      · exact he t) t
    simp only [envOf]
    have e1 : (if i + 1 ≤ t ∧ t < i + 1 + us'.length then us'.getD (t - (i + 1)) undef else (if t = i then u else f t)) = (if i ≤ t ∧ t < i + (u :: us').length then (u :: us').getD (t - i) undef else f t) := by
      simp only [List.length_cons]
      by_cases ht : t = i
      · subst ht
        rw [if_neg (by omega), if_pos rfl, if_pos (by omega)]
        simp
      · by_cases h3 : i + 1 ≤ t ∧ t < i + 1 + us'.length
        · rw [if_pos h3, if_pos (by omega)]
          have : t - i = (t - (i + 1)) + 1 := by omega
          rw [this]
          simp
        · rw [if_neg h3, if_neg ht, if_neg (by omega)]
    rw [← e1]
    exact this

/-- the program's functions -/
structure FOk (P : Program) (F : FuncId → Option Func) : Prop where
  ok : ∀ f fn, F f = some fn → P.funcs[f]? = some fn ∧ fn.name ≠ "runtime.NumGoroutine"

theorem Rel.after (h : Rel c.T N w0 A s0 β0 w S s β e a Dp) {r : V} {v : Value} (hv : VR c.T w A S s β r v) : After c.T w0 A s0 β0 w S s β Dp r v :=
  ⟨hv, h.obj, h.inj, h.rw, h.fresh, h.pin, h.same, h.keepT, h.frame, h.hsize, h.os, h.tape, h.output⟩

/-- a call, its callees by 'run' -/
theorem fun_sound (hm : P.follows .mixedOrders = true) (hT : TOk P c.T) (hE : EqOk P c.T c.E) (hX : XOk P c.X) (hF : FOk P c.F) {run : Caller} (ih : RunOk P c run) (n : Nat) : RunOk P c fun f as s => match c.F f with
    | none => none
    | some fn => match fn.body, Nat.ble (lenV as) fn.ntmps, Nat.ble fn.ntmps most with
      | some b, true, true => match runC c run fn.ntmps n b ⟨envOf 0 as .lf, s, 1, []⟩ with
        | some (.exit _, _) => none
        | some (_, st) => match resAll c.T st.e st.s fn.results.toList with
          | some rs => some (single rs, st.s, st.dirty)
          | none => none
        | none => none
      | _, _, _ => none := by
    intro f as s0 res hr w A β0 vs hst hG hV
    dsimp only at hr
    split at hr
    · cases hr
    · rename_i fn hfn
      obtain ⟨hf, hname⟩ := hF.ok f fn hfn
      split at hr
      · rename_i b hb hle hmost
        refine ⟨⟨fn, hf, by rw [hb]; rfl, hname⟩, ?_⟩
        have hle : as.length ≤ fn.ntmps := by simpa [lenV_eq] using hle
        have hmost : fn.ntmps ≤ most := by simpa using hmost
        have hlen : vs.size = as.length := by have := hV.length; simpa using this
        have hrel : Rel c.T fn.ntmps w A s0 β0 w (fun k => k < 1) s0 β0 (envOf 0 as .lf) { tmps := vs ++ Array.replicate (fn.ntmps - vs.size) undef, defers := [] } (fun j => j ∈ ([] : List Nat)) := by
          have h01 : (fun n : Nat => n = 0) = (fun k => k < 1) := by funext n; simp
          have hobj := hst.obj
          rw [h01] at hobj hV
          refine ⟨rfl, by simp only [Array.size_append, Array.size_replicate]; omega, hmost, fun t => ?_, fun id o ho => ⟨(hobj id o ho).2, ?_⟩, hst.inj, by simp, fun i hi => .inl ?_, fun _ => rfl, fun _ _ => rfl, fun j o ho => ⟨o, ho, rfl⟩, fun _ _ _ => rfl, Nat.le_refl _, rfl, rfl, rfl, hst.base, Nat.lt_succ_self 0⟩
          · have := envOf_vr (e := .lf) as 0 (f := fun _ => undef) (by omega) hV (fun t => by rw [get_lf]; simp [VR]) t
            have e1 : (if 0 ≤ t ∧ t < 0 + vs.toList.length then vs.toList.getD (t - 0) undef else undef) = (vs ++ Array.replicate (fn.ntmps - vs.size) undef).getD t undef := by
              simp only [Array.getD_eq_getD_getElem?, List.getD_eq_getElem?_getD, Array.getElem?_append, Array.length_toList, Nat.zero_le, true_and, Nat.zero_add, Nat.sub_zero, Array.getElem?_toList, Array.getElem?_replicate]
              split
              · rfl
              · split <;> rfl
            rwa [e1] at this
          · show id.1 < 1
            have := (hst.obj id o ho).1
            omega
          · obtain ⟨o, ho⟩ := Option.isSome_iff_exists.1 hi
            exact (hst.obj i o ho).1
        split at hr
        · cases hr
        · rename_i x st hx hrun
          split at hr
          · rename_i rs hrs
            simp only [Option.some.injEq] at hr
            subst hr
            have fin : ∀ a' w' β', At c fn.ntmps w A s0 β0 w' β' a' st → a'.defers = [] ∧ ∃ v, (results fn a'.tmps).run P w' = .ok v w' ∧ ∃ v_1 S β, Ending.returned v = .returned v_1 ∧ After c.T w A s0 β0 w' S st.s β (fun j => j ∈ st.dirty) (single rs) v_1 := by
              intro a' w' β' hr
              obtain ⟨v, hv, hrv⟩ := results_run hT hr hrs
              exact ⟨hr.defers, v, hv, v, _, β', rfl, hr.after hrv⟩
            refine calls_of_wp hf hb (runC_sound hm ⟨hT, hE, hX, hG, ih⟩ n b hrun (fun a' w' β' hr => ?_) hrel)
            cases x with
            | normal => exact fin _ _ _ hr
            | ret => exact fin _ _ _ hr
            | exit id => exact (hx _ rfl).elim
          · cases hr
        · cases hr
      · cases hr
theorem runF_sound (hm : P.follows .mixedOrders = true) (hT : TOk P c.T) (hE : EqOk P c.T c.E) (hX : XOk P c.X) (hF : FOk P c.F) : ∀ n, RunOk P c (runF c n)
  | 0 => by
    intro f as s0 res hr
    simp [runF] at hr
  | n + 1 => fun_sound hm hT hE hX hF (runF_sound hm hT hE hX hF n) n
end
end Go.CR

/- The closed interpreter once more, its steps in small pieces (each piece a recursor over closed arms): for Lean's kernel, which runs it. It is the same function. -/
namespace Go.CR
open Go
open Go.DW (D TT X ideq mem1 seqParts)
noncomputable section

/-! ### operands -/
def globF : Option (List D) → V := Option.rec (motive := fun _ => V) .undef (fun cs => .d (.iptr cs))
def opndF : Operand → (Nat → Option (List D)) → Env → V :=
  Operand.rec (motive := fun _ => (Nat → Option (List D)) → Env → V) (fun t _ e => e.get t) (fun v _ _ => .d (DW.ofConst v)) (fun g G _ => globF (G g)) (fun f _ _ => .fn f [] [])
def opndP (G : Nat → Option (List D)) (e : Env) (x : Operand) : V := opndF x G e
theorem opndP_eq (G : Nat → Option (List D)) (e : Env) : opndP G e = opnd G e := by
  funext x
  cases x with
  | tmp t => rfl
  | const v => rfl
  | global g =>
    show globF (G g) = (match G g with | some cs => .d (.iptr cs) | none => .undef)
    cases G g <;> rfl
  | func f => rfl

/-! ### the store -/
def sgK : Bool → O → (Id → Option O) → Id → Option O := Bool.rec (motive := fun _ => O → (Id → Option O) → Id → Option O) (fun _ ih i => ih i) (fun o _ _ => some o)
def sgetF : Sto → Id → Option O := List.rec (motive := fun _ => Id → Option O) (fun _ => none) (fun x _ ih i => sgK (ideq x.1 i) x.2 ih i)
theorem sgetF_eq (s : Sto) : sgetF s = sget s := by
  funext i
  induction s with
  | nil => rfl
  | cons x r ih =>
    obtain ⟨j, o⟩ := x
    show sgK (ideq j i) o (sgetF r) i = _
    unfold sget
    cases h : ideq j i
    · exact ih
    · rfl
def effF (s : Sto) (del : List Id) (new : Sto) : Sto := List.rec (motive := fun _ => Sto → Sto → Sto) (List.rec (motive := fun _ => Sto → Sto) (fun s => s) (fun x r _ s => x :: (r ++ s)))
  (fun i r _ new s => new ++ sdels s (i :: r)) del new s
theorem effF_eq (s : Sto) (T : Rec) : effF s T.del T.new = eff s T := by
  obtain ⟨v, acc, del, new⟩ := T
  cases del with
  | nil => cases new <;> rfl
  | cons i r => rfl
def addDirtyF (l : List Nat) (del : List Id) : List Nat := List.rec (motive := fun _ => List Nat → List Nat) (fun l => l) (fun i r _ l => addDirty l (i :: r)) del l
theorem addDirtyF_eq (l : List Nat) (del : List Id) : addDirtyF l del = addDirty l del := by cases del <;> rfl
def putF (e : Env) (o : Option Nat) (v : V) : Env := Option.rec (motive := fun _ => Env → V → Env) (fun e _ => e) (fun i e v => setE e i v) o e v
theorem putF_eq (e : Env) (o : Option Nat) (v : V) : putF e o v = put e o v := by cases o <;> rfl
def dstOkF (N : Nat) (o : Option Nat) : Bool := Option.rec (motive := fun _ => Nat → Bool) (fun _ => true) (fun i N => Nat.blt i N) o N
theorem dstOkF_eq (N : Nat) (o : Option Nat) : dstOkF N o = dstOk N o := by cases o <;> rfl
def wantedF (all : List Oper) (o : Oper) (e : Env) : Option Bool := Option.rec (motive := fun _ => List Oper → Oper → Env → Option Bool) (fun _ _ _ => some true) (fun _ all o e => wanted all o e) o.guard all o e
theorem wantedF_eq (all : List Oper) (o : Oper) (e : Env) : wantedF all o e = wanted all o e := by
  unfold wantedF
  cases h : o.guard with
  | none => simp [wanted, h]
  | some g => rfl

/-! ### operations -/
abbrev M := Ctx → Caller → (Operand → V) → (Id → Option O) → Nat → Option Rec
def no : M := fun _ _ _ _ _ => none
def callF (cl : Call) : M := fun c run ρ g d => Callee.rec (motive := fun _ => Call → M) (fun f cl c run ρ g d => doCall c run g d (cl.args.toList.map ρ) (ρ f)) (fun _ _ cl c run ρ g d => pCall c.T ρ g d cl) (fun _ cl c run ρ g d => pCall c.T ρ g d cl) cl.callee cl c run ρ g d
def mkFnF : Fn → Array Operand → Array Operand → M := Fn.rec (motive := fun _ => Array Operand → Array Operand → M) (fun f first caps c run ρ g d => ret (.fn f (first.toList.map ρ) (caps.toList.map ρ))) (fun _ _ _ => no) (fun _ _ _ _ => no) (fun _ _ _ _ _ _ => no) (fun _ _ _ => no)
def execF : Op → M := Op.rec (motive := fun _ => M)
  (fun x c run ρ g d => ret (ρ x)) (fun x c run ρ g d => ret (ρ x)) (fun x a b c run ρ g d => pBool (boolV (ρ x)) (ρ a) (ρ b)) (fun t c run ρ g d => pAlloc c.T t d)
  (fun t x c run ρ g d => pBox c.T t (cellsOf (ρ x)) d) (fun t parts c run ρ g d => pBuild c.T t (prL ρ parts.toList))
  (fun t len parts c run ρ g d => pBuildSlice c.T t len (seqParts 0 parts.toList) parts.toList.length (sndL ρ parts.toList) d) (fun _ _ _ _ => no)
  (fun t a c run ρ g d => pLoad c.T t g (ρ a)) (fun t a x c run ρ g d => pStore c.T t g (ρ a) (cellsOf (ρ x))) (fun _ => no) (fun _ => no)
  (fun x c run ρ g d => pNilCheck g (ρ x)) (fun op t x y _ c run ρ g d => pBin c op t g (ρ x) (ρ y)) (fun op _ x c run ρ g d => retO (unV op (ρ x)))
  (fun src dst x c run ρ g d => pConvert c.T g src dst (ρ x)) (fun _ _ => no) (fun _ _ => no) (fun f first caps => mkFnF f first caps) (fun _ _ => no) (fun _ _ => no)
  (fun t l cp c run ρ g d => pMakeSlice c.T t (natOf (ρ l)) (natOf (ρ cp)) d) (fun t x lo hi mx c run ρ g d => pSlice c.T t g (ρ x) (omapV ρ lo) (omapV ρ hi) (omapV ρ mx))
  (fun st x f c run ρ g d => pFieldAddr c.T st f g (ρ x)) (fun st x f c run ρ g d => pField c.T st f (ρ x)) (fun t x ix c run ρ g d => pIndexAddr c.T t g (ρ x) (natOf (ρ ix)))
  (fun t x ix c run ρ g d => pIndex c.T t (ρ x) (natOf (ρ ix))) (fun _ _ _ _ => no) (fun _ _ _ _ => no) (fun _ _ _ => no) (fun _ _ _ _ => no) (fun _ _ => no) (fun _ _ => no) (fun _ => no) (fun _ _ _ _ => no)
  (fun x j c run ρ g d => pExtract j (ρ x)) (fun cl => callF cl) (fun _ => no) (fun _ => no) (fun _ => no) (fun _ _ => no) (fun _ _ _ => no) (fun _ _ => no)
theorem execF_eq (op : Op) (c : Ctx) (run : Caller) (e : Env) (g : Id → Option O) (d : Nat) : execF op c run (opnd c.G e) g d = exec c run op e g d := by
  cases op with
  | call cl =>
    show callF cl c run (opnd c.G e) g d = _
    unfold callF exec
    dsimp only
    cases h : cl.callee with
    | value f => rfl
    | invoke r m => simp [prim, h]
    | builtin b => simp [prim, h]
  | makeFunc f first caps => cases f <;> rfl
  | _ => rfl

/-! ### operations in the text's order -/
abbrev K1 := Ctx → Caller → Nat → List Oper → Env → Sto → Nat → List Nat → Option St
def stop1 : Oper → K1 → K1 := fun _ _ _ _ _ _ _ _ _ _ => none
def chg1 : List Id → Sto → V → Oper → K1 → K1 := fun del new v o ih c run N all e s n dirty => ih c run N all (putF e o.dst v) (effF s del new) (Nat.add n 1) (addDirtyF dirty del)
def new1 : Sto → V → Oper → K1 → K1 := List.rec (motive := fun _ => V → Oper → K1 → K1) (fun v o ih c run N all e s n dirty => ih c run N all (putF e o.dst v) s (Nat.add n 1) dirty) (fun x r _ => chg1 [] (x :: r))
def del1 : List Id → Sto → V → Oper → K1 → K1 := List.rec (motive := fun _ => Sto → V → Oper → K1 → K1) new1 (fun i r _ new => chg1 (i :: r) new)
theorem del1_eq (del : List Id) (new : Sto) (v : V) (o : Oper) (ih : K1) (c : Ctx) (run : Caller) (N : Nat) (all : List Oper) (e : Env) (s : Sto) (n : Nat) (dirty : List Nat) : del1 del new v o ih c run N all e s n dirty = ih c run N all (putF e o.dst v) (effF s del new) (n + 1) (addDirtyF dirty del) := by
  cases del with
  | nil => cases new <;> rfl
  | cons i r => rfl
def aft1 : Option Rec → Oper → K1 → K1 := Option.rec (motive := fun _ => Oper → K1 → K1) stop1
  (Rec.rec (motive := fun _ => Oper → K1 → K1) fun v _ del new => del1 del new v)
def do1 : Oper → K1 → K1 := fun o ih c run N all e s n dirty => aft1 (execF o.op c run (opndP c.G e) (sgetF s) n) o ih c run N all e s n dirty
def skip1 : Oper → K1 → K1 := fun o ih c run N all e s n dirty => ih c run N all (putF e o.dst (.tup [])) s (Nat.add n 1) dirty
def want1 : Bool → Bool → Oper → K1 → K1 := Bool.rec (motive := fun _ => Bool → Oper → K1 → K1) (Bool.rec (motive := fun _ => Oper → K1 → K1) stop1 skip1) (Bool.rec (motive := fun _ => Oper → K1 → K1) stop1 do1)
def step1 : Option Bool → Bool → Oper → K1 → K1 := Option.rec (motive := fun _ => Bool → Oper → K1 → K1) (fun _ => stop1) want1
def runOpsF : List Oper → K1 := List.rec (motive := fun _ => K1) (fun c run N all e s n dirty => some ⟨e, s, n, dirty⟩)
  (fun o _ ih c run N all e s n dirty => step1 (wantedF all o e) (dstOkF N o.dst) o ih c run N all e s n dirty)
theorem runOpsF_eq (c : Ctx) (run : Caller) (N : Nat) (all : List Oper) : ∀ (l : List Oper) (e : Env) (s : Sto) (n : Nat) (dirty : List Nat), runOpsF l c run N all e s n dirty = runOps c run N all l ⟨e, s, n, dirty⟩
  | [], e, s, n, dirty => rfl
  | o :: r, e, s, n, dirty => by
    show step1 (wantedF all o e) (dstOkF N o.dst) o (runOpsF r) c run N all e s n dirty = _
    rw [wantedF_eq, dstOkF_eq]
    unfold runOps
    cases hw : wanted all o e with
    | none => rfl
    | some b => cases b with
      | true => cases hd : dstOk N o.dst with
        | false => rfl
        | true =>
          show aft1 (execF o.op c run (opndP c.G e) (sgetF s) n) o (runOpsF r) c run N all e s n dirty = _
          rw [opndP_eq, sgetF_eq, execF_eq]
          cases hT : exec c run o.op e (sget s) n with
          | none => rfl
          | some T =>
            show del1 T.del T.new T.v o (runOpsF r) c run N all e s n dirty = _
            rw [del1_eq, runOpsF_eq c run N all r, putF_eq, effF_eq, addDirtyF_eq]
      | false => cases hd : dstOk N o.dst with
        | false => rfl
        | true =>
          show runOpsF r c run N all (putF e o.dst (.tup [])) s (n + 1) dirty = _
          rw [runOpsF_eq c run N all r, putF_eq]

/-! ### a region that draws its order -/
abbrev K2 := Ctx → Caller → Nat → List Oper → Env → Sto → Nat → List Nat → Option (St × List Rec)
def stop2 : Oper → K2 → K2 := fun _ _ _ _ _ _ _ _ _ _ => none
def more2 : Rec → Option (St × List Rec) → Option (St × List Rec) := fun T => Option.rec (motive := fun _ => Option (St × List Rec)) none (fun p => Prod.rec (motive := fun _ => Option (St × List Rec)) (fun st rs => some (st, T :: rs)) p)
def aft2 : Option Rec → Oper → K2 → K2 := Option.rec (motive := fun _ => Oper → K2 → K2) stop2
  (Rec.rec (motive := fun _ => Oper → K2 → K2) fun v acc del new o ih c run N all e s n dirty => more2 ⟨v, acc, del, new⟩ (ih c run N all (putF e o.dst v) (effF s del new) (Nat.add n 1) (addDirtyF dirty del)))
def do2 : Oper → K2 → K2 := fun o ih c run N all e s n dirty => aft2 (execF o.op c run (opndP c.G e) (sgetF s) n) o ih c run N all e s n dirty
def skip2 : Oper → K2 → K2 := fun o ih c run N all e s n dirty => more2 noRec (ih c run N all (putF e o.dst (.tup [])) s (Nat.add n 1) dirty)
def want2 : Bool → Bool → Oper → K2 → K2 := Bool.rec (motive := fun _ => Bool → Oper → K2 → K2) (Bool.rec (motive := fun _ => Oper → K2 → K2) stop2 skip2) (Bool.rec (motive := fun _ => Oper → K2 → K2) stop2 do2)
def step2 : Option Bool → Bool → Oper → K2 → K2 := Option.rec (motive := fun _ => Bool → Oper → K2 → K2) (fun _ => stop2) want2
def runDF : List Oper → K2 := List.rec (motive := fun _ => K2) (fun c run N all e s n dirty => some (⟨e, s, n, dirty⟩, []))
  (fun o _ ih c run N all e s n dirty => step2 (wantedF all o e) (dstOkF N o.dst) o ih c run N all e s n dirty)
theorem runDF_eq (c : Ctx) (run : Caller) (N : Nat) (all : List Oper) : ∀ (l : List Oper) (e : Env) (s : Sto) (n : Nat) (dirty : List Nat), runDF l c run N all e s n dirty = runD c run N all l ⟨e, s, n, dirty⟩
  | [], e, s, n, dirty => rfl
  | o :: r, e, s, n, dirty => by
    show step2 (wantedF all o e) (dstOkF N o.dst) o (runDF r) c run N all e s n dirty = _
    rw [wantedF_eq, dstOkF_eq]
    unfold runD
    cases hw : wanted all o e with
    | none => rfl
    | some b => cases b with
      | true => cases hd : dstOk N o.dst with
        | false => rfl
        | true =>
          show aft2 (execF o.op c run (opndP c.G e) (sgetF s) n) o (runDF r) c run N all e s n dirty = _
          rw [opndP_eq, sgetF_eq, execF_eq]
          cases hT : exec c run o.op e (sget s) n with
          | none => rfl
          | some T =>
            show more2 T (runDF r c run N all (putF e o.dst T.v) (effF s T.del T.new) (n + 1) (addDirtyF dirty T.del)) = _
            rw [runDF_eq c run N all r, putF_eq, effF_eq, addDirtyF_eq]
            dsimp only
            cases runD c run N all r ⟨put e o.dst T.v, eff s T, n + 1, addDirty dirty T.del⟩ <;> rfl
      | false => cases hd : dstOk N o.dst with
        | false => rfl
        | true =>
          show more2 noRec (runDF r c run N all (putF e o.dst (.tup [])) s (n + 1) dirty) = _
          rw [runDF_eq c run N all r, putF_eq]
          dsimp only
          cases runD c run N all r ⟨put e o.dst (.tup []), s, n + 1, dirty⟩ <;> rfl
def free2 (ops : List Oper) : Option (St × List Rec) → Option St := Option.rec (motive := fun _ => Option St) none (fun p => Prod.rec (motive := fun _ => Option St) (fun st rs => Bool.rec (motive := fun _ => Option St) none (some st) (orderFree ops [] [] (DW.befs [] ops) ops rs)) p)
def runDrawF (c : Ctx) (run : Caller) (N : Nat) (ops : List Oper) (st : St) : Option St := Bool.rec (motive := fun _ => Option St) none (free2 ops (St.rec (motive := fun _ => Option (St × List Rec)) (fun e s n dirty => runDF ops c run N ops e s n dirty) st)) (backward 0 ops)
theorem runDrawF_eq (c : Ctx) (run : Caller) (N : Nat) (ops : List Oper) (st : St) : runDrawF c run N ops st = runDraw c run N ops st := by
  obtain ⟨e, s, n, dirty⟩ := st
  unfold runDrawF runDraw
  show Bool.rec (motive := fun _ => Option St) none (free2 ops (runDF ops c run N ops e s n dirty)) (backward 0 ops) = _
  rw [runDF_eq]
  cases backward 0 ops with
  | false => rfl
  | true => cases runD c run N ops ops ⟨e, s, n, dirty⟩ with
    | none => rfl
    | some p =>
      obtain ⟨st, rs⟩ := p
      show Bool.rec (motive := fun _ => Option St) none (some st) (orderFree ops [] [] (DW.befs [] ops) ops rs) = _
      cases h : orderFree ops [] [] (DW.befs [] ops) ops rs <;> simp [h]

/-! ### code -/
abbrev R := Option (X × St)
abbrev K3 := Ctx → Caller → Nat → Nat → St → R
def wrapN : Option St → R := Option.rec (motive := fun _ => R) none (fun st => some (.normal, st))
def reg0 : Array Oper → Ctx → Caller → Nat → St → R := fun ops c run N st => wrapN (St.rec (motive := fun _ => Option St) (fun e s n dirty => runOpsF ops.toList c run N ops.toList e s n dirty) st)
def reg1 : Array Oper → Ctx → Caller → Nat → St → R := fun ops c run N st => wrapN (runDrawF c run N ops.toList st)
def regF : Bool → Array Oper → Ctx → Caller → Nat → St → R := Bool.rec (motive := fun _ => Array Oper → Ctx → Caller → Nat → St → R) reg0 reg1
def seqX : X → St → K3 → Ctx → Caller → Nat → Nat → R := X.rec (motive := fun _ => St → K3 → Ctx → Caller → Nat → Nat → R) (fun st k c run N fuel => k c run N fuel st) (fun id st k c run N fuel => some (.exit id, st)) (fun st k c run N fuel => some (.ret, st))
def seqK : R → K3 → Ctx → Caller → Nat → Nat → R := Option.rec (motive := fun _ => K3 → Ctx → Caller → Nat → Nat → R) (fun _ _ _ _ _ => none) (Prod.rec (motive := fun _ => K3 → Ctx → Caller → Nat → Nat → R) seqX)
def condB : Bool → K3 → K3 → K3 := Bool.rec (motive := fun _ => K3 → K3 → K3) (fun _ q => q) (fun p _ => p)
def condK : Option Bool → K3 → K3 → K3 := Option.rec (motive := fun _ => K3 → K3 → K3) (fun _ _ _ _ _ _ _ => none) condB
def stopC : K3 := fun _ _ _ _ _ => none
def condF : Operand → K3 → K3 → K3 := Operand.rec (motive := fun _ => K3 → K3 → K3) (fun t p q c run N fuel st => condK (boolV (st.e.get t)) p q c run N fuel st) (fun _ _ _ => stopC) (fun _ _ _ => stopC) (fun _ _ _ => stopC)
def blkB : Bool → Nat → St → R := Bool.rec (motive := fun _ => Nat → St → R) (fun j st => some (.exit j, st)) (fun _ st => some (.normal, st))
def blkX : X → Nat → St → R := X.rec (motive := fun _ => Nat → St → R) (fun _ st => some (.normal, st)) (fun j id st => blkB (Nat.beq j id) j st) (fun _ st => some (.ret, st))
def blkK (id : Nat) : R → R := Option.rec (motive := fun _ => R) none (Prod.rec (motive := fun _ => R) (fun x st => blkX x id st))
def itX : X → St → (St → R) → R := X.rec (motive := fun _ => St → (St → R) → R) (fun st k => k st) (fun id st _ => some (.exit id, st)) (fun st _ => some (.ret, st))
def itK : R → (St → R) → R := Option.rec (motive := fun _ => (St → R) → R) (fun _ => none) (Prod.rec (motive := fun _ => (St → R) → R) itX)
def iterF : Nat → (St → R) → St → R := Nat.rec (motive := fun _ => (St → R) → St → R) (fun _ _ => none) (fun _ ih f st => itK (f st) (ih f))
theorem iterF_eq (f : St → R) : ∀ (n : Nat) (st : St), iterF n f st = iter n f st
  | 0, st => rfl
  | n + 1, st => by
    show itK (f st) (iterF n f) = _
    unfold iter
    cases f st with
    | none => rfl
    | some p =>
      obtain ⟨x, st'⟩ := p
      cases x with
      | normal => exact iterF_eq f n st'
      | exit id => rfl
      | ret => rfl
def runCF : Code → K3 := Code.rec (motive := fun _ => K3)
  (fun c run N fuel st => some (.normal, st))
  (fun _ ops draw c run N fuel st => regF draw ops c run N st)
  (fun _ _ iha ihb c run N fuel st => seqK (iha c run N fuel st) ihb c run N fuel)
  (fun o _ _ iha ihb => condF o iha ihb)
  (fun id _ ih c run N fuel st => blkK id (ih c run N fuel st))
  (fun _ ih c run N fuel st => iterF fuel (ih c run N fuel) st)
  (fun _ _ _ _ _ _ => stopC)
  (fun id c run N fuel st => some (.exit id, st))
  (fun _ _ => stopC) (fun _ => stopC) (fun _ => stopC)
  (fun c run N fuel st => some (.ret, st))
  (fun _ => stopC)
theorem runCF_eq (c : Ctx) (run : Caller) (N fuel : Nat) : ∀ (cd : Code) (st : St), runCF cd c run N fuel st = runC c run N fuel cd st
  | .skip, st => rfl
  | .region id ops false, st => by
    obtain ⟨e, s, n, dirty⟩ := st
    show wrapN (runOpsF ops.toList c run N ops.toList e s n dirty) = _
    rw [runOpsF_eq]
    conv => rhs; unfold runC
    cases runOps c run N ops.toList ops.toList ⟨e, s, n, dirty⟩ <;> rfl
  | .region id ops true, st => by
    show wrapN (runDrawF c run N ops.toList st) = _
    rw [runDrawF_eq]
    conv => rhs; unfold runC
    cases runDraw c run N ops.toList st <;> rfl
  | .seq a b, st => by
    show seqK (runCF a c run N fuel st) (runCF b) c run N fuel = _
    rw [runCF_eq c run N fuel a]
    conv => rhs; unfold runC
    cases h : runC c run N fuel a st with
    | none => rfl
    | some p =>
      obtain ⟨x, st'⟩ := p
      cases x with
      | normal => exact runCF_eq c run N fuel b st'
      | exit id => rfl
      | ret => rfl
  | .cond (.tmp t) a b, st => by
    show condK (boolV (st.e.get t)) (runCF a) (runCF b) c run N fuel st = _
    conv => rhs; unfold runC
    cases h : boolV (st.e.get t) with
    | none => rfl
    | some v => cases v with
      | true => exact runCF_eq c run N fuel a st
      | false => exact runCF_eq c run N fuel b st
  | .cond (.const _) a b, st => rfl
  | .cond (.global _) a b, st => rfl
  | .cond (.func _) a b, st => rfl
  | .block id b, st => by
    show blkK id (runCF b c run N fuel st) = _
    rw [runCF_eq c run N fuel b]
    conv => rhs; unfold runC
    cases h : runC c run N fuel b st with
    | none => rfl
    | some p =>
      obtain ⟨x, st'⟩ := p
      cases x with
      | normal => rfl
      | exit j =>
        show blkB (Nat.beq j id) j st' = (match Nat.beq j id with | true => some (X.normal, st') | false => some (X.exit j, st'))
        cases Nat.beq j id <;> rfl
      | ret => rfl
  | .loop b, st => by
    show iterF fuel (runCF b c run N fuel) st = _
    rw [iterF_eq]
    conv => rhs; unfold runC
    have : runCF b c run N fuel = runC c run N fuel b := funext fun st => runCF_eq c run N fuel b st
    rw [this]
  | .exit id, st => rfl
  | .ret, st => rfl
  | .rangeFunc _ _ _ _, st => rfl
  | .scope _, st => rfl
  | .label _, st => rfl
  | .goto _, st => rfl
  | .refuse _, st => rfl

/-! ### a function -/
def resF (T : TT) (s : Sto) (dirty : List Nat) : Option (List V) → Option Res := Option.rec (motive := fun _ => Option Res) none (fun rs => some (single rs, s, dirty))
def endF (T : TT) (l : List ResultVar) : St → Option Res := St.rec (motive := fun _ => Option Res) (fun e s n dirty => resF T s dirty (resAll T e s l))
def endX (T : TT) (l : List ResultVar) : X → St → Option Res := X.rec (motive := fun _ => St → Option Res) (endF T l) (fun _ _ => none) (endF T l)
def endK (T : TT) (l : List ResultVar) : R → Option Res := Option.rec (motive := fun _ => Option Res) none (Prod.rec (motive := fun _ => Option Res) (endX T l))
def bodyF (c : Ctx) (run : Caller) (n : Nat) (fn : Func) (as : List V) (s : Sto) : Option Code → Option Res := Option.rec (motive := fun _ => Option Res) none
  (fun b => Bool.rec (motive := fun _ => Option Res) none (endK c.T fn.results.toList (runCF b c run fn.ntmps n ⟨envOf 0 as .lf, s, 1, []⟩)) (and (Nat.ble (lenV as) fn.ntmps) (Nat.ble fn.ntmps most)))
def funF (c : Ctx) (run : Caller) (n : Nat) (as : List V) (s : Sto) : Option Func → Option Res := Option.rec (motive := fun _ => Option Res) none (fun fn => bodyF c run n fn as s fn.body)
def runFF (c : Ctx) : Nat → Caller := Nat.rec (motive := fun _ => Caller) (fun _ _ _ => none) (fun n ih f as s => funF c ih n as s (c.F f))
theorem endK_eq (T : TT) (l : List ResultVar) (r : R) : endK T l r = (match r with
    | some (.exit _, _) => none
    | some (_, st) => match resAll T st.e st.s l with
      | some rs => some (single rs, st.s, st.dirty)
      | none => none
    | none => none) := by
  match r with
  | none => rfl
  | some (.exit _, _) => rfl
  | some (.normal, ⟨e, s, n, dirty⟩) =>
    show resF T s dirty (resAll T e s l) = _
    dsimp only
    cases resAll T e s l <;> rfl
  | some (.ret, ⟨e, s, n, dirty⟩) =>
    show resF T s dirty (resAll T e s l) = _
    dsimp only
    cases resAll T e s l <;> rfl
theorem funF_eq (c : Ctx) (run : Caller) (n : Nat) (as : List V) (s : Sto) (o : Option Func) : funF c run n as s o = (match o with
    | none => none
    | some fn => match fn.body, Nat.ble (lenV as) fn.ntmps, Nat.ble fn.ntmps most with
      | some b, true, true => match runC c run fn.ntmps n b ⟨envOf 0 as .lf, s, 1, []⟩ with
        | some (.exit _, _) => none
        | some (_, st) => match resAll c.T st.e st.s fn.results.toList with
          | some rs => some (single rs, st.s, st.dirty)
          | none => none
        | none => none
      | _, _, _ => none) := by
    cases o with
    | none => rfl
    | some fn =>
      show bodyF c run n fn as s fn.body = _
      dsimp only
      cases fn.body with
      | none => rfl
      | some b =>
        show Bool.rec (motive := fun _ => Option Res) none (endK c.T fn.results.toList (runCF b c run fn.ntmps n ⟨envOf 0 as .lf, s, 1, []⟩)) (and (Nat.ble (lenV as) fn.ntmps) (Nat.ble fn.ntmps most)) = _
        rw [endK_eq, runCF_eq]
        cases Nat.ble (lenV as) fn.ntmps <;> cases Nat.ble fn.ntmps most <;> first | rfl | skip
/-- a call, its callees by 'run' -/
def stepR (c : Ctx) (run : Caller) (n : Nat) : Caller := fun f as s => funF c run n as s (c.F f)
theorem runFF_eq (c : Ctx) : ∀ n, runFF c n = runF c n
  | 0 => rfl
  | n + 1 => by
    funext f as s
    show funF c (runFF c n) n as s (c.F f) = _
    rw [runFF_eq c n, funF_eq]
    rfl
end
section
variable {P : Program} {c : Ctx}
theorem stepR_sound (hm : P.follows .mixedOrders = true) (hT : DW.TOk P c.T) (hE : EqOk P c.T c.E) (hX : XOk P c.X) (hF : FOk P c.F) {run : Caller} (ih : RunOk P c run) (n : Nat) : RunOk P c (stepR c run n) := by
  intro f as s res hr
  unfold stepR at hr
  rw [funF_eq] at hr
  exact fun_sound hm hT hE hX hF ih n f as s res hr
theorem runFF_sound (hm : P.follows .mixedOrders = true) (hT : DW.TOk P c.T) (hE : EqOk P c.T c.E) (hX : XOk P c.X) (hF : FOk P c.F) (n : Nat) : RunOk P c (runFF c n) := by
  rw [runFF_eq]
  exact runF_sound hm hT hE hX hF n

/-! ### calls by what is known of them -/
/-- the result, if it names no object -/
def flatT : V → Bool
  | .tup vs => flatL vs
  | v => flatV v
def flatRes : Option Res → Option V
  | some (v, _, _) => match flatT v with | true => some v | false => none
  | none => none
theorem VR.flatT {T : TT} {w : World} {A : Nat → Prop} {S S' : Nat → Prop} {s s' : Sto} {β β' : Id → Place} {d : V} {v : Value} (hf : CR.flatT d = true) (h : VR T w A S s β d v) : VR T w A S' s' β' d v := by
  cases d with
  | tup vs =>
    simp only [CR.flatT] at hf
    simp only [VR] at h ⊢
    obtain ⟨us, hv, h⟩ := h
    exact ⟨us, hv, VRL.flat (flatL_iff.1 hf) h⟩
  | undef | gone | d | sl | ptr | agg | fn => exact VR.flat (by simpa [CR.flatT] using hf) h
theorem CallsR.forget {f : FuncId} {as : List V} {v : V} {s : Sto} {d : List Nat} (hf : CR.flatT v = true) (h : CallsR P c f as [] (v, s, d)) : CallsR P c f as [] (v, [], []) := by
  intro w A β0 vs hst hG hV
  obtain ⟨h1, h2⟩ := h w A β0 vs hst hG hV
  refine ⟨h1, h2.mono ?_⟩
  rintro e w' ⟨u, S, β, rfl, ha⟩
  refine ⟨u, S, β, rfl, ⟨ha.val.flatT hf, ?_, ?_, ?_, ?_, ha.pin, ?_, ?_, ?_, ha.hsize, ha.os, ha.tape, ha.output⟩⟩
  · intro id o ho; cases ho
  · intro i j o o' ho; cases ho
  · intro j o hj; cases hj
  · intro i hi; cases hi
  · intro j _; rfl
  · intro j o ho; cases ho
  · intro b hb _
    exact ha.frame b hb fun j _ hl => by cases hl
/-- calls at two numbers -/
def tabRun (t : FuncId → Int → Int → Option V) : Caller := fun f as s => match s, as with
  | [], [.d (.int .i64 a), .d (.int .i64 b)] => match t f a b with | some v => some (v, [], []) | none => none
  | _, _ => none
theorem tabRun_sound {t : FuncId → Int → Int → Option V} (h : ∀ f a b v, t f a b = some v → CallsR P c f [.d (.int .i64 a), .d (.int .i64 b)] [] (v, [], [])) : RunOk P c (tabRun t) := by
  intro f as s res hr
  unfold tabRun at hr
  split at hr
  · split at hr
    · rename_i hv
      simp only [Option.some.injEq] at hr
      subst hr
      exact h _ _ _ _ hv
    · cases hr
  · cases hr
/-- two functions' answers at two numbers -/
def tab2 (f g : FuncId) (a b : Int) (u v : V) : FuncId → Int → Int → Option V := fun x y z => match leI a y, leI y a, leI b z, leI z b with
  | true, true, true, true => match Nat.beq x f, Nat.beq x g with
    | true, _ => some u
    | _, true => some v
    | _, _ => none
  | _, _, _, _ => none
theorem flatRes_some {r : Option Res} {v : V} (h : flatRes r = some v) : ∃ s d, r = some (v, s, d) ∧ CR.flatT v = true := by
  unfold flatRes at h
  split at h
  · split at h
    · rename_i hv
      simp only [Option.some.injEq] at h
      subst h
      exact ⟨_, _, rfl, hv⟩
    · cases h
  · cases h
theorem tab2_sound {run : Caller} (hrun : RunOk P c run) {f g : FuncId} {a b : Int} {u v : V} (hu : flatRes (run f [.d (.int .i64 a), .d (.int .i64 b)] []) = some u) (hv : flatRes (run g [.d (.int .i64 a), .d (.int .i64 b)] []) = some v) : RunOk P c (tabRun (tab2 f g a b u v)) := by
  refine tabRun_sound fun x y z r hr => ?_
  unfold tab2 at hr
  split at hr
  · rename_i h1 h2 h3 h4
    simp only [leI_eq, decide_eq_true_eq] at h1 h2 h3 h4
    obtain rfl : a = y := by omega
    obtain rfl : b = z := by omega
    split at hr
    · rename_i hx
      simp only [Option.some.injEq] at hr
      subst hr
      obtain rfl : x = f := by simpa using hx
      obtain ⟨s, d, h5, h6⟩ := flatRes_some hu
      exact (hrun _ _ _ _ h5).forget h6
    · rename_i hx _
      simp only [Option.some.injEq] at hr
      subst hr
      obtain rfl : x = g := by simpa using hx
      obtain ⟨s, d, h5, h6⟩ := flatRes_some hv
      exact (hrun _ _ _ _ h5).forget h6
    · cases hr
  · cases hr
end
end Go.CR
