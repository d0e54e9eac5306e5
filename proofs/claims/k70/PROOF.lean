import PyProof.Rows.All
import Wide.All
import OpenK.AllK
import Wide.FinOn
import HandS.ForMost
import HandS.HotCalls
import PyProof.RangeIter
import KE.KDictWalk
import HandS.Defaults
import HandS.IsInst
import HandS.Deep
import HandS.Style
import HandS.TupAny
import HandS.Text
import KE.GoesEnum
import HandS.Small
import KE.KeyNested
import KE.KDictPairs
import KE.KDictDisplayH
import KE.SortData
import KE.DataMinMax
import HandS.Conv
import KE.KDictSum
import HandS.More
import HandS.Strs
import HandS.Star
import HandS.OwnEq
import PyProof.InstNe
import PySem.Challenge.RW_waysenough_k70_neighbours_and_steps
import PyProof.InstStoreFacts
import KE.KExcInit
import HandS.ForSpec
import HandS.ExcSuper
import HandS.ExcCtx
import KE.KStateDown
import Lean
import HandS.Head0
import HandS.Head1
import HandS.Head2
import HandS.HeadEnd
import HandS.HeadHook1
import HandS.HeadHook2
set_option Elab.async false
set_option linter.all false
set_option maxRecDepth 100000
set_option maxHeartbeats 4000000
/-! DL1: values as told by predicates over a frozen part of the heap; cells owned by a name or a value on its way. -/
namespace DL
open PySem PySem.Spec PyProof.Rows L2

abbrev St := L2.St
abbrev Own := List (Addr × HO)
def Ex (H H' : Hp) : Prop := ∀ a o, H a = some o → H' a = some o
theorem Ex.refl (H : Hp) : Ex H H := fun _ _ h => h
theorem Ex.trans {H H1 H2 : Hp} (a : Ex H H1) (b : Ex H1 H2) : Ex H H2 := fun x o h => b x o (a x o h)
theorem Ex.new {H : Hp} {p : Addr} {o : HO} (h : H p = none) : Ex H (upd H p o) := fun a u e => by
  rw [upd_ne (ne_of_none e h)]; exact e
theorem Ex.none {H H' : Hp} {p : Addr} (e : Ex H H') (h : H' p = none) : H p = none := by
  cases q : H p with
  | none => rfl
  | some o => rw [e p o q] at h; cases h
theorem Ex.l {K : PySem.W.Frag} {H H' : Hp} {a : Addr} {xs : List V} (e : Ex H H') (h : SqL K H a xs) : SqL K H' a xs := by
  rcases h with (h | ⟨o, h⟩) | h
  · exact .inl (.inl (e _ _ h))
  · exact .inl (.inr ⟨o, e _ _ h⟩)
  · exact .inr h
theorem Ex.t {K : PySem.W.Frag} {H H' : Hp} {a : Addr} {xs : List V} (e : Ex H H') (h : SqT K H a xs) : SqT K H' a xs := by
  rcases h with (h | ⟨o, h⟩) | h
  · exact .inl (.inl (e _ _ h))
  · exact .inl (.inr ⟨o, e _ _ h⟩)
  · exact .inr h
/-- H and, where it has nothing, the cells of o -/
def plus (H : Hp) : Own → Hp
  | [] => H
  | (a, o) :: os => upd (plus H os) a o
theorem plus_ne {H : Hp} : ∀ {os : Own} {a : Addr}, a ∉ os.map (·.1) → plus H os a = H a
  | [], _, _ => rfl
  | (b, o) :: os, a, h => by
    simp only [List.map_cons, List.mem_cons, not_or] at h
    show upd (plus H os) b o a = H a
    rw [upd_ne h.1]; exact plus_ne h.2
theorem plus_at {H : Hp} : ∀ {os : Own} {a : Addr} {o : HO}, (os.map (·.1)).Nodup → (a, o) ∈ os → plus H os a = some o
  | (b, u) :: os, a, o, nd, h => by
    simp only [List.map_cons, List.nodup_cons] at nd
    show upd (plus H os) b u a = some o
    rcases List.mem_cons.mp h with e | h
    · cases e; exact upd_same
    · have : a ≠ b := fun e => nd.1 (e ▸ List.mem_map.mpr ⟨_, h, rfl⟩)
      rw [upd_ne this]; exact plus_at nd.2 h
theorem plus_inv {H : Hp} : ∀ {os : Own} {a : Addr} {o : HO}, plus H os a = some o → (a, o) ∈ os ∨ (a ∉ os.map (·.1) ∧ H a = some o)
  | [], _, _, h => .inr ⟨by simp, h⟩
  | (b, u) :: os, a, o, h => by
    by_cases e : a = b
    · subst e
      have h' : upd (plus H os) a u a = some o := h
      rw [upd_same] at h'; cases h'
      exact .inl List.mem_cons_self
    · have h' : upd (plus H os) b u a = some o := h
      rw [upd_ne e] at h'
      rcases plus_inv h' with q | ⟨q1, q2⟩
      · exact .inl (List.mem_cons_of_mem _ q)
      · exact .inr ⟨by simp only [List.map_cons, List.mem_cons, not_or]; exact ⟨e, q1⟩, q2⟩

/-- of a value, over the frozen part -/
structure FP where
  p : Hp → V → Prop
  mono : ∀ {H H' : Hp} {v : V}, Ex H H' → p H v → p H' v
/-- of a value that owns cells; fr: what is left of it when they freeze -/
structure As where
  p : Hp → V → Own → Prop
  mono : ∀ {H H' : Hp} {v : V} {o : Own}, Ex H H' → p H v o → p H' v o
  fr : FP
  frz : ∀ {H H' : Hp} {v : V} {o : Own}, Ex H H' → (∀ q ∈ o, H' q.1 = some q.2) → p H v o → fr.p H' v
def As.fz (P : FP) : As := ⟨fun H v o => o = [] ∧ P.p H v, fun e h => ⟨h.1, P.mono e h.2⟩, P, fun e _ h => P.mono e h.2⟩

/-- where one stands: B the frozen part at the entry, He the heap at the entry, bor the cells that were lent -/
structure Reg where
  B : Hp
  He : Hp
  bor : List Addr
structure Held (G : Reg) (HF : Hp) (os : Own) (H : Hp) : Prop where
  sub : Ex G.B HF
  inH : Ex HF H
  own : ∀ q ∈ os, H q.1 = some q.2 ∧ HF q.1 = none ∧ (G.He q.1 = none ∨ q.1 ∈ G.bor)
  nd : (os.map (·.1)).Nodup
  new : ∀ a o, HF a = some o → G.B a = some o ∨ G.He a = none ∨ a ∈ G.bor
  keep : ∀ a o, G.He a = some o → a ∈ G.bor ∨ H a = some o
  there : ∀ a o, G.He a = some o → ∃ o', H a = some o'
section
variable {G : Reg} {HF H : Hp} {os o1 o2 : Own} {p : Addr} {o u : HO}
theorem Held.he (h : Held G HF os H) (hp : H p = none) : G.He p = none := by
  cases q : G.He p with
  | none => rfl
  | some o =>
    obtain ⟨o', e⟩ := h.there p o q
    rw [e] at hp; cases hp
theorem Held.hf (h : Held G HF os H) (hp : H p = none) : HF p = none := h.inH.none hp
theorem Held.notin (h : Held G HF os H) (hp : H p = none) : p ∉ os.map (·.1) := fun hm => by
  obtain ⟨q, hq, e⟩ := List.mem_map.mp hm
  have := (h.own q hq).1
  rw [e, hp] at this; cases this
theorem Held.perm (h : Held G HF os H) (hp : os.Perm o1) : Held G HF o1 H :=
  ⟨h.sub, h.inH, fun q hq => h.own q (hp.mem_iff.mpr hq), (hp.map _).nodup_iff.mp h.nd, h.new, h.keep, h.there⟩
theorem Held.drop (h : Held G HF (o1 ++ o2) H) : Held G HF o2 H :=
  ⟨h.sub, h.inH, fun q hq => h.own q (List.mem_append_right _ hq), by
    have := h.nd; rw [List.map_append] at this; exact (List.nodup_append.mp this).2.1, h.new, h.keep, h.there⟩
theorem Held.fresh (h : Held G HF os H) (hp : H p = none) : Held G (upd HF p o) os (upd H p o) := by
  have hf := h.hf hp
  have ne : ∀ {a : Addr} {u : HO}, H a = some u → a ≠ p := fun e => ne_of_none e hp
  refine ⟨h.sub.trans (Ex.new hf), fun a u e => ?_, fun q hq => ?_, h.nd, fun a u e => ?_, fun a u e => ?_, fun a u e => ?_⟩
  · by_cases ha : a = p
    · subst ha; rw [upd_same] at e ⊢; exact e
    · rw [upd_ne ha] at e ⊢; exact h.inH a u e
  · obtain ⟨e1, e2, e3⟩ := h.own q hq
    exact ⟨by rw [upd_ne (ne e1)]; exact e1, by rw [upd_ne (ne e1)]; exact e2, e3⟩
  · by_cases ha : a = p
    · subst ha; exact .inr (.inl (h.he hp))
    · rw [upd_ne ha] at e; exact h.new a u e
  · rcases h.keep a u e with k | k
    · exact .inl k
    · exact .inr (by rw [upd_ne (ne k)]; exact k)
  · obtain ⟨u', k⟩ := h.there a u e
    exact ⟨u', by rw [upd_ne (ne k)]; exact k⟩
theorem Held.freshO (h : Held G HF os H) (hp : H p = none) : Held G HF ((p, o) :: os) (upd H p o) := by
  have hf := h.hf hp
  have ne : ∀ {a : Addr} {u : HO}, H a = some u → a ≠ p := fun e => ne_of_none e hp
  refine ⟨h.sub, h.inH.trans (Ex.new hp), fun q hq => ?_, ?_, h.new, fun a u e => ?_, fun a u e => ?_⟩
  · rcases List.mem_cons.mp hq with rfl | hq
    · exact ⟨upd_same, hf, .inl (h.he hp)⟩
    · obtain ⟨e1, e2, e3⟩ := h.own q hq
      exact ⟨by rw [upd_ne (ne e1)]; exact e1, e2, e3⟩
  · simp only [List.map_cons, List.nodup_cons]
    exact ⟨h.notin hp, h.nd⟩
  · rcases h.keep a u e with k | k
    · exact .inl k
    · exact .inr (by rw [upd_ne (ne k)]; exact k)
  · obtain ⟨u', k⟩ := h.there a u e
    exact ⟨u', by rw [upd_ne (ne k)]; exact k⟩
/-- an owned cell is written -/
theorem Held.put (h : Held G HF ((p, o) :: os) H) : Held G HF ((p, u) :: os) (upd H p u) := by
  obtain ⟨e1, e2, e3⟩ := h.own (p, o) List.mem_cons_self
  have nd := h.nd
  simp only [List.map_cons, List.nodup_cons] at nd
  refine ⟨h.sub, fun a v e => ?_, fun q hq => ?_, by simp only [List.map_cons, List.nodup_cons]; exact nd, h.new, fun a v e => ?_, fun a v e => ?_⟩
  · rw [upd_ne (ne_of_none e e2)]; exact h.inH a v e
  · rcases List.mem_cons.mp hq with rfl | hq
    · exact ⟨upd_same, e2, e3⟩
    · obtain ⟨f1, f2, f3⟩ := h.own q (List.mem_cons_of_mem _ hq)
      have : q.1 ≠ p := fun e => nd.1 (e ▸ List.mem_map.mpr ⟨q, hq, rfl⟩)
      exact ⟨by rw [upd_ne this]; exact f1, f2, f3⟩
  · by_cases ha : a = p
    · subst ha
      rcases e3 with z | z
      · rw [z] at e; cases e
      · exact .inl z
    · rcases h.keep a v e with k | k
      · exact .inl k
      · exact .inr (by rw [upd_ne ha]; exact k)
  · by_cases ha : a = p
    · subst ha; exact ⟨u, upd_same⟩
    · obtain ⟨u', k⟩ := h.there a v e
      exact ⟨u', by rw [upd_ne ha]; exact k⟩
/-- owned cells freeze -/
theorem Held.freeze (h : Held G HF (o1 ++ o2) H) : Held G (plus HF o1) o2 H ∧ Ex HF (plus HF o1) ∧ ∀ q ∈ o1, plus HF o1 q.1 = some q.2 := by
  have nd := h.nd
  rw [List.map_append] at nd
  obtain ⟨n1, n2, n3⟩ := List.nodup_append.mp nd
  have ex : Ex HF (plus HF o1) := fun a v e => by
    rw [plus_ne, e]
    intro hm
    obtain ⟨q, hq, eq⟩ := List.mem_map.mp hm
    have := (h.own q (List.mem_append_left _ hq)).2.1
    rw [eq, e] at this; cases this
  refine ⟨⟨h.sub.trans ex, fun a v e => ?_, fun q hq => ?_, n2, fun a v e => ?_, h.keep, h.there⟩, ex, fun q hq => plus_at n1 hq⟩
  · rcases plus_inv e with e | ⟨_, e⟩
    · exact (h.own _ (List.mem_append_left _ e)).1
    · exact h.inH a v e
  · obtain ⟨f1, f2, f3⟩ := h.own q (List.mem_append_right _ hq)
    refine ⟨f1, ?_, f3⟩
    rw [plus_ne, f2]
    exact fun hm => n3 _ hm _ (List.mem_map.mpr ⟨q, hq, rfl⟩) rfl
  · rcases plus_inv e with e | ⟨_, e⟩
    · rcases (h.own _ (List.mem_append_left _ e)).2.2 with z | z
      · exact .inr (.inl z)
      · exact .inr (.inr z)
    · exact h.new a v e
end

/-- values on their way -/
inductive Tm (HF : Hp) : Own → List (V × As) → Prop
  | nil : Tm HF [] []
  | cons {v : V} {A : As} {o os : Own} {T : List (V × As)} : A.p HF v o → Tm HF os T → Tm HF (o ++ os) ((v, A) :: T)
abbrev Ev := List (Option As)
/-- the names' slots -/
inductive Sl (HF : Hp) : Own → St → Ev → Prop
  | nil : Sl HF [] [] []
  | skip {x : Option V} {os : Own} {σ : St} {env : Ev} : Sl HF os σ env → Sl HF os (x :: σ) (none :: env)
  | cons {v : V} {A : As} {o os : Own} {σ : St} {env : Ev} : A.p HF v o → Sl HF os σ env → Sl HF (o ++ os) (some v :: σ) (some A :: env)
section
variable {HF HF' : Hp} {o os os' : Own} {T : List (V × As)} {σ : St} {env : Ev} {v : V} {A : As} {i : Nat}
theorem Tm.mono (e : Ex HF HF') (h : Tm HF os T) : Tm HF' os T := by
  induction h with
  | nil => exact .nil
  | cons a _ ih => exact .cons (A := _) (As.mono _ e a) ih
theorem Tm.perm {T T' : List (V × As)} (p : T.Perm T') : ∀ {os : Own}, Tm HF os T → ∃ os', os.Perm os' ∧ Tm HF os' T' := by
  induction p with
  | nil => intro os h; exact ⟨os, List.Perm.refl _, h⟩
  | cons x _ ih =>
    intro os h
    cases h with
    | cons a t =>
      obtain ⟨os', h1, h2⟩ := ih t
      exact ⟨_, List.Perm.append_left _ h1, .cons a h2⟩
  | swap x y l =>
    intro os h
    cases h with
    | cons a t =>
      cases t with
      | cons b t =>
        refine ⟨_, ?_, .cons b (.cons a t)⟩
        rw [← List.append_assoc, ← List.append_assoc]
        exact List.Perm.append_right _ List.perm_append_comm
  | trans _ _ ih1 ih2 =>
    intro os h
    obtain ⟨o1, h1, h2⟩ := ih1 h
    obtain ⟨o2, h3, h4⟩ := ih2 h2
    exact ⟨o2, h1.trans h3, h4⟩
theorem Sl.mono (e : Ex HF HF') (h : Sl HF os σ env) : Sl HF' os σ env := by
  induction h with
  | nil => exact .nil
  | skip _ ih => exact .skip ih
  | cons a _ ih => exact .cons (As.mono _ e a) ih
theorem Sl.len (h : Sl HF os σ env) : σ.length = env.length := by
  induction h with
  | nil => rfl
  | skip _ ih => simp [ih]
  | cons _ _ ih => simp [ih]
/-- a slot is taken out -/
theorem Sl.take : ∀ {os : Own} {σ : St} {env : Ev} {i : Nat}, Sl HF os σ env → env[i]? = some (some A) → ∃ v o os', σ[i]? = some (some v) ∧ A.p HF v o ∧ os.Perm (o ++ os') ∧ Sl HF os' σ (env.set i none)
  | _, _, _, _, .nil, h => by simp at h
  | _, _, _, 0, .skip _, h => by simp at h
  | _, _, _, i + 1, .skip s, h => by
    obtain ⟨v, o, os', h1, h2, h3, h4⟩ := Sl.take (i := i) s (by simpa using h)
    exact ⟨v, o, os', by simpa using h1, h2, h3, .skip h4⟩
  | _, _, _, 0, .cons a s, h => by
    simp only [List.getElem?_cons_zero, Option.some.injEq] at h
    subst h
    exact ⟨_, _, _, rfl, a, List.Perm.refl _, .skip s⟩
  | _, _, _, i + 1, .cons (o := o0) (os := os0) a s, h => by
    obtain ⟨v, o, os', h1, h2, h3, h4⟩ := Sl.take (i := i) s (by simpa using h)
    refine ⟨v, o, o0 ++ os', by simpa using h1, h2, ?_, .cons a h4⟩
    refine (List.Perm.append_left o0 h3).trans ?_
    rw [← List.append_assoc, ← List.append_assoc]
    exact List.Perm.append_right _ List.perm_append_comm
/-- a value is laid into a slot (what was there is dropped) -/
theorem Sl.put : ∀ {os : Own} {σ : St} {env : Ev} {i : Nat}, Sl HF os σ env → i < env.length → A.p HF v o → ∃ d os', os.Perm (d ++ os') ∧ ∃ o2, o2.Perm (o ++ os') ∧ Sl HF o2 (σ.set i (some v)) (env.set i (some A))
  | _, _, _, _, .nil, h, _ => by simp at h
  | _, _, _, 0, .skip (os := os0) s, _, a => ⟨[], os0, List.Perm.refl _, _, List.Perm.refl _, .cons a s⟩
  | _, _, _, 0, .cons (o := o0) (os := os0) b s, _, a => ⟨o0, os0, List.Perm.refl _, _, List.Perm.refl _, .cons a s⟩
  | _, _, _, i + 1, .skip s, h, a => by
    obtain ⟨d, os', h1, o2, h2, h3⟩ := Sl.put (i := i) s (by simpa using h) a
    exact ⟨d, os', h1, o2, h2, .skip h3⟩
  | _, _, _, i + 1, .cons (o := o0) (os := os0) b s, h, a => by
    obtain ⟨d, os', h1, o2, h2, h3⟩ := Sl.put (i := i) s (by simpa using h) a
    refine ⟨d, o0 ++ os', ?_, o0 ++ o2, ?_, .cons b h3⟩
    · refine (List.Perm.append_left o0 h1).trans ?_
      rw [← List.append_assoc, ← List.append_assoc]
      exact List.Perm.append_right _ List.perm_append_comm
    · refine (List.Perm.append_left o0 h2).trans ?_
      rw [← List.append_assoc, ← List.append_assoc]
      exact List.Perm.append_right _ List.perm_append_comm
/-- the same value, laid back -/
theorem Sl.back : ∀ {os : Own} {σ : St} {env : Ev} {i : Nat}, Sl HF os σ env → σ[i]? = some (some v) → env[i]? = some none → A.p HF v o → ∃ o2, o2.Perm (o ++ os) ∧ Sl HF o2 σ (env.set i (some A))
  | _, _, _, _, .nil, h, _, _ => by simp at h
  | _, _, _, 0, .skip s, h, _, a => by
    simp only [List.getElem?_cons_zero, Option.some.injEq] at h
    subst h
    exact ⟨_, List.Perm.refl _, .cons a s⟩
  | _, _, _, 0, .cons _ _, _, h, _ => by simp at h
  | _, _, _, i + 1, .skip s, h, h', a => by
    obtain ⟨o2, h2, h3⟩ := Sl.back (i := i) s (by simpa using h) (by simpa using h') a
    exact ⟨o2, h2, .skip h3⟩
  | _, _, _, i + 1, .cons (o := o0) (os := os0) b s, h, h', a => by
    obtain ⟨o2, h2, h3⟩ := Sl.back (i := i) s (by simpa using h) (by simpa using h') a
    refine ⟨o0 ++ o2, ?_, .cons b h3⟩
    refine (List.Perm.append_left o0 h2).trans ?_
    rw [← List.append_assoc, ← List.append_assoc]
    exact List.Perm.append_right _ List.perm_append_comm
end
/-- THE STATE: values on their way, slots -/
def StA (G : Reg) (T : List (V × As)) (env : Ev) (σ : St) (H : Hp) : Prop :=
  ∃ (HF : Hp) (o1 o2 : Own), Held G HF (o1 ++ o2) H ∧ Tm HF o1 T ∧ Sl HF o2 σ env
section
variable {G : Reg} {T T' : List (V × As)} {env env' : Ev} {σ : St} {H : Hp} {v w : V} {A B : As} {P : FP} {i : Nat}
theorem perm_mid (a b c : Own) : (a ++ (b ++ c)).Perm (b ++ (a ++ c)) := by
  rw [← List.append_assoc, ← List.append_assoc]
  exact List.Perm.append_right _ List.perm_append_comm
/-- the top value, over any frozen part -/
theorem StA.top (h : StA G ((v, A) :: T) env σ H) : ∃ (HF : Hp) (o o1 o2 : Own), Held G HF (o ++ (o1 ++ o2)) H ∧ A.p HF v o ∧ Tm HF o1 T ∧ Sl HF o2 σ env := by
  obtain ⟨HF, o1, o2, h1, h2, h3⟩ := h
  cases h2 with
  | cons a t => exact ⟨HF, _, _, o2, by rw [← List.append_assoc]; exact h1, a, t, h3⟩
theorem StA.ofTop {HF : Hp} {o o1 o2 : Own} (h : Held G HF (o ++ (o1 ++ o2)) H) (a : A.p HF v o) (t : Tm HF o1 T) (s : Sl HF o2 σ env) : StA G ((v, A) :: T) env σ H :=
  ⟨HF, o ++ o1, o2, by rw [List.append_assoc]; exact h, .cons a t, s⟩
theorem StA.pop (h : StA G ((v, A) :: T) env σ H) : StA G T env σ H := by
  obtain ⟨HF, o, o1, o2, h1, _, h3, h4⟩ := h.top
  exact ⟨HF, o1, o2, h1.drop, h3, h4⟩
theorem StA.swap (h : StA G ((v, A) :: (w, B) :: T) env σ H) : StA G ((w, B) :: (v, A) :: T) env σ H := by
  obtain ⟨HF, o, o1, o2, h1, h2, h3, h4⟩ := h.top
  cases h3 with
  | @cons _ _ ob os _ b t =>
    refine StA.ofTop (o := ob) (o1 := o ++ os) (o2 := o2) ?_ b (.cons h2 t) h4
    rw [List.append_assoc] at h1 ⊢
    exact h1.perm (perm_mid _ _ _)
theorem StA.perm (h : StA G T env σ H) (p : T.Perm T') : StA G T' env σ H := by
  obtain ⟨HF, o1, o2, h1, h2, h3⟩ := h
  obtain ⟨o3, h4, h5⟩ := h2.perm p
  exact ⟨HF, o3, o2, h1.perm (List.Perm.append_right _ h4), h5, h3⟩
/-- a value that owns nothing and wants nothing of the heap -/
theorem StA.push (h : StA G T env σ H) (hp : ∀ HF, P.p HF v) : StA G ((v, .fz P) :: T) env σ H := by
  obtain ⟨HF, o1, o2, h1, h2, h3⟩ := h
  exact ⟨HF, o1, o2, h1, .cons (o := []) ⟨rfl, hp HF⟩ h2, h3⟩
theorem StA.dup (h : StA G ((v, .fz P) :: T) env σ H) : StA G ((v, .fz P) :: (v, .fz P) :: T) env σ H := by
  obtain ⟨HF, o, o1, o2, h1, ⟨rfl, a⟩, h3, h4⟩ := h.top
  exact StA.ofTop (o := []) (o1 := o1) (o2 := o2) h1 ⟨rfl, a⟩ (.cons (o := []) ⟨rfl, a⟩ h3) h4
/-- what the top says can be said otherwise -/
theorem StA.say {B : As} (h : StA G ((v, A) :: T) env σ H) (hp : ∀ HF o, A.p HF v o → B.p HF v o) : StA G ((v, B) :: T) env σ H := by
  obtain ⟨HF, o, o1, o2, h1, a, h3, h4⟩ := h.top
  exact StA.ofTop h1 (hp _ _ a) h3 h4
/-- the top freezes -/
theorem StA.freeze (h : StA G ((v, A) :: T) env σ H) : StA G ((v, .fz A.fr) :: T) env σ H := by
  obtain ⟨HF, o, o1, o2, h1, a, h3, h4⟩ := h.top
  obtain ⟨k1, k2, k3⟩ := h1.freeze
  exact StA.ofTop (o := []) (o1 := o1) (o2 := o2) k1 ⟨rfl, A.frz k2 k3 a⟩ (h3.mono k2) (h4.mono k2)
/-- a slot's value comes out, the slot's own claim is left empty -/
theorem StA.take (h : StA G T env σ H) (hi : env[i]? = some (some A)) : ∃ v, σ[i]? = some (some v) ∧ StA G ((v, A) :: T) (env.set i none) σ H := by
  obtain ⟨HF, o1, o2, h1, h2, h3⟩ := h
  obtain ⟨v, o, os', e, a, pm, s⟩ := h3.take hi
  refine ⟨v, e, HF, o ++ o1, os', ?_, .cons a h2, s⟩
  refine h1.perm ((List.Perm.append_left o1 pm).trans ?_)
  rw [List.append_assoc]
  exact perm_mid _ _ _
theorem StA.back (h : StA G ((v, A) :: T) env σ H) (he : σ[i]? = some (some v)) (hi : env[i]? = some none) : StA G T (env.set i (some A)) σ H := by
  obtain ⟨HF, o, o1, o2, h1, a, h3, h4⟩ := h.top
  obtain ⟨o3, pm, s⟩ := h4.back he hi a
  refine ⟨HF, o1, o3, h1.perm ?_, h3, s⟩
  exact (perm_mid _ _ _).trans (List.Perm.append_left o1 pm.symm)
/-- a slot that owns nothing is read -/
theorem StA.read (h : StA G T env σ H) (hi : env[i]? = some (some (.fz P))) : ∃ v, σ[i]? = some (some v) ∧ StA G ((v, .fz P) :: T) env σ H := by
  obtain ⟨v, e, h1⟩ := h.take hi
  have hl : i < env.length := (List.getElem?_eq_some_iff.mp hi).1
  refine ⟨v, e, ?_⟩
  have h2 := (h1.dup.back e (by rw [List.getElem?_set_self hl])) 
  rw [List.set_set] at h2
  have : env.set i (some (As.fz P)) = env := by
    apply List.ext_getElem?
    intro j
    by_cases hj : i = j
    · subst hj; rw [List.getElem?_set_self hl, hi]
    · rw [List.getElem?_set_ne hj]
  rw [this] at h2
  exact h2
/-- the top is stored in a slot -/
theorem StA.store (h : StA G ((v, A) :: T) env σ H) (hi : i < env.length) : StA G T (env.set i (some A)) (σ.set i (some v)) H := by
  obtain ⟨HF, o, o1, o2, h1, a, h3, h4⟩ := h.top
  obtain ⟨d, os', pm, o3, pm2, s⟩ := h4.put hi a
  refine ⟨HF, o1, o3, ?_, h3, s⟩
  have h2 : Held G HF (d ++ (o ++ (o1 ++ os'))) H := h1.perm (by
    refine (List.Perm.append_left o (List.Perm.append_left o1 pm)).trans ?_
    refine (List.Perm.append_left o (perm_mid _ _ _)).trans ?_
    exact perm_mid _ _ _)
  refine h2.drop.perm ?_
  refine (perm_mid _ _ _).trans (List.Perm.append_left o1 pm2.symm)
/-- a slot is forgotten -/
theorem StA.forget (h : StA G T env σ H) (i : Nat) (A : As) (hi : env[i]? = some (some A)) : StA G T (env.set i none) σ H := by
  obtain ⟨v, _, h1⟩ := h.take hi
  exact h1.pop
/-- a slot freezes -/
theorem StA.chill (h : StA G T env σ H) (hi : env[i]? = some (some A)) : StA G T (env.set i (some (.fz A.fr))) σ H := by
  obtain ⟨v, e, h1⟩ := h.take hi
  have hl : i < env.length := (List.getElem?_eq_some_iff.mp hi).1
  have h2 := h1.freeze.back e (by rw [List.getElem?_set_self hl])
  rw [List.set_set] at h2
  exact h2
theorem StA.len (h : StA G T env σ H) : σ.length = env.length := by
  obtain ⟨_, _, _, _, _, s⟩ := h
  exact s.len
end
end DL

set_option maxHeartbeats 4000000
/-! DLH: walks over tuples, lists, empty dicts while an exception is handled. -/
namespace DL
open PySem PySem.Spec PyProof.Rows L2
section
variable {prog : Program} {w : World} {A : Around} {E : Value → Shared → Prop} {s : Shared}
theorem next_tuple_end_hot {it t x1 : Addr} {i : Nat} {items : Array Value} {Q : Option Value → Shared → Prop} (hot : HotX.HotAt A x1 s.heap) (hx1 : x1 ≠ it)
    (hit : s.heap.IsTupleIter it t i) (ht : s.heap.IsTuple t items) (hx : items[i]? = none)
    (hQ : ∀ h', (∀ b o, b ≠ it → s.heap.get? b = some o → h'.get? b = some o) → Q none { s with heap := h' }) : wpAny (model prog w) A (pyNext (.ref it)) Q E s := by
  obtain ⟨o, ho, hc, hd⟩ := id hit
  obtain ⟨ol, hol, _, nl, hdl⟩ := ht
  obtain ⟨hh, o1, vs1, h1, d1, c1⟩ := hot
  unfold pyNext
  refine wpAny_bind (wpAny_attempt (wpAny_callSpecial?_slot (name := Str.ofString "__next__") hit.typeIs F.slot_tuple_iterator_next
    (wpAny_call_entry F.slot_tuple_iterator_next hit.typeIs F.entry_tuple_iterator_next ?_ (F.args_tuple_iterator_next_1 _))))
  show wpAny _ _ (field (.ref it) 0 >>= _) _ _ s
  refine wpAny_bind (wpAny_field ho hd (x := .ref t) rfl ?_)
  show wpAny _ _ (if (Value.ref t == Value.none) = true then _ else _) _ _ s
  rw [if_neg (show ¬ ((Value.ref t == Value.none) = true) from Bool.false_ne_true)]
  show wpAny _ _ (field (.ref it) 1 >>= _) _ _ s
  refine wpAny_bind (wpAny_field ho hd (x := .int i 0) rfl ?_)
  show wpAny _ _ (seqItems? (.ref t) >>= _) _ _ s
  refine wpAny_bind (wpAny_seqItems hol hdl ?_)
  simp only [Int.toNat_natCast, hx]
  refine wpAny_bind (wpAny_rule (wpAny_bind (wpAny_setField ho hd (by simp) ?_)))
  show wpAny _ _ (newExc (.type "StopIteration") [] >>= _) _ _ _
  refine wpAny_bind ?_
  simp only [newExc, newTuple]
  refine wpAny_bind (wpAny_newObj_type ?_ (by size_fits))
  refine wpAny_bind (m := firstArgMember _ _) (wpAny_of_eq (a := Value.none) (by first | rfl | (simp only [firstArgMember]; rfl)) ?_)
  refine wpAny_newObj_type ?_ (by size_fits)
  have h1' : (s.heap.update it (Obj.mapFields (·.setIfInBounds 0 Value.none))).get? x1 = some o1 := (Heap.get?_update_other _ _ (Ne.symm hx1)).trans h1
  refine HotX.raiseNew_hot ⟨hh, o1, vs1, Heap.get?_push_of_some _ (Heap.get?_push_of_some _ h1'), d1, c1⟩ (Nat.ne_of_lt (Heap.lt_size (Heap.get?_push_of_some _ h1'))) (Heap.get?_push_size _ rfl) rfl (by first | (simp; done) | (simp; omega) | (simp only [Array.size_append]; simp; omega)) ?_
  refine wpAny_bind (wpAny_isInstance (T := "StopIteration") (b := true) ⟨_, Heap.get?_update_self _ (Heap.get?_push_size _ rfl) rfl, rfl⟩ isSubtype_stop ?_)
  refine wpAny_pure (hQ _ fun b ob hb e => ?_)
  have e' : (s.heap.update it (Obj.mapFields (·.setIfInBounds 0 Value.none))).get? b = some ob := (Heap.get?_update_other _ _ (Ne.symm hb)).trans e
  rw [Heap.get?_update_other _ _ (Nat.ne_of_gt (Heap.lt_size (Heap.get?_push_of_some _ e')))]
  exact Heap.get?_push_of_some _ (Heap.get?_push_of_some _ e')
theorem next_keys_end_hot {it d x1 : Addr} {i ep : Nat} {es : Array DictEntry} {Q : Option Value → Shared → Prop} (hot : HotX.HotAt A x1 s.heap) (hx1 : x1 ≠ it) (hit : s.heap.IsKeyIter it d i es.size ep)
    (hm : s.heap.DictRaw d es ep) (hge : es.size ≤ i)
    (hQ : ∀ h', (∀ b o, b ≠ it → s.heap.get? b = some o → h'.get? b = some o) → Q none { s with heap := h' }) : wpAny (model prog w) A (pyNext (.ref it)) Q E s := by
  obtain ⟨o, ho, hc, hd⟩ := id hit
  obtain ⟨od, hod, hcd, hdd⟩ := id hm
  obtain ⟨hh, o1, vs1, h1, d1, c1⟩ := hot
  unfold pyNext
  refine wpAny_bind (wpAny_attempt (wpAny_callSpecial?_slot (name := Str.ofString "__next__") hit.typeIs F.slot_dict_keyiterator_next
    (wpAny_call_entry F.slot_dict_keyiterator_next hit.typeIs F.entry_dict_keyiterator_next ?_ (F.args_dict_keyiterator_next_1 _))))
  refine wpAny_bind (wpAny_pure ?_)
  refine wpAny_bind ?_
  refine wpAny_bind ?_
  first | refine wpAny_bind (wpAny_typeNameOfWhole_keyiter hit.typeIs (wpAny_pure ?_)) | refine wpAny_bind (wpAny_typeNameOf_keyiter hit.typeIs (wpAny_pure ?_))
  refine wpAny_bind (wpAny_fieldsOf ho hd ?_)
  have hown : Builtin.Dict_items.ownsTuple "dict_keyiterator" = false := by decide
  simp only [hown, Bool.false_eq_true, if_false]
  show wpAny _ _ (if (Value.ref d == Value.none) = true then _ else _) _ _ s
  rw [if_neg (show ¬ ((Value.ref d == Value.none) = true) from Bool.false_ne_true)]
  refine wpAny_bind (wpAny_pure ?_)
  refine wpAny_bind (wpAny_dictEntries hod hdd ?_)
  rw [if_neg (by simp)]
  refine wpAny_bind (wpAny_pure ?_)
  refine wpAny_bind (wpAny_dictEpoch hod hdd ?_)
  rw [if_neg (by simp)]
  refine wpAny_pure ?_
  simp only [show ¬ ((i : Int) < 0) from by omega, if_false, Int.toNat_natCast, Array.getElem?_eq_none hge]
  refine wpAny_bind ?_
  first | refine wpAny_bind (wpAny_typeNameOfWhole_keyiter hit.typeIs (wpAny_pure ?_)) | refine wpAny_bind (wpAny_typeNameOf_keyiter hit.typeIs (wpAny_pure ?_))
  show wpAny _ _ (setField (.ref it) 0 .none >>= _) _ _ s
  refine wpAny_bind (wpAny_setField ho hd (by simp) ?_)
  show wpAny _ _ (newExc (.type "StopIteration") [] >>= _) _ _ _
  refine wpAny_bind ?_
  simp only [newExc, newTuple]
  refine wpAny_bind (wpAny_newObj_type ?_ (by size_fits))
  refine wpAny_bind (m := firstArgMember _ _) (wpAny_of_eq (a := Value.none) (by first | rfl | (simp only [firstArgMember]; rfl)) ?_)
  refine wpAny_newObj_type ?_ (by size_fits)
  have h1' : (s.heap.update it (Obj.mapFields (·.setIfInBounds 0 Value.none))).get? x1 = some o1 := (Heap.get?_update_other _ _ (Ne.symm hx1)).trans h1
  refine HotX.raiseNew_hot ⟨hh, o1, vs1, Heap.get?_push_of_some _ (Heap.get?_push_of_some _ h1'), d1, c1⟩ (Nat.ne_of_lt (Heap.lt_size (Heap.get?_push_of_some _ h1'))) (Heap.get?_push_size _ rfl) rfl (by first | (simp; done) | (simp; omega) | (simp only [Array.size_append]; simp; omega)) ?_
  refine wpAny_bind (wpAny_isInstance (T := "StopIteration") (b := true) ⟨_, Heap.get?_update_self _ (Heap.get?_push_size _ rfl) rfl, rfl⟩ isSubtype_stop ?_)
  refine wpAny_pure (hQ _ fun b ob hb e => ?_)
  have e' : (s.heap.update it (Obj.mapFields (·.setIfInBounds 0 Value.none))).get? b = some ob := (Heap.get?_update_other _ _ (Ne.symm hb)).trans e
  rw [Heap.get?_update_other _ _ (Nat.ne_of_gt (Heap.lt_size (Heap.get?_push_of_some _ e')))]
  exact Heap.get?_push_of_some _ (Heap.get?_push_of_some _ e')
end
/-- the handled exception's object is not the iterator -/
theorem hot_at {X : Cx} {pins : List (Addr × Obj)} {σ : L2.St} {H : Hp} {s : Shared} {it : Addr} (hc : L2H.HotC X) (I : Inv X pins σ H s) (hf : FpOk X pins H it) : ∃ x1, HotX.HotAt X.A x1 s.heap ∧ x1 ≠ it := by
  obtain ⟨p, ⟨hh, v1, e1, c1⟩, hp⟩ := hc
  have hm : p ∈ X.pn ++ pins := List.mem_append_left _ hp
  exact ⟨p.1, ⟨hh, p.2, v1, (I.pin p hm).1, e1, c1⟩, hf.2.2.2.2.2 p hm⟩
theorem turn_tupleH {P : Program} {w : World} {K : PySem.W.Frag} {tg : Expr} (a it : Addr) : L2H.TurnH P w K tg (Itt K a) [it] it (fun i h => h.IsTupleIter it a i) where
  mem := by simp
  obj := (turn_tuple (P := P) (w := w) (K := K) (tg := tg) a it).obj
  keep := (turn_tuple (P := P) (w := w) (K := K) (tg := tg) a it).keep
  item := by
    intro X hP hw hK hc i pins s σ H E I hf st hg
    subst hP hw hK
    obtain ⟨xs, x, hq, hx⟩ := hg
    obtain ⟨its, rv, p, hz⟩ := I.tuple hq
    obtain ⟨u, hu, ru⟩ := rv.get hx
    obtain ⟨f0, f1, f2, f3, f4, f5⟩ := hf it (by simp)
    refine wpAny_pyNext_tuple_item st (show s.heap.IsTuple a its.toArray from p) (x := u) (by simpa using hu) fun h' st' sb => ?_
    have I1 : Inv X pins σ H { s with heap := h' } := I.turned (t' := s.toks) (fun b o hb e => (sb.2 b hb).trans e) f0 f1 f3 f4 f5
    obtain ⟨o, e, c, d⟩ := id st'
    exact ⟨u, rfl, go_of (s := { s with heap := h' }) e c d (by decide) ⟨x, H, I1, ru, ⟨rfl, fun ys hy => by rw [I.tuple_inj hy hq]; exact hx⟩, st', fun b hb => (hf b hb).1⟩⟩
  done := by
    intro X hP hw hK hc i pins s σ H E I hf st hg
    subst hP hw hK
    obtain ⟨xs, hq, hx⟩ := hg
    obtain ⟨its, rv, p, hz⟩ := I.tuple hq
    have hfi := hf it (by simp)
    obtain ⟨f0, f1, f2, f3, f4, f5⟩ := hfi
    have hl := rv.length
    obtain ⟨x1, hot, hne⟩ := hot_at hc I (hf it (by simp))
    exact next_tuple_end_hot hot hne st (show s.heap.IsTuple a its.toArray from p) (by simp; omega) fun h' eb => ⟨rfl, I.turned (t' := s.toks) (fun b o hb e => eb b o hb e) f0 f1 f3 f4 f5⟩
  self := fun _ _ _ _ _ st h => wpAny_pyIter_tupleiter st h
theorem pi_tupH {X : Cx} {tg l : Expr} {tl : TE} (hl : PE X l tl) : L2H.PIH X tg l (iTup X.K tl) := by
  refine ⟨fun pins s σ H R I h => ?_⟩
  refine thn (hl.run pins s σ H _ I h) fun v s1 ⟨x, H1, I1, r1, q1⟩ => ?_
  obtain ⟨a, e, ⟨xs, hq⟩, q⟩ := q1
  subst e
  cases r1
  obtain ⟨its, rv, p, hz⟩ := I1.tuple hq
  refine wpAny_pyIter_tuple (show s1.heap.IsTuple a its.toArray from p) ?_
  refine ⟨s1.heap.objs.size, [s1.heap.objs.size], _, _, H1, rfl, I1.kept (t' := s1.toks) fun b o e => Heap.get?_push_of_some _ e, turn_tupleH a _, ⟨_, Heap.get?_push_size _ rfl, rfl, rfl⟩, fun b hb => ?_, q⟩
  have e : b = s1.heap.objs.size := by simpa using hb
  subst e
  exact I1.fpOk (Nat.le_refl _) (I1.hok.fresh (Nat.le_refl _))
end DL

set_option maxHeartbeats 4000000
/-! DL2: what an expression, a test, a statement does with the state; names, constants, operators, calls. -/
namespace DL
open PySem PySem.Spec PyProof.Rows L2

/-! ### readings that say just what is run -/
def cE (X : Cx) (e : Expr) : TE := fun σ H Q => ∀ (pins : List (Addr × Obj)) (s : Shared), Inv X pins σ H s → wpAny (model X.prog X.w) X.A (eval e X.env) (EP X pins σ Q) X.xe s
def cT (X : Cx) (e : Expr) : TT := fun σ H Q => ∀ (pins : List (Addr × Obj)) (s : Shared), Inv X pins σ H s → wpAny (model X.prog X.w) X.A (isTrue e X.env (eval e X.env)) (TP X pins σ Q) X.xe s
def cW (X : Cx) (e : Expr) : TT := fun σ H Q => ∀ (whole : Sem Value) (pins : List (Addr × Obj)) (s : Shared), Inv X pins σ H s → wpAny (model X.prog X.w) X.A (isTrue e X.env whole) (TP X pins σ Q) X.xe s
def cA (X : Cx) (es : List Expr) : TA := fun σ H Q => ∀ (pos : Pos) (pins : List (Addr × Obj)) (s : Shared), Inv X pins σ H s → wpAny (model X.prog X.w) X.A (spliced (backTo pos (starEach es X.env))) (AP X pins σ Q) X.xe s
def cS (X : Cx) (st : Stmt) : TS := fun D σ H => ∀ (pins : List (Addr × Obj)) (s : Shared), Inv X pins σ H s → wpAny (model X.prog X.w) X.A (exec st X.env) (SP X pins D) X.xe s
def cSs (X : Cx) (st : List Stmt) : TS := fun D σ H => ∀ (pins : List (Addr × Obj)) (s : Shared), Inv X pins σ H s → wpAny (model X.prog X.w) X.A (execs st X.env) (SP X pins D) X.xe s
def cG (X : Cx) (tg : Expr) : TG := fun v σ H Q => ∀ (pins : List (Addr × Obj)) (s : Shared) (u : Value), Inv X pins σ H s → RelV v u → wpAny (model X.prog X.w) X.A (assign tg X.env u) (fun _ s' => ∃ σ' H', Inv X pins σ' H' s' ∧ Q σ' H') X.xe s
section
variable {X : Cx} {e : Expr} {es : List Expr} {st : Stmt} {sts : List Stmt} {te : TE} {tt : TT} {ta : TA} {ts : TS} {tg : TG} {σ : St} {H : Hp}
theorem cE_pe : PE X e (cE X e) := ⟨fun pins s σ H Q I h => h pins s I⟩
theorem cT_pt : PT X e (cT X e) := ⟨fun pins s σ H Q I h => h pins s I⟩
theorem cW_pw : PW X e (cW X e) := ⟨fun whole pins s σ H Q I h => h whole pins s I⟩
theorem cA_pa : PA X es (cA X es) := ⟨fun pos pins s σ H Q I h => h pos pins s I⟩
theorem cS_ps : PS X st (cS X st) := ⟨fun pins s σ H D I h => h pins s I⟩
theorem cSs_pss : PSs X sts (cSs X sts) := ⟨fun pins s σ H D I h => h pins s I⟩
theorem cG_pg : PG X e (cG X e) := ⟨fun pins s σ H v u Q I r h => h pins s u I r⟩
theorem of_pe {Q : VK} (h : PE X e te) (q : te σ H Q) : cE X e σ H Q := fun pins s I => h.run pins s σ H Q I q
theorem of_pt {Q : Bool → Hp → Prop} (h : PT X e tt) (q : tt σ H Q) : cT X e σ H Q := fun pins s I => h.run pins s σ H Q I q
theorem of_pw {Q : Bool → Hp → Prop} (h : PW X e tt) (q : tt σ H Q) : cW X e σ H Q := fun wh pins s I => h.run wh pins s σ H Q I q
theorem of_pa {Q : List V → Hp → Prop} (h : PA X es ta) (q : ta σ H Q) : cA X es σ H Q := fun pos pins s I => h.run pos pins s σ H Q I q
theorem of_ps {D : Ends} (h : PS X st ts) (q : ts D σ H) : cS X st D σ H := fun pins s I => h.run pins s σ H D I q
theorem of_pss {D : Ends} (h : PSs X sts ts) (q : ts D σ H) : cSs X sts D σ H := fun pins s I => h.run pins s σ H D I q
theorem of_pg {v : V} {Q : St → Hp → Prop} (h : PG X e tg) (q : tg v σ H Q) : cG X e v σ H Q := fun pins s u I r => h.run pins s σ H v u Q I r q
end

/-! ### judgements -/
def DE (X : Cx) (G : Reg) (env : Ev) (e : Expr) (env' : Ev) (A : As) : Prop :=
  ∀ (T : List (V × As)) (σ : St) (H : Hp), StA G T env σ H → ∀ Q : VK, (∀ v H', StA G ((v, A) :: T) env' σ H' → Q v H') → cE X e σ H Q
def DT (X : Cx) (G : Reg) (env : Ev) (e : Expr) (env' : Ev) (b : Bool) : Prop :=
  ∀ (T : List (V × As)) (σ : St) (H : Hp), StA G T env σ H → ∀ Q : Bool → Hp → Prop, (∀ H', StA G T env' σ H' → Q b H') → cT X e σ H Q
def DW (X : Cx) (G : Reg) (env : Ev) (e : Expr) (env' : Ev) (b : Bool) : Prop :=
  ∀ (T : List (V × As)) (σ : St) (H : Hp), StA G T env σ H → ∀ Q : Bool → Hp → Prop, (∀ H', StA G T env' σ H' → Q b H') → cW X e σ H Q
def DA (X : Cx) (G : Reg) (env : Ev) (es : List Expr) (env' : Ev) (As' : List As) : Prop :=
  ∀ (T : List (V × As)) (σ : St) (H : Hp), StA G T env σ H → ∀ Q : List V → Hp → Prop, (∀ vs H', vs.length = As'.length → StA G (vs.zip As' ++ T) env' σ H' → Q vs H') → cA X es σ H Q
inductive Out where
  | nx (env : Ev) | rt (env : Ev) (A : As) | bk (env : Ev) | ct (env : Ev)
structure EndsOk (G : Reg) (T : List (V × As)) (P : Out → Prop) (D : Ends) : Prop where
  nx : ∀ env σ H, P (.nx env) → StA G T env σ H → D.nx σ H
  rt : ∀ env A v σ H, P (.rt env A) → StA G ((v, A) :: T) env σ H → D.rt v H
  bk : ∀ env σ H, P (.bk env) → StA G T env σ H → D.bk σ H
  ct : ∀ env σ H, P (.ct env) → StA G T env σ H → D.ct σ H
def DS (X : Cx) (G : Reg) (env : Ev) (st : Stmt) (P : Out → Prop) : Prop :=
  ∀ (T : List (V × As)) (σ : St) (H : Hp), StA G T env σ H → ∀ D : Ends, EndsOk G T P D → cS X st D σ H
def DSs (X : Cx) (G : Reg) (env : Ev) (st : List Stmt) (P : Out → Prop) : Prop :=
  ∀ (T : List (V × As)) (σ : St) (H : Hp), StA G T env σ H → ∀ D : Ends, EndsOk G T P D → cSs X st D σ H
/-- a target takes a value -/
def DG (X : Cx) (G : Reg) (env : Ev) (A : As) (tg : Expr) (env' : Ev) : Prop :=
  ∀ (T : List (V × As)) (v : V) (σ : St) (H : Hp), StA G ((v, A) :: T) env σ H → ∀ Q : St → Hp → Prop, (∀ σ' H', StA G T env' σ' H' → Q σ' H') → cG X tg v σ H Q
/-- it goes on, with env' -/
def NX (env' : Ev) : Out → Prop := fun o => o = .nx env'

/-! ### the body that runs -/
/-- no exception is handled | one is, and its context is None -/
def Cm : Bool → Cx → Prop
  | true, X => X.calm = true
  | false, X => L2H.HotC X
structure Bx (κ : Bool) (X : Cx) (N : List Str) (sc : Scope) (ok : Str → Bool) : Prop where
  N_ : X.N = N
  sc_ : X.env.scope = sc
  nd : N.Nodup
  cm : Cm κ X
  po : PassesOwn (model X.prog X.w) X.A X.env X.xe
  un : X.A.units + 100 < cLine
  hd' : κ = true → X.A.handled = none
  fn : ∀ x, ok x = true → Loc X.env.scope x → X.fn x = true ∨ X.env.scope.names.lookup x = some .local
theorem Bx.calm {X : Cx} {N : List Str} {sc : Scope} {ok : Str → Bool} (B : Bx true X N sc ok) : X.calm = true := B.cm
theorem Bx.hd {X : Cx} {N : List Str} {sc : Scope} {ok : Str → Bool} (B : Bx true X N sc ok) : X.A.handled = none := B.hd' rfl
section
variable {X : Cx} {N : List Str} {sc : Scope} {ok : Str → Bool} {G : Reg} {env env1 env2 env3 : Ev} {A B S : As} {P R : FP} {e a b : Expr} {es : List Expr} {pos : Pos} {x : Str} {i : Nat}

/-! ### data: lists are tracked -/
mutual
inductive Dp (K : PySem.W.Frag) (H : Hp) : V → PyData → Prop
  | non : Dp K H .non .none
  | bl (b : Bool) : Dp K H (.bl b) (.bool b)
  | int (i : Int) : Dp K H (.int i) (.int i)
  | str (x : Str) : Dp K H (.str x) (.str x)
  | lst {a : Addr} {xs : List V} {ds : List PyData} : H a = some (.lst xs) → DpAll K H xs ds → Dp K H (.ref a) (.list ds)
  | tup {a : Addr} {xs : List V} {ds : List PyData} : SqT K H a xs → DpAll K H xs ds → Dp K H (.ref a) (.tuple ds)
inductive DpAll (K : PySem.W.Frag) (H : Hp) : List V → List PyData → Prop
  | nil : DpAll K H [] []
  | cons {v : V} {vs : List V} {d : PyData} {ds : List PyData} : Dp K H v d → DpAll K H vs ds → DpAll K H (v :: vs) (d :: ds)
end
mutual
theorem toDp {K : PySem.W.Frag} {H : Hp} : ∀ {v : V} {d : PyData}, Dp K H v d → L2.Dp K H v d
  | _, _, .non => .non
  | _, _, .bl b => .bl b
  | _, _, .int i => .int i
  | _, _, .str x => .str x
  | _, _, .lst h a => .lst (SqL.of h) (toDpAll a)
  | _, _, .tup h a => .tup h (toDpAll a)
theorem toDpAll {K : PySem.W.Frag} {H : Hp} : ∀ {vs : List V} {ds : List PyData}, DpAll K H vs ds → L2.DpAll K H vs ds
  | _, _, .nil => .nil
  | _, _, .cons h t => .cons (toDp h) (toDpAll t)
end
mutual
theorem dp_mono {K : PySem.W.Frag} {H H' : Hp} (e : Ex H H') : ∀ {v : V} {d : PyData}, Dp K H v d → Dp K H' v d
  | _, _, .non => .non
  | _, _, .bl b => .bl b
  | _, _, .int i => .int i
  | _, _, .str x => .str x
  | _, _, .lst h a => .lst (e _ _ h) (dpAll_mono e a)
  | _, _, .tup h a => .tup (e.t h) (dpAll_mono e a)
theorem dpAll_mono {K : PySem.W.Frag} {H H' : Hp} (e : Ex H H') : ∀ {vs : List V} {ds : List PyData}, DpAll K H vs ds → DpAll K H' vs ds
  | _, _, .nil => .nil
  | _, _, .cons h t => .cons (dp_mono e h) (dpAll_mono e t)
end
def isD (K : PySem.W.Frag) (d : PyData) : FP := ⟨fun H v => Dp K H v d, fun e h => dp_mono e h⟩
theorem isD_int {K : PySem.W.Frag} {i : Int} (HF : Hp) : (isD K (.int i)).p HF (.int i) := Dp.int i
theorem isD_str {K : PySem.W.Frag} {i : Str} (HF : Hp) : (isD K (.str i)).p HF (.str i) := Dp.str i
theorem isD_bl {K : PySem.W.Frag} {i : Bool} (HF : Hp) : (isD K (.bool i)).p HF (.bl i) := Dp.bl i
theorem isD_non {K : PySem.W.Frag} (HF : Hp) : (isD K .none).p HF .non := Dp.non
abbrev dD (K : PySem.W.Frag) (d : PyData) : As := .fz (isD K d)
/-- anything at all -/
def isAny : FP := ⟨fun _ _ => True, fun _ h => h⟩
/-- this very value -/
def isV (v : V) : FP := ⟨fun _ w => w = v, fun _ h => h⟩

/-! ### names -/
theorem de_of {t : TE} (h : PE X e t) (k : ∀ T σ H, StA G T env σ H → ∀ Q : VK, (∀ v H', StA G ((v, A) :: T) env1 σ H' → Q v H') → t σ H Q) : DE X G env e env1 A :=
  fun T σ H hs Q q => of_pe h (k T σ H hs Q q)
theorem de_name (B : Bx κ X N sc ok) (i : Nat) (hN : N[i]? = some x := by rfl) (hv : Vis sc x := by first | exact Or.inl rfl | exact Or.inr (Or.inl rfl) | exact Or.inr (Or.inr rfl)) (hi : env[i]? = some (some (.fz P)) := by rfl)
    (hd : (x == ("__debug__" : Str)) = false := by decide) (hcd : (x == ("__classdict__" : Str)) = false := by decide) : DE X G env (.Name x pos) env (.fz P) :=
  de_of (pe_var (B.N_ ▸ hN) (B.sc_ ▸ hv) hd hcd) fun T σ H hs Q q => by
    obtain ⟨v, e, h⟩ := hs.read hi
    exact ⟨v, e, q v H h⟩
/-- what a name owns goes with its value -/
theorem de_move (B : Bx κ X N sc ok) (i : Nat) (hN : N[i]? = some x := by rfl) (hv : Vis sc x := by first | exact Or.inl rfl | exact Or.inr (Or.inl rfl) | exact Or.inr (Or.inr rfl)) (hi : env[i]? = some (some A) := by rfl)
    (hd : (x == ("__debug__" : Str)) = false := by decide) (hcd : (x == ("__classdict__" : Str)) = false := by decide) : DE X G env (.Name x pos) (env.set i none) A :=
  de_of (pe_var (B.N_ ▸ hN) (B.sc_ ▸ hv) hd hcd) fun T σ H hs Q q => by
    obtain ⟨v, e, h⟩ := hs.take hi
    exact ⟨v, e, q v H h⟩
/-- what it owns freezes on the way -/
theorem de_frz (h : DE X G env e env1 A) : DE X G env e env1 (.fz A.fr) := fun T σ H hs Q q => h T σ H hs Q fun v H' h' => q v H' h'.freeze
theorem de_say (h : DE X G env e env1 A) (hp : ∀ HF v o, A.p HF v o → B.p HF v o) : DE X G env e env1 B := fun T σ H hs Q q => h T σ H hs Q fun v H' h' => q v H' (h'.say fun HF o => hp HF v o)
theorem de_eq (h : DE X G env e env1 A) (q : A = B) : DE X G env e env1 B := q ▸ h
/-- ahead of it a slot freezes -/
theorem de_chill (i : Nat) (hi : env[i]? = some (some A)) (h : DE X G (env.set i (some (.fz A.fr))) e env1 B) : DE X G env e env1 B := fun T σ H hs Q q => h T σ H (hs.chill hi) Q q
theorem de_const {v : V} (h : PE X e (tC v)) (hp : ∀ HF, P.p HF v) : DE X G env e env (.fz P) := de_of h fun T σ H hs Q q => q v H (hs.push hp)
theorem de_int {i : Int} {j} : DE X G env (.Constant (.int i) j pos) env (dD X.K (.int i)) := de_const pe_int isD_int
theorem de_str {z : Str} {j} : DE X G env (.Constant (.str z) j pos) env (dD X.K (.str z)) := de_const pe_str isD_str
theorem de_bl {z : Bool} {j} : DE X G env (.Constant (.bool z) j pos) env (dD X.K (.bool z)) := de_const pe_bl isD_bl
theorem de_non {j} : DE X G env (.Constant .none j pos) env (dD X.K .none) := de_const pe_non isD_non
def GlS (sc : Scope) (x : Str) : Prop := sc.names.lookup x = some .globalImplicit
theorem Bx.gl {κ : Bool} (B : Bx κ X N sc ok) (h : GlS sc x) : Gl X x := by
  show X.env.scope.names.lookup x = _
  rw [B.sc_]; exact h
/-- a constant of the module -/
theorem de_glob (B : Bx κ X N sc ok) {v : V} {u : Value} (hm : X.mg x = some u) (r : RelV v u) (hp : ∀ HF, P.p HF v) (hg : GlS sc x := by rfl) (hd : (x == ("__debug__" : Str)) = false := by decide) : DE X G env (.Name x pos) env (.fz P) :=
  de_const (pe_glob (B.gl hg) hm r hd) hp

/-! ### operators -/
def OpD (X : Cx) (f : Value → Value → Sem Value) (P R : FP) (S : As) : Prop :=
  ∃ r : R2, OpR X f r ∧ ∀ (G : Reg) (T : List (V × As)) (env : Ev) (σ : St) (H : Hp) (va vb : V), StA G ((vb, .fz R) :: (va, .fz P) :: T) env σ H → ∀ Q : VK, (∀ v H', StA G ((v, S) :: T) env σ H' → Q v H') → r va vb H Q
theorem StA.two {T : List (V × As)} {σ : St} {H : Hp} {va vb : V} (h : StA G ((vb, .fz R) :: (va, .fz P) :: T) env σ H) : ∃ HF, Ex HF H ∧ P.p HF va ∧ R.p HF vb := by
  obtain ⟨HF, o, o1, o2, h1, ⟨_, hb⟩, h3, h4⟩ := h.top
  cases h3 with
  | cons a _ => exact ⟨HF, h1.inH, a.2, hb⟩
theorem StA.one {T : List (V × As)} {σ : St} {H : Hp} {va : V} (h : StA G ((va, .fz P) :: T) env σ H) : ∃ HF, Ex HF H ∧ P.p HF va := by
  obtain ⟨HF, o, o1, o2, h1, ⟨_, hb⟩, h3, h4⟩ := h.top
  exact ⟨HF, h1.inH, hb⟩
/-- the outcome a scalar -/
theorem opd_sc {f : Value → Value → Sem Value} {r : R2} (hr : OpR X f r) (w : V) (hw : ∀ HF, S.fr.p HF w) (hS : S = .fz S.fr) (k : ∀ HF H va vb, Ex HF H → P.p HF va → R.p HF vb → ∀ Q : VK, Q w H → r va vb H Q) : OpD X f P R S :=
  ⟨r, hr, fun G T env σ H va vb h Q q => by
    obtain ⟨HF, ex, ha, hb⟩ := h.two
    refine k HF H va vb ex ha hb Q (q w H ?_)
    rw [hS]
    exact h.pop.pop.push hw⟩
theorem de_bin {op : Operator} (ha : DE X G env a env1 A) (hb : DE X G env1 b env2 B) (ho : OpD X (binaryOp op) A.fr B.fr S) : DE X G env (.BinOp a op b pos) env2 S := by
  obtain ⟨r, hr, k⟩ := ho
  exact de_of (pe_op hr cE_pe cE_pe) fun T σ H hs Q q => ha T σ H hs _ fun va H1 h1 => hb _ σ H1 h1.freeze _ fun vb H2 h2 => k G T env2 σ H2 va vb h2.freeze Q q
theorem de_cmp {op : CmpOp} (ha : DE X G env a env1 A) (hb : DE X G env1 b env2 B) (ho : OpD X (compareOp op) A.fr B.fr S) (hm : behindInMarks op b = false := by first | rfl | exact nomark _) : DE X G env (.Compare a [op] [b] pos) env2 S := by
  obtain ⟨r, hr, k⟩ := ho
  exact de_of (pe_cmpR hr cE_pe cE_pe hm) fun T σ H hs Q q => ha T σ H hs _ fun va H1 h1 => hb _ σ H1 h1.freeze _ fun vb H2 h2 => k G T env2 σ H2 va vb h2.freeze Q q
theorem dt_cmp {op : CmpOp} {c : Bool} (ha : DE X G env a env1 A) (hb : DE X G env1 b env2 B) (ho : OpD X (compareOp op) A.fr B.fr (dD X.K (.bool c))) (hm : behindInMarks op b = false := by first | rfl | exact nomark _) : DT X G env (.Compare a [op] [b] pos) env2 c := by
  obtain ⟨r, hr, k⟩ := ho
  exact fun T σ H hs Q q => of_pt (pt_cmpR hr cE_pe cE_pe hm) (ha T σ H hs _ fun va H1 h1 => hb _ σ H1 h1.freeze _ fun vb H2 h2 => k G T env2 σ H2 va vb h2.freeze _ fun v H' h' => by
    obtain ⟨HF, ex, hv⟩ := h'.one
    cases (show Dp X.K HF v (.bool c) from hv)
    exact ⟨c, rfl, q H' h'.pop⟩)
theorem StA.bl {T : List (V × As)} {σ : St} {H : Hp} {v : V} {K : PySem.W.Frag} {c : Bool} (h : StA G ((v, dD K (.bool c)) :: T) env σ H) : v = .bl c := by
  obtain ⟨HF, ex, hv⟩ := h.one
  cases (show Dp K HF v (.bool c) from hv)
  rfl
/-- a op1 b op2 c -/
theorem de_chain {op op' : CmpOp} {c : Expr} {k1 k2 : Bool} {C : As} (ha : DE X G env a env1 A) (hb : DE X G env1 b env2 (.fz P)) (ho : OpD X (compareOp op) A.fr P (dD X.K (.bool k1))) (hc : DE X G env2 c env2 C) (ho' : OpD X (compareOp op') P C.fr (dD X.K (.bool k2)))
    (hm : lastMarks [op, op'] [b, c] = false := by with_unfolding_all rfl) : DE X G env (.Compare a [op, op'] [b, c] pos) env2 (dD X.K (.bool (k1 && k2))) := by
  obtain ⟨r, hr, k⟩ := ho
  obtain ⟨r', hr', k'⟩ := ho'
  refine de_of (pe_chain hr hr' cE_pe cE_pe cE_pe hm) fun T σ H hs Q q => ha T σ H hs _ fun va H1 h1 => hb _ σ H1 h1.freeze _ fun vb H2 h2 => ?_
  refine k G ((vb, .fz P) :: T) env2 σ H2 va vb (h2.dup.perm (.cons _ (.swap _ _ _))) _ fun v H' h' => ?_
  cases h'.bl
  refine ⟨k1, rfl, ?_⟩
  cases k1 with
  | true => exact hc _ σ H' h'.pop _ fun vc H3 h3 => k' G T env2 σ H3 vb vc h3.freeze Q q
  | false => exact q _ H' (h'.pop.pop.push isD_bl)

/-! ### tests, and, or, not -/
theorem dt_val {k : Bool} (h : DE X G env e env1 (dD X.K (.bool k))) (he : ∀ whole, isTrue e X.env whole = (do let v ← whole; standAt e.pos; holding [v] (truthy v)) := by intro _; rfl) : DT X G env e env1 k :=
  fun T σ H hs Q q => of_pt (pt_val cE_pe he) (h T σ H hs _ fun v H' h' => ⟨k, h'.bl, q H' h'.pop⟩)
theorem dt_w {k : Bool} (h : DW X G env e env1 k) : DT X G env e env1 k := fun T σ H hs Q q => of_pt cW_pw.pt (h T σ H hs Q q)
theorem dt_eq {k k' : Bool} (h : DT X G env e env1 k) (e' : k = k') : DT X G env e env1 k' := e' ▸ h
theorem dw_and1 {k : Bool} (h : DT X G env a env1 k) : DW X G env (.BoolOp .And [a] pos) env1 k := fun T σ H hs Q q => of_pw (pw_and1 cT_pt) (h T σ H hs Q q)
theorem dw_or1 {k : Bool} (h : DT X G env a env1 k) : DW X G env (.BoolOp .Or [a] pos) env1 k := fun T σ H hs Q q => of_pw (pw_or1 cT_pt) (h T σ H hs Q q)
theorem dw_and {k k' : Bool} {rest : List Expr} (h : DT X G env a env1 k) (h' : k = true → DW X G env1 (.BoolOp .And (b :: rest) pos) env1 k') : DW X G env (.BoolOp .And (a :: b :: rest) pos) env1 (k && k') :=
  fun T σ H hs Q q => of_pw (pw_and cT_pt cW_pw) (h T σ H hs _ fun H' h1 => by
    cases k with
    | true => exact h' rfl T σ H' h1 Q q
    | false => exact q H' h1)
theorem dw_or {k k' : Bool} {rest : List Expr} (h : DT X G env a env1 k) (h' : k = false → DW X G env1 (.BoolOp .Or (b :: rest) pos) env1 k') : DW X G env (.BoolOp .Or (a :: b :: rest) pos) env1 (k || k') :=
  fun T σ H hs Q q => of_pw (pw_or cT_pt cW_pw) (h T σ H hs _ fun H' h1 => by
    cases k with
    | false => exact h' rfl T σ H' h1 Q q
    | true => exact q H' h1)
/-- .. where what follows changes the slots -/
theorem dw_andE {k k' : Bool} {rest : List Expr} (h : DT X G env a env1 k) (h' : k = true → DW X G env1 (.BoolOp .And (b :: rest) pos) env2 k') : DW X G env (.BoolOp .And (a :: b :: rest) pos) (if k = true then env2 else env1) (k && k') :=
  fun T σ H hs Q q => of_pw (pw_and cT_pt cW_pw) (h T σ H hs _ fun H' h1 => by
    cases k with
    | true => exact h' rfl T σ H' h1 Q q
    | false => exact q H' h1)
theorem dw_orE {k k' : Bool} {rest : List Expr} (h : DT X G env a env1 k) (h' : k = false → DW X G env1 (.BoolOp .Or (b :: rest) pos) env2 k') : DW X G env (.BoolOp .Or (a :: b :: rest) pos) (if k = true then env1 else env2) (k || k') :=
  fun T σ H hs Q q => of_pw (pw_or cT_pt cW_pw) (h T σ H hs _ fun H' h1 => by
    cases k with
    | false => exact h' rfl T σ H' h1 Q q
    | true => exact q H' h1)
theorem dt_not {k : Bool} (h : DT X G env a env1 k) : DT X G env (.UnaryOp .Not a pos) env1 (!k) := fun T σ H hs Q q => of_pt (pt_not cT_pt) (h T σ H hs _ fun H' h1 => q H' h1)
/-- as values (bools) -/
theorem de_one {op} (h : DE X G env a env1 A) : DE X G env (.BoolOp op [a] pos) env1 A := de_of (pe_one cE_pe) fun T σ H hs Q q => h T σ H hs Q q
theorem de_and {k k' : Bool} {rest : List Expr} (h : DE X G env a env1 (dD X.K (.bool k))) (h' : k = true → DE X G env1 (.BoolOp .And (b :: rest) pos) env1 (dD X.K (.bool k'))) : DE X G env (.BoolOp .And (a :: b :: rest) pos) env1 (dD X.K (.bool (k && k'))) :=
  de_of (pe_and cE_pe cE_pe) fun T σ H hs Q q => h T σ H hs _ fun v H' h1 => ⟨k, h1.bl, by
    cases k with
    | true => exact h' rfl T σ H' h1.pop Q q
    | false => exact q _ H' (h1.pop.push isD_bl)⟩
theorem de_or {k k' : Bool} {rest : List Expr} (h : DE X G env a env1 (dD X.K (.bool k))) (h' : k = false → DE X G env1 (.BoolOp .Or (b :: rest) pos) env1 (dD X.K (.bool k'))) : DE X G env (.BoolOp .Or (a :: b :: rest) pos) env1 (dD X.K (.bool (k || k'))) :=
  de_of (pe_or cE_pe cE_pe) fun T σ H hs Q q => h T σ H hs _ fun v H' h1 => ⟨k, h1.bl, by
    cases k with
    | false => exact h' rfl T σ H' h1.pop Q q
    | true => exact q _ H' (h1.pop.push isD_bl)⟩
theorem de_not {k : Bool} (h : DE X G env a env1 (dD X.K (.bool k))) : DE X G env (.UnaryOp .Not a pos) env1 (dD X.K (.bool (!k))) :=
  de_of (pe_not cE_pe) fun T σ H hs Q q => h T σ H hs _ fun v H' h1 => ⟨k, h1.bl, q _ H' (h1.pop.push isD_bl)⟩
theorem de_if {c : Expr} {k : Bool} (hc : DT X G env c env1 k) (h1 : k = true → DE X G env1 a env2 A) (h2 : k = false → DE X G env1 b env2 A) : DE X G env (.IfExp c a b pos) env2 A :=
  de_of (pe_ifExp cT_pt cE_pe cE_pe) fun T σ H hs Q q => hc T σ H hs _ fun H' h' => by
    cases k with
    | true => exact h1 rfl T σ H' h' Q q
    | false => exact h2 rfl T σ H' h' Q q

/-! ### argument lists, calls by values -/
theorem da_nil : DA X G env [] env [] := fun T σ H hs Q q => of_pa pa_nil (q [] H rfl hs)
theorem da_cons {As' : List As} (h : DE X G env e env1 A) (hr : DA X G env1 es env2 As') (hst : starEach (e :: es) X.env = (false, eval e X.env) :: starEach es X.env := by rfl) : DA X G env (e :: es) env2 (A :: As') :=
  fun T σ H hs Q q => of_pa (pa_cons cE_pe cA_pa hst) (h T σ H hs _ fun v H1 h1 => hr _ σ H1 h1 _ fun vs H2 hl h2 => q (v :: vs) H2 (by simp [hl]) (h2.perm (by
    show (vs.zip As' ++ (v, A) :: T).Perm ((v, A) :: (vs.zip As' ++ T))
    exact List.perm_middle)))
theorem da_frz1 {As' : List As} (h : DA X G env es env1 (A :: As')) : DA X G env es env1 (.fz A.fr :: As') := fun T σ H hs Q q => h T σ H hs _ fun vs H' hl h' => by
  cases vs with
  | nil => cases hl
  | cons v vs => exact q (v :: vs) H' hl (StA.freeze h')
/-- a call of f with values that are as pre tells gives S; they are as aft tells then -/
def CallD (X : Cx) (f : Value) (pre aft : List As) (S : As) : Prop :=
  pre.length = aft.length ∧ ∃ r : List V → Hp → VK → Prop, CallR X f r ∧ ∀ (G : Reg) (T : List (V × As)) (env : Ev) (σ : St) (H : Hp) (vs : List V), vs.length = pre.length → StA G (vs.zip pre ++ T) env σ H → ∀ Q : VK, (∀ v H', StA G ((v, S) :: (vs.zip aft ++ T)) env σ H' → Q v H') → r vs H Q
theorem StA.popN : ∀ {vs : List V} {As' : List As} {T : List (V × As)} {σ : St} {H : Hp}, StA G (vs.zip As' ++ T) env σ H → StA G T env σ H
  | [], _, _, _, _, h => h
  | _ :: _, [], _, _, _, h => h
  | v :: vs, A :: As', T, σ, H, h => StA.popN (StA.pop (show StA G ((v, A) :: (vs.zip As' ++ T)) env σ H from h))
theorem StA.popN1 {v : V} {vs : List V} {As' : List As} {T : List (V × As)} {σ : St} {H : Hp} (h : StA G ((v, A) :: (vs.zip As' ++ T)) env σ H) : StA G ((v, A) :: T) env σ H :=
  StA.popN (vs := vs) (As' := As') (h.perm (List.perm_middle.symm))
/-- an own def's name, called -/
theorem pe_callG {X : Cx} {f : Addr} {r : List V → Hp → VK → Prop} {x : Str} {p pos : Pos} {e : Expr} {es : List Expr} {t : TA} (F : CallR X (.ref f) r) (hg : Gl X x) (hm : X.mg x = some (.ref f)) (hk : PySem.W.keepIn X.K (.ref f) = true) (ha : PA X (e :: es) t)
    (hdb : (x == ("__debug__" : Str)) = false := by decide) (he : starEach (e :: es) X.env = (false, eval e X.env) :: starEach es X.env := by rfl) (hpl : (backTo pos (starEach es X.env)).any (·.1) = false := by rfl) :
    PE X (.Call (.Name x p) (e :: es) [] pos) (tCB r t) := by
  refine ⟨fun pins s σ H Q I h => ?_⟩
  refine wpAny_Call_Name_kw (ld_glob I hg hm ?_ hdb)
  refine PySem.W.callWith_K (h₀ := X.base) I.ok.mod.kin hk (thn (ha.run pos pins s σ H _ I h) fun us s1 ⟨vs, H1, I1, r, q⟩ => ⟨I1.kIn, ?_⟩) he hpl
  exact F pins s1 σ H1 vs us Q I1 r q
theorem pe_callG0 {X : Cx} {f : Addr} {r : List V → Hp → VK → Prop} {x : Str} {p pos : Pos} (F : CallR X (.ref f) r) (hg : Gl X x) (hm : X.mg x = some (.ref f)) (hk : PySem.W.keepIn X.K (.ref f) = true)
    (hdb : (x == ("__debug__" : Str)) = false := by decide) : PE X (.Call (.Name x p) [] [] pos) (tCB r tNil) := by
  refine ⟨fun pins s σ H Q I h => ?_⟩
  refine wpAny_Call_Name_kw (ld_glob I hg hm ?_ hdb)
  exact PySem.W.callWith_K0 I.kIn hk (F pins s σ H [] [] Q I .nil h)
section
variable {pre aft As' : List As} {p : Pos} {f : Addr}
theorem StA.args {vs : List V} {T : List (V × As)} {σ : St} {H : Hp} (hA : As'.map (fun A => As.fz A.fr) = pre ∨ As' = pre) (h : StA G (vs.zip As' ++ T) env σ H) : StA G (vs.zip pre ++ T) env σ H := by
  rcases hA with rfl | rfl
  · have go : ∀ (vs : List V) (L : List As) (T : List (V × As)), StA G (vs.zip L ++ T) env σ H → StA G (vs.zip (L.map fun A => As.fz A.fr) ++ T) env σ H := by
      intro vs
      induction vs with
      | nil => intro L T h; exact h
      | cons v vs ih =>
        intro L T h
        cases L with
        | nil => exact h
        | cons A L =>
          have h1 : StA G ((v, A) :: (vs.zip L ++ T)) env σ H := h
          have h2 := ih L ((v, .fz A.fr) :: T) (h1.freeze.perm List.perm_middle.symm)
          exact h2.perm List.perm_middle
    exact go vs As' T h
  · exact h
/-- f(e, ..) -/
theorem de_call (B : Bx κ X N sc ok) (C : CallD X (.ref f) pre aft S) (hm : X.mg x = some (.ref f)) (hk : PySem.W.keepIn X.K (.ref f) = true) (ha : DA X G env (e :: es) env1 As') (hA : As'.map (fun A => As.fz A.fr) = pre ∨ As' = pre) (hg : GlS sc x := by rfl)
    (hdb : (x == ("__debug__" : Str)) = false := by decide) (he : starEach (e :: es) X.env = (false, eval e X.env) :: starEach es X.env := by rfl) (hpl : (backTo pos (starEach es X.env)).any (·.1) = false := by rfl) :
    DE X G env (.Call (.Name x p) (e :: es) [] pos) env1 S := by
  obtain ⟨hl, r, hr, k⟩ := C
  refine de_of (pe_callG hr (B.gl hg) hm hk cA_pa hdb he hpl) fun T σ H hs Q q => ha T σ H hs _ fun vs H1 hv h1 => ?_
  have hp : vs.length = pre.length := by
    rw [hv]; rcases hA with e | e
    · rw [← e, List.length_map]
    · rw [e]
  exact k G T env1 σ H1 vs hp (h1.args hA) Q fun v H' h' => q v H' (StA.popN1 h')
theorem de_call0 (B : Bx κ X N sc ok) (C : CallD X (.ref f) [] aft S) (hm : X.mg x = some (.ref f)) (hk : PySem.W.keepIn X.K (.ref f) = true) (hg : GlS sc x := by rfl)
    (hdb : (x == ("__debug__" : Str)) = false := by decide) : DE X G env (.Call (.Name x p) [] [] pos) env S := by
  obtain ⟨hl, r, hr, k⟩ := C
  refine de_of (pe_callG0 hr (B.gl hg) hm hk hdb) fun T σ H hs Q q => k G T env σ H [] rfl hs Q fun v H' h' => q v H' (by simpa using h')
/-- f(name, e, ..): the name's own cells are lent -/
theorem de_callL (B : Bx κ X N sc ok) {A' : As} {y : Str} {py : Pos} (i : Nat) (C : CallD X (.ref f) (A :: pre) (A' :: aft) S) (hm : X.mg x = some (.ref f)) (hk : PySem.W.keepIn X.K (.ref f) = true) (ha : DA X G env es env1 As') (hA : As'.map (fun A => As.fz A.fr) = pre ∨ As' = pre)
    (hi : env1[i]? = some (some A)) (hN : N[i]? = some y := by rfl) (hv : Vis sc y := by first | exact Or.inl rfl | exact Or.inr (Or.inl rfl) | exact Or.inr (Or.inr rfl)) (hy : ∃ A0, env[i]? = some (some A0)) (hg : GlS sc x := by rfl) (hd : (y == ("__debug__" : Str)) = false := by decide) (hcd : (y == ("__classdict__" : Str)) = false := by decide)
    (hdb : (x == ("__debug__" : Str)) = false := by decide) (he : starEach (.Name y py :: es) X.env = (false, eval (.Name y py) X.env) :: starEach es X.env := by rfl) (hpl : (backTo pos (starEach es X.env)).any (·.1) = false := by rfl) :
    DE X G env (.Call (.Name x p) (.Name y py :: es) [] pos) (env1.set i (some A')) S := by
  obtain ⟨hl, r, hr, k⟩ := C
  obtain ⟨A0, hy⟩ := hy
  refine de_of (pe_callG hr (B.gl hg) hm hk (pa_cons (pe_var (B.N_ ▸ hN) (B.sc_ ▸ hv) hd hcd) cA_pa he) hdb he hpl) fun T σ H hs Q q => ?_
  obtain ⟨v, e, _⟩ := hs.take hy
  refine ⟨v, e, ?_⟩
  refine ha T σ H hs _ fun vs H1 hv h1 => ?_
  have hp : vs.length = pre.length := by
    rw [hv]; rcases hA with e | e
    · rw [← e, List.length_map]
    · rw [e]
  obtain ⟨v', e', h2⟩ := (h1.args hA).take hi
  rw [e] at e'; cases e'
  refine k G T _ σ H1 (v :: vs) (by simp [hp]) h2 Q fun w H' h' => q w H' ?_
  have h3 : StA G ((w, S) :: ((v, A') :: (vs.zip aft ++ T))) (env1.set i none) σ H' := h'
  have hil : i < env1.length := (List.getElem?_eq_some_iff.mp hi).1
  have h4 := (h3.perm (.swap _ _ _)).back e (by rw [List.getElem?_set_self hil])
  rw [List.set_set] at h4
  exact StA.popN1 h4
/-- a built-in function, a built-in type -/
theorem de_callB (B : Bx κ X N sc ok) {id : String} (C : CallD X (.builtin id) pre aft S) (hm : X.mg x = none) (hv : bootBuiltins x = some (.builtin id)) (ha : DA X G env (e :: es) env1 As') (hA : As'.map (fun A => As.fz A.fr) = pre ∨ As' = pre) (hg : GlS sc x := by rfl)
    (hn : x ≠ "__name__" := by decide) (hdb : (x == ("__debug__" : Str)) = false := by decide) (he : starEach (e :: es) X.env = (false, eval e X.env) :: starEach es X.env := by rfl) (hpl : (backTo pos (starEach es X.env)).any (·.1) = false := by rfl) :
    DE X G env (.Call (.Name x p) (e :: es) [] pos) env1 S := by
  obtain ⟨hl, r, hr, k⟩ := C
  refine de_of (pe_callB hr (B.gl hg) hm hv cA_pa hn hdb he hpl) fun T σ H hs Q q => ha T σ H hs _ fun vs H1 hv h1 => ?_
  have hp : vs.length = pre.length := by
    rw [hv]; rcases hA with e | e
    · rw [← e, List.length_map]
    · rw [e]
  exact k G T env1 σ H1 vs hp (h1.args hA) Q fun v H' h' => q v H' (StA.popN1 h')
theorem de_callTy (B : Bx κ X N sc ok) {id : String} (C : CallD X (.type id) pre aft S) (hm : X.mg x = none) (hv : bootBuiltins x = some (.type id)) (ha : DA X G env (e :: es) env1 As') (hA : As'.map (fun A => As.fz A.fr) = pre ∨ As' = pre) (hg : GlS sc x := by rfl)
    (hn : x ≠ "__name__" := by decide) (hdb : (x == ("__debug__" : Str)) = false := by decide) (he : starEach (e :: es) X.env = (false, eval e X.env) :: starEach es X.env := by rfl) (hpl : (backTo pos (starEach es X.env)).any (·.1) = false := by rfl) :
    DE X G env (.Call (.Name x p) (e :: es) [] pos) env1 S := by
  obtain ⟨hl, r, hr, k⟩ := C
  refine de_of (pe_callTy hr (B.gl hg) hm hv cA_pa hn hdb he hpl) fun T σ H hs Q q => ha T σ H hs _ fun vs H1 hv h1 => ?_
  have hp : vs.length = pre.length := by
    rw [hv]; rcases hA with e | e
    · rw [← e, List.length_map]
    · rw [e]
  exact k G T env1 σ H1 vs hp (h1.args hA) Q fun v H' h' => q v H' (StA.popN1 h')
end

/-! ### statements -/
variable {st : Stmt} {sts : List Stmt} {Pt Pt' : Out → Prop}
theorem dss_nil (h : Pt (.nx env)) : DSs X G env [] Pt := fun T σ H hs D d => of_pss pss_nil (d.nx env σ H h hs)
theorem dss_cons {P1 : Out → Prop} (h1 : DS X G env st P1) (h2 : ∀ env1, P1 (.nx env1) → DSs X G env1 sts Pt) (hr : ∀ env1 A, P1 (.rt env1 A) → Pt (.rt env1 A)) (hb : ∀ env1, P1 (.bk env1) → Pt (.bk env1)) (hc : ∀ env1, P1 (.ct env1) → Pt (.ct env1)) : DSs X G env (st :: sts) Pt :=
  fun T σ H hs D d => of_pss (pss_cons cS_ps cSs_pss) (h1 T σ H hs { D with nx := cSs X sts D } ⟨fun env1 σ' H' p h' => h2 env1 p T σ' H' h' D d, fun env1 A v σ' H' p h' => d.rt env1 A v σ' H' (hr _ _ p) h', fun env1 σ' H' p h' => d.bk env1 σ' H' (hb _ p) h', fun env1 σ' H' p h' => d.ct env1 σ' H' (hc _ p) h'⟩)
/-- a statement that goes on -/
theorem dss_go (h1 : DS X G env st (NX env1)) (h2 : DSs X G env1 sts Pt) : DSs X G env (st :: sts) Pt :=
  dss_cons h1 (fun _ p => by cases p; exact h2) (fun _ _ p => by cases p) (fun _ p => by cases p) (fun _ p => by cases p)
/-- the last one -/
theorem dss_end (h1 : DS X G env st Pt) : DSs X G env [st] Pt := fun T σ H hs D d => of_pss (pss_one cS_ps) (h1 T σ H hs D d)
theorem ds_imp (h : DS X G env st Pt) (i : ∀ o, Pt o → Pt' o) : DS X G env st Pt' := fun T σ H hs D d => h T σ H hs D ⟨fun a b c p => d.nx a b c (i _ p), fun a b c e f p => d.rt a b c e f (i _ p), fun a b c p => d.bk a b c (i _ p), fun a b c p => d.ct a b c (i _ p)⟩
theorem dss_imp (h : DSs X G env sts Pt) (i : ∀ o, Pt o → Pt' o) : DSs X G env sts Pt' := fun T σ H hs D d => h T σ H hs D ⟨fun a b c p => d.nx a b c (i _ p), fun a b c e f p => d.rt a b c e f (i _ p), fun a b c p => d.bk a b c (i _ p), fun a b c p => d.ct a b c (i _ p)⟩
theorem dss_chill (i : Nat) (hi : env[i]? = some (some A)) (h : DSs X G (env.set i (some (.fz A.fr))) sts Pt) : DSs X G env sts Pt := fun T σ H hs D d => h T σ H (hs.chill hi) D d
theorem dss_forget (i : Nat) (hi : env[i]? = some (some A)) (h : DSs X G (env.set i none) sts Pt) : DSs X G env sts Pt := fun T σ H hs D d => h T σ H (hs.forget i A hi) D d
/-- x = e -/
theorem ds_set (B : Bx κ X N sc ok) (i : Nat) {pos' : Pos} (he : DE X G env e env1 A) (hN : N[i]? = some x := by rfl) (hx : Loc sc x := by first | exact Or.inl rfl | exact Or.inr rfl) (hi : i < env1.length := by exact of_decide_eq_true rfl) (hs : swapsWith e (some (.Name x pos')) pos.line X.env = pure false := by rfl) (hok : ok x = true := by rfl) : DS X G env (.Assign [.Name x pos'] e pos) (NX (env1.set i (some A))) :=
  fun T σ H hs' D d => of_ps (ps_set (B.N_ ▸ B.nd) (B.N_ ▸ hN) (B.sc_ ▸ hx) cE_pe hs (B.fn x hok (B.sc_ ▸ hx))) (he T σ H hs' _ fun v H' h' => d.nx _ _ H' rfl (h'.store hi))
theorem ds_expr (he : DE X G env e env1 A) (hs : swapsWith e none pos.line X.env = pure false := by rfl) : DS X G env (.Expr e pos) (NX env1) :=
  fun T σ H hs' D d => of_ps (ps_expr cE_pe hs) (he T σ H hs' _ fun v H' h' => d.nx _ _ H' rfl h'.pop)
theorem ds_ret (he : DE X G env e env1 A) (hP : Pt (.rt env1 A)) : DS X G env (.Return (some e) pos) Pt := fun T σ H hs D d => of_ps (ps_ret cE_pe) (he T σ H hs _ fun v H' h' => d.rt _ _ v σ H' hP h')
theorem ds_retN (hP : Pt (.rt env (dD X.K .none))) : DS X G env (.Return none pos) Pt := fun T σ H hs D d => of_ps ps_retN (d.rt _ _ _ σ H hP (hs.push isD_non))
theorem ds_pass : DS X G env (.Pass pos) (NX env) := fun T σ H hs D d => of_ps ps_pass (d.nx _ _ H rfl hs)
theorem ds_cont (hP : Pt (.ct env)) : DS X G env (.Continue pos) Pt := fun T σ H hs D d => of_ps ps_continue (d.ct _ _ H hP hs)
theorem ds_break (hP : Pt (.bk env)) : DS X G env (.Break pos) Pt := fun T σ H hs D d => of_ps ps_break (d.bk _ _ H hP hs)
theorem ds_if {c : Expr} {k : Bool} {t u : List Stmt} (hc : DT X G env c env1 k) (h1 : k = true → DSs X G env1 t Pt) (h2 : k = false → DSs X G env1 u Pt) : DS X G env (.If c t u pos) Pt :=
  fun T σ H hs D d => of_ps (ps_if cT_pt cSs_pss cSs_pss) (hc T σ H hs _ fun H' h' => by
    cases k with
    | true => exact h1 rfl T σ H' h' D d
    | false => exact h2 rfl T σ H' h' D d)
/-- if c: (leaves), then the rest where c fails -/
theorem dss_if {c : Expr} {k : Bool} {t u : List Stmt} (hc : DT X G env c env1 k) (h1 : k = true → DSs X G env1 t (fun o => Pt o ∧ ∀ e, o ≠ .nx e)) (h2 : k = false → DSs X G env1 (u ++ sts) Pt) (hu : u = [] := by rfl) : DSs X G env (.If c t u pos :: sts) Pt := by
  subst hu
  cases k with
  | true =>
    exact dss_cons (ds_if hc (fun _ => h1 rfl) (fun z => by cases z)) (fun _ p => absurd rfl (p.2 _)) (fun _ _ p => p.1) (fun _ p => p.1) (fun _ p => p.1)
  | false =>
    exact dss_go (ds_if (Pt := NX env1) hc (fun z => by cases z) (fun _ => dss_nil rfl)) (h2 rfl)
end
end DL

set_option maxHeartbeats 4000000
/-! DL3: what a def promises, a def's body; lent cells. -/
namespace DL
open PySem PySem.Spec PyProof.Rows L2

/-- the same, perhaps of one value alone -/
def As.at (A : As) (q : Option V) : As := ⟨fun H v o => (∀ w, q = some w → v = w) ∧ A.p H v o, fun e h => ⟨h.1, A.mono e h.2⟩, A.fr, fun e k h => A.frz e k h.2⟩
/-- an argument: told, or lent (A ahead, A' behind) -/
inductive Arg where
  | z (P : FP) | l (A A' : As)
def Arg.pre : Arg → As
  | .z P => .fz P
  | .l A _ => A.at none
def Arg.aft : Arg → As
  | .z P => .fz P
  | .l _ A' => A'.at none
def Arg.ent : Arg → V → As
  | .z P, _ => .fz P
  | .l A _, v => A.at (some v)
def ents : List Arg → List V → Ev
  | a :: as, v :: vs => some (a.ent v) :: ents as vs
  | _, _ => []
def lentOk : List Arg → List V → Ev → Prop
  | [], [], _ => True
  | .z _ :: as, _ :: vs, _ :: env => lentOk as vs env
  | .l _ A' :: as, v :: vs, x :: env => x = some (A'.at (some v)) ∧ lentOk as vs env
  | _, _, _ => False
def spD {ι : Type} (args : ι → List Arg) (ret : ι → As) : Sp := fun vs H Q _ => ∃ (i : ι) (HF : Hp) (os : Own), vs.length = (args i).length ∧ Held ⟨HF, H, os.map (·.1)⟩ HF os H ∧ Tm HF os (vs.zip ((args i).map Arg.pre)) ∧
  ∀ v H' HF' o1 o2, Held ⟨HF, H, os.map (·.1)⟩ HF' (o1 ++ o2) H' → (ret i).p HF' v o1 → Tm HF' o2 (vs.zip ((args i).map Arg.aft)) → Q v H'
section
variable {HF HF' : Hp} {os : Own} {T U : List (V × As)} {G : Reg} {H H' : Hp} {oa ob o1 : Own}
theorem Tm.split : ∀ {T : List (V × As)} {os : Own}, Tm HF os (T ++ U) → ∃ oa ob, os = oa ++ ob ∧ Tm HF oa T ∧ Tm HF ob U
  | [], os, h => ⟨[], os, rfl, .nil, h⟩
  | _ :: T, _, .cons a t => by
    obtain ⟨oa, ob, e, h1, h2⟩ := Tm.split t
    subst e
    exact ⟨_, ob, (List.append_assoc _ _ _).symm, .cons a h1, h2⟩
theorem Tm.join : ∀ {T : List (V × As)} {oa ob : Own}, Tm HF oa T → Tm HF ob U → Tm HF (oa ++ ob) (T ++ U)
  | _, _, _, .nil, h => h
  | _, _, _, .cons a t, h => by
    have := Tm.join t h
    rw [List.append_assoc]
    exact .cons a this
/-- what a callee is given -/
theorem Held.give (h : Held G HF (oa ++ ob) H) : Held ⟨HF, H, oa.map (·.1)⟩ HF oa H :=
  ⟨Ex.refl _, h.inH, fun q hq => ⟨(h.own q (List.mem_append_left _ hq)).1, (h.own q (List.mem_append_left _ hq)).2.1, .inr (List.mem_map.mpr ⟨q, hq, rfl⟩)⟩, by
    have := h.nd; rw [List.map_append] at this; exact (List.nodup_append.mp this).1, fun _ _ e => .inl e, fun _ _ e => .inr e, fun _ o e => ⟨o, e⟩⟩
theorem Held.after (h : Held G HF (oa ++ ob) H) (k : Held ⟨HF, H, oa.map (·.1)⟩ HF' o1 H') : Held G HF' (o1 ++ ob) H' := by
  have nd := h.nd
  rw [List.map_append] at nd
  obtain ⟨n1, n2, n3⟩ := List.nodup_append.mp nd
  have oaG : ∀ a, a ∈ oa.map (·.1) → (∃ o, H a = some o) ∧ (G.He a = none ∨ a ∈ G.bor) := fun a ha => by
    obtain ⟨q, hq, e⟩ := List.mem_map.mp ha
    obtain ⟨e1, _, e3⟩ := h.own q (List.mem_append_left _ hq)
    subst e
    exact ⟨⟨_, e1⟩, e3⟩
  have obH : ∀ q ∈ ob, q.1 ∉ oa.map (·.1) ∧ H q.1 = some q.2 ∧ HF q.1 = none ∧ (G.He q.1 = none ∨ q.1 ∈ G.bor) := fun q hq => by
    obtain ⟨e1, e2, e3⟩ := h.own q (List.mem_append_right _ hq)
    exact ⟨fun hm => n3 _ hm _ (List.mem_map.mpr ⟨q, hq, rfl⟩) rfl, e1, e2, e3⟩
  refine ⟨h.sub.trans k.sub, k.inH, fun q hq => ?_, ?_, fun a o e => ?_, fun a o e => ?_, fun a o e => ?_⟩
  · rcases List.mem_append.mp hq with hq | hq
    · obtain ⟨e1, e2, e3⟩ := k.own q hq
      refine ⟨e1, e2, ?_⟩
      rcases e3 with e3 | e3
      · exact .inl (h.he e3)
      · exact (oaG _ e3).2
    · obtain ⟨na, e1, e2, e3⟩ := obH q hq
      refine ⟨?_, ?_, e3⟩
      · rcases k.keep _ _ e1 with z | z
        · exact absurd z na
        · exact z
      · cases z : HF' q.1 with
        | none => rfl
        | some o =>
          rcases k.new _ _ z with z | z | z
          · rw [show HF q.1 = some o from z] at e2; cases e2
          · rw [show H q.1 = none from z] at e1; cases e1
          · exact absurd z na
  · rw [List.map_append]
    refine List.nodup_append.mpr ⟨k.nd, n2, fun a ha b hb e => ?_⟩
    subst e
    obtain ⟨q, hq, e⟩ := List.mem_map.mp ha
    obtain ⟨q', hq', e'⟩ := List.mem_map.mp hb
    obtain ⟨na, e1, e2, e3⟩ := obH q' hq'
    rw [e'] at na e1
    rcases (k.own q hq).2.2 with z | z
    · rw [e] at z
      rw [show H a = none from z] at e1; cases e1
    · rw [e] at z; exact na z
  · rcases k.new _ _ e with z | z | z
    · exact h.new _ _ z
    · exact .inr (.inl (h.he z))
    · rcases (oaG _ z).2 with z | z
      · exact .inr (.inl z)
      · exact .inr (.inr z)
  · rcases h.keep _ _ e with z | z
    · exact .inl z
    · rcases k.keep _ _ z with z' | z'
      · rcases (oaG _ z').2 with y | y
        · rw [y] at e; cases e
        · exact .inl y
      · exact .inr z'
  · obtain ⟨o', z⟩ := h.there _ _ e
    exact k.there _ _ z
end
section
variable {X : Cx} {CX : CXT} {k : Nat} {f : Addr} {fd : FuncData} {ps : List Str} {ι : Type} {args : ι → List Arg} {ret : ι → As}
theorem callD_of (F : FnOk X.prog X.w X.K X.mg X.base CX k f fd ps (spD args ret)) (hr : Room k X.A) (hb : Binds X.K fd ps []) {E : XK} (hx : Passes CX X E) (i : ι) : CallD X (.ref f) ((args i).map Arg.pre) ((args i).map Arg.aft) (ret i) := by
  refine ⟨by simp, fun vs H Q => spD args ret vs H Q E, fun pins s σ H vs us Q I r h => run_fn F hr hb .nil hx I r (by rw [List.append_nil]; exact h), fun G T env σ H vs hl h Q q => ?_⟩
  obtain ⟨HF, o1, o2, h1, h2, h3⟩ := h
  obtain ⟨oa, ob, e, h4, h5⟩ := h2.split
  subst e
  rw [List.append_assoc] at h1
  refine ⟨i, HF, oa, by simpa using hl, h1.give, h4, fun v H' HF' p1 p2 k1 kr ka => q v H' ?_⟩
  have h6 := h1.after k1
  have ex : Ex HF HF' := k1.sub
  rw [List.append_assoc] at h6
  refine StA.ofTop (o := p1) (o1 := p2 ++ ob) (o2 := o2) (by rw [List.append_assoc]; exact h6) kr (ka.join (h5.mono ex)) (h3.mono ex)
end
/-- fd lies at f -/
def FdAt (K : PySem.W.Frag) (f : Addr) (fd : FuncData) : Prop := ∃ (oc : Value) (od : Option Addr) (osl : Array (Option Value)), K.lookup f = some ⟨oc, od, .func fd, osl⟩
theorem fdAt_of {K : PySem.W.Frag} {x qual : Str} {params : Arguments} {body : List Stmt} {scope : Scope} {dvs : List V} {kws : List (Str × V)} {f : Addr} {fd : FuncData} (F : FunD K x qual params body scope dvs kws f fd) : FdAt K f fd := by
  obtain ⟨oc, od, _, _, _, _, _, _, _, osl, _, lk, _⟩ := F.ex
  exact ⟨oc, od, osl, lk⟩
theorem FdAt.uniq {K : PySem.W.Frag} {f : Addr} {fd fd' : FuncData} (h : FdAt K f fd) (h' : FdAt K f fd') : fd = fd' := by
  obtain ⟨a, b, c, e⟩ := h
  obtain ⟨a', b', c', e'⟩ := h'
  rw [e] at e'
  cases e'
  rfl
/-- a def of the module, by its name -/
def FnK (P : Program) (w : World) (K : PySem.W.Frag) (mg : Str → Option Value) (base : Heap) (CX : CXT) (x : Str) (k : Nat) (ps : List Str) (sp : Sp) : Prop :=
  ∃ (f : Addr) (fd : FuncData), mg x = some (.ref f) ∧ PySem.W.keepIn K (.ref f) = true ∧ Binds K fd ps [] ∧ FnOk P w K mg base CX k f fd ps sp ∧ FdAt K f fd
/-- how the body ends -/
def Fin (args : List Arg) (ret : As) (vs : List V) : Out → Prop
  | .rt env A => A = ret ∧ lentOk args vs env
  | .nx env => (∀ HF, ret.p HF .non []) ∧ lentOk args vs env
  | _ => False
def env0 (args : List Arg) (vs : List V) (N : List Str) : Ev := ents args vs ++ List.replicate (N.length - vs.length) none
section
variable {HF : Hp} {os : Own} {args : List Arg} {vs : List V} {σ : St} {env : Ev}
theorem sl_ents : ∀ {args : List Arg} {vs : List V} {os : Own}, vs.length = args.length → Tm HF os (vs.zip (args.map Arg.pre)) → ∀ n, Sl HF os (vs.map some ++ List.replicate n none) (ents args vs ++ List.replicate n none)
  | [], [], os, _, h, n => by
    cases h
    induction n with
    | zero => exact .nil
    | succ n ih => exact .skip ih
  | [], _ :: _, _, hl, _, _ => by cases hl
  | _ :: _, [], _, hl, _, _ => by cases hl
  | a :: as, v :: vs, os, hl, h, n => by
    cases (show Tm HF os ((v, a.pre) :: vs.zip (as.map Arg.pre)) from h) with
    | cons b t =>
      have ih := sl_ents (args := as) (vs := vs) (by simpa using hl) t n
      refine Sl.cons (A := a.ent v) ?_ ih
      cases a with
      | z P => exact b
      | l A A' => exact ⟨fun w e => (Option.some.inj e), b.2⟩
theorem tm_lent {HF0 : Hp} (ex : Ex HF0 HF) : ∀ {args : List Arg} {vs : List V} {env : Ev} {σ : St} {os ps : Own}, vs.length = args.length → lentOk args vs env → Sl HF os σ env → Tm HF0 ps (vs.zip (args.map Arg.pre)) →
    ∃ oa ob, os.Perm (oa ++ ob) ∧ Tm HF oa (vs.zip (args.map Arg.aft))
  | [], [], env, σ, os, _, _, _, h, _ => ⟨[], os, List.Perm.refl _, .nil⟩
  | [], _ :: _, _, _, _, _, hl, _, _, _ => by cases hl
  | _ :: _, [], _, _, _, _, hl, _, _, _ => by cases hl
  | a :: as, v :: vs, [], _, _, _, _, hk, _, _ => by cases a <;> cases hk
  | .z P :: as, v :: vs, x :: env, _, os, _, hl, hk, h, t => by
    cases (show Tm HF0 _ ((v, As.fz P) :: vs.zip (as.map Arg.pre)) from t) with
    | cons b t =>
      cases h with
      | skip s =>
        obtain ⟨oa, ob, p, r⟩ := tm_lent ex (args := as) (vs := vs) (by simpa using hl) hk s t
        exact ⟨oa, ob, p, Tm.cons (A := .fz P) (o := []) ⟨rfl, P.mono ex b.2⟩ r⟩
      | @cons _ _ o0 os0 _ _ a0 s =>
        obtain ⟨oa, ob, p, r⟩ := tm_lent ex (args := as) (vs := vs) (by simpa using hl) hk s t
        exact ⟨oa, o0 ++ ob, (List.Perm.append_left _ p).trans (perm_mid _ _ _), Tm.cons (A := .fz P) (o := []) ⟨rfl, P.mono ex b.2⟩ r⟩
  | .l A A' :: as, v :: vs, x :: env, _, os, _, hl, hk, h, t => by
    cases (show Tm HF0 _ ((v, A.at none) :: vs.zip (as.map Arg.pre)) from t) with
    | cons b t =>
      obtain ⟨hx, hk⟩ := hk
      subst hx
      cases h with
      | @cons w _ o0 os0 _ _ a0 s =>
        obtain ⟨oa, ob, p, r⟩ := tm_lent ex (args := as) (vs := vs) (by simpa using hl) hk s t
        refine ⟨o0 ++ oa, ob, ?_, ?_⟩
        · rw [List.append_assoc]
          exact List.Perm.append_left _ p
        · have e : w = v := a0.1 v rfl
          subst e
          exact Tm.cons (A := A'.at none) ⟨fun _ q => (nomatch q), a0.2⟩ r
end
section
variable {P : Program} {w : World} {K : PySem.W.Frag} {mg : Str → Option Value} {base : Heap}
theorem never_rt {A' : Around} {env : Env} {M : Model} : PassesOwn M A' env (fun _ _ => False) := PassesOwn.never
/-- THE RULE for a def that lets nothing out -/
theorem fn_ok {ι : Type} {args : ι → List Arg} {ret : ι → As} {x qual : Str} {params : Arguments} {body : List Stmt} {scope : Scope} {f : Addr} {fd : FuncData} {N ps : List Str} {k : Nat}
    (F : FunD K x qual params body scope [] [] f fd) (S : FnScope N ps scope) (hl : ∀ i, (args i).length = ps.length)
    (hb : ∀ (X : Cx), X.prog = P → X.w = w → X.K = K → X.mg = mg → X.base = base → Bx true X N scope (fun _ => true) → Room k X.A → (X.xe = fun _ _ => False) → ∀ (i : ι) (G : Reg) (vs : List V), vs.length = ps.length → DSs X G (env0 (args i) vs N) body (Fin (args i) (ret i) vs)) :
    FnOk P w K mg base CX0 (k + 1) f fd ps (spD args ret) := by
  refine F.ok S (fun vs H Q E h => ?_) (fun cdv A outer s H vs Q E hr h => ?_)
  · obtain ⟨i, _, _, e, _⟩ := h
    rw [e, hl]
  · obtain ⟨i, HF, os, e, h1, h2, hq⟩ := h
    refine ⟨cSs _ _, PSs.nox cSs_pss, ?_⟩
    have hlen : vs.length = ps.length := by rw [e, hl]
    have b := hb (cxOf CX0 P w K mg base N qual scope f cdv A outer s H E).nox rfl rfl rfl rfl rfl ⟨rfl, rfl, S.nd, rfl, PassesOwn.never, by have := hr.un; show (A.deeper (envOfC qual scope s.heap.objs.size f cdv)).units + 100 < _; omega, fun _ => hr.hd, fun _ _ _ => .inl rfl⟩ hr rfl i ⟨HF, H, os.map (·.1)⟩ vs hlen
    refine b [] (L2.start N vs) H ⟨HF, [], os, h1, .nil, ?_⟩ _ ⟨fun env σ' H' p hs => ?_, fun env A' v σ' H' p hs => ?_, fun _ _ _ p => p.elim, fun _ _ _ p => p.elim⟩
    · exact sl_ents e h2 _
    · obtain ⟨p1, p2⟩ := p
      obtain ⟨HF', o1, o2, k1, k2, k3⟩ := hs
      cases k2
      obtain ⟨oa, ob, pm, t⟩ := tm_lent (HF0 := HF) k1.sub e p2 k3 h2
      refine hq .non H' HF' [] oa ?_ (p1 HF') t
      have k4 : Held _ HF' (ob ++ oa) H' := k1.perm (pm.trans List.perm_append_comm)
      exact k4.drop
    · obtain ⟨rfl, p2⟩ := p
      obtain ⟨HF', o, o1, o2, k1, ka, k2, k3⟩ := hs.top
      cases k2
      obtain ⟨oa, ob, pm, t⟩ := tm_lent (HF0 := HF) k1.sub e p2 k3 h2
      refine hq v H' HF' o oa ?_ ka t
      have k4 : Held _ HF' (ob ++ (o ++ oa)) H' := k1.perm (by
        refine (List.Perm.append_left o pm).trans ?_
        rw [← List.append_assoc]
        exact List.perm_append_comm)
      exact k4.drop
theorem fnk_of {ι : Type} {args : ι → List Arg} {ret : ι → As} {x qual : Str} {params : Arguments} {body : List Stmt} {scope : Scope} {f : Addr} {fd : FuncData} {N ps : List Str} {k : Nat}
    (F : FunD K x qual params body scope [] [] f fd) (hm : mg x = some (.ref f)) (hbi : Binds K fd ps []) (S : FnScope N ps scope) (hl : ∀ i, (args i).length = ps.length)
    (hb : ∀ (X : Cx), X.prog = P → X.w = w → X.K = K → X.mg = mg → X.base = base → Bx true X N scope (fun _ => true) → Room k X.A → (X.xe = fun _ _ => False) → ∀ (i : ι) (G : Reg) (vs : List V), vs.length = ps.length → DSs X G (env0 (args i) vs N) body (Fin (args i) (ret i) vs)) :
    FnK P w K mg base CX0 x (k + 1) ps (spD args ret) := ⟨f, fd, hm, F.kp, hbi, fn_ok F S hl hb, fdAt_of F⟩
/-! ### either with no exception handled, or with one -/
def RoomB : Bool → Nat → Around → Prop
  | true, k, A => Room k A
  | false, k, A => L2H.RoomH k A
theorem RoomB.mono {κ : Bool} {j k : Nat} {A : Around} (r : RoomB κ k A) (h : j ≤ k) : RoomB κ j A := by
  cases κ with
  | true => exact Room.mono r h
  | false => exact L2H.RoomH.mono r h
theorem RoomB.units {κ : Bool} {k : Nat} {A : Around} (r : RoomB κ k A) : A.units + 64 < cLine := by
  cases κ with
  | true => exact Room.units r
  | false =>
    have := L2H.RoomH.un r
    omega
def FnB : Bool → Program → World → PySem.W.Frag → (Str → Option Value) → Heap → Nat → Addr → FuncData → List Str → Sp → Prop
  | true, P, w, K, mg, base, k, f, fd, ps, sp => FnOk P w K mg base CX0 k f fd ps sp
  | false, P, w, K, mg, base, k, f, fd, ps, sp => L2H.FnH P w K mg base CX0 k f fd ps sp
theorem fn_okB {ι : Type} {args : ι → List Arg} {ret : ι → As} {x qual : Str} {params : Arguments} {body : List Stmt} {scope : Scope} {f : Addr} {fd : FuncData} {N ps : List Str} {k : Nat}
    (F : FunD K x qual params body scope [] [] f fd) (S : FnScope N ps scope) (hl : ∀ i, (args i).length = ps.length) (κ : Bool)
    (hb : ∀ (X : Cx), X.prog = P → X.w = w → X.K = K → X.mg = mg → X.base = base → Bx κ X N scope (fun _ => true) → RoomB κ k X.A → (X.xe = fun _ _ => False) → ∀ (i : ι) (G : Reg) (vs : List V), vs.length = ps.length → DSs X G (env0 (args i) vs N) body (Fin (args i) (ret i) vs)) :
    FnB κ P w K mg base (k + 1) f fd ps (spD args ret) := by
  cases κ with
  | true => exact fn_ok F S hl hb
  | false =>
    obtain ⟨oc, od, dV, kV, doc, pm, an, cdv, ct, osl, rfl, lk, hcd, _, _⟩ := F.ex
    refine L2H.fn_ofH lk hcd S (fun vs H Q E h => ?_) (fun A outer s H vs Q E p hot hr h => ?_)
    · obtain ⟨i, _, _, e, _⟩ := h
      rw [e, hl]
    · obtain ⟨i, HF, os, e, h1, h2, hq⟩ := h
      refine ⟨cSs _ _, PSs.nox cSs_pss, ?_⟩
      have hlen : vs.length = ps.length := by rw [e, hl]
      have b := hb (L2H.cxH CX0 P w K mg base N qual scope f cdv A outer s H E p).nox rfl rfl rfl rfl rfl ⟨rfl, rfl, S.nd, ⟨p, hot, List.mem_singleton.mpr rfl⟩, PassesOwn.never, by have := hr.un; show (A.deeper (envOfC qual scope s.heap.objs.size f cdv)).units + 100 < _; omega, fun z => (nomatch z), fun _ _ _ => .inl rfl⟩ hr rfl i ⟨HF, H, os.map (·.1)⟩ vs hlen
      refine b [] (L2.start N vs) H ⟨HF, [], os, h1, .nil, ?_⟩ _ ⟨fun env σ' H' p hs => ?_, fun env A' v σ' H' p hs => ?_, fun _ _ _ p => p.elim, fun _ _ _ p => p.elim⟩
      · exact sl_ents e h2 _
      · obtain ⟨p1, p2⟩ := p
        obtain ⟨HF', o1, o2, k1, k2, k3⟩ := hs
        cases k2
        obtain ⟨oa, ob, pm, t⟩ := tm_lent (HF0 := HF) k1.sub e p2 k3 h2
        refine hq .non H' HF' [] oa ?_ (p1 HF') t
        have k4 : Held _ HF' (ob ++ oa) H' := k1.perm (pm.trans List.perm_append_comm)
        exact k4.drop
      · obtain ⟨rfl, p2⟩ := p
        obtain ⟨HF', o, o1, o2, k1, ka, k2, k3⟩ := hs.top
        cases k2
        obtain ⟨oa, ob, pm, t⟩ := tm_lent (HF0 := HF) k1.sub e p2 k3 h2
        refine hq v H' HF' o oa ?_ ka t
        have k4 : Held _ HF' (ob ++ (o ++ oa)) H' := k1.perm (by
          refine (List.Perm.append_left o pm).trans ?_
          rw [← List.append_assoc]
          exact List.perm_append_comm)
        exact k4.drop
def FnKB (κ : Bool) (P : Program) (w : World) (K : PySem.W.Frag) (mg : Str → Option Value) (base : Heap) (x : Str) (k : Nat) (ps : List Str) (sp : Sp) : Prop :=
  ∃ (f : Addr) (fd : FuncData), mg x = some (.ref f) ∧ PySem.W.keepIn K (.ref f) = true ∧ Binds K fd ps [] ∧ FnB κ P w K mg base k f fd ps sp ∧ FdAt K f fd
end
section
variable {X : Cx} {κ : Bool} {k : Nat} {f : Addr} {fd : FuncData} {ps : List Str} {ι : Type} {args : ι → List Arg} {ret : ι → As}
theorem callD_ofB (F : FnB κ X.prog X.w X.K X.mg X.base k f fd ps (spD args ret)) (hr : RoomB κ k X.A) (hc : Cm κ X) (hb : Binds X.K fd ps []) (i : ι) : CallD X (.ref f) ((args i).map Arg.pre) ((args i).map Arg.aft) (ret i) := by
  cases κ with
  | true => exact callD_of F hr hb (E := fun _ _ _ => False) (fun _ _ _ _ _ _ _ h => h.elim) i
  | false =>
    refine ⟨by simp, fun vs H Q => spD args ret vs H Q fun _ _ _ => False, fun pins s σ H vs us Q I r h => L2H.run_fnH (E := fun _ => fun _ _ _ => False) F hr hc hb (fun _ _ _ _ _ _ h => h.elim) I r h, fun G T env σ H vs hl h Q q => ?_⟩
    obtain ⟨HF, o1, o2, h1, h2, h3⟩ := h
    obtain ⟨oa, ob, e, h4, h5⟩ := h2.split
    subst e
    rw [List.append_assoc] at h1
    refine ⟨i, HF, oa, by simpa using hl, h1.give, h4, fun v H' HF' p1 p2 k1 kr ka => q v H' ?_⟩
    have h6 := h1.after k1
    have ex : Ex HF HF' := k1.sub
    rw [List.append_assoc] at h6
    refine StA.ofTop (o := p1) (o1 := p2 ++ ob) (o2 := o2) (by rw [List.append_assoc]; exact h6) kr (ka.join (h5.mono ex)) (h3.mono ex)
end
end DL

set_option maxHeartbeats 4000000
/-! DL4: data: ints, comparisons, len, displays, items, slices, fields; own lists. -/
namespace DL
open PySem PySem.Spec PyProof.Rows L2
section
variable {X : Cx} {N : List Str} {sc : Scope} {ok : Str → Bool} {G : Reg} {env env1 env2 env3 : Ev} {A B S : As} {P R : FP} {e a b : Expr} {es : List Expr} {pos : Pos} {x : Str} {i : Nat} {K : PySem.W.Frag}

theorem dpI {HF : Hp} {v : V} {i : Int} (h : (isD K (.int i)).p HF v) : v = .int i := by cases (show Dp K HF v (.int i) from h); rfl
theorem dpB {HF : Hp} {v : V} {i : Bool} (h : (isD K (.bool i)).p HF v) : v = .bl i := by cases (show Dp K HF v (.bool i) from h); rfl
theorem dpS {HF : Hp} {v : V} {i : Str} (h : (isD K (.str i)).p HF v) : v = .str i := by cases (show Dp K HF v (.str i) from h); rfl
theorem dpN {HF : Hp} {v : V} (h : (isD K .none).p HF v) : v = .non := by cases (show Dp K HF v .none from h); rfl
theorem dpLt {HF : Hp} {v : V} {ds : List PyData} (h : (isD K (.list ds)).p HF v) : ∃ a xs, v = .ref a ∧ HF a = some (.lst xs) ∧ DpAll K HF xs ds := by
  cases (show Dp K HF v (.list ds) from h) with
  | lst h1 h2 => exact ⟨_, _, rfl, h1, h2⟩
theorem dpL {HF : Hp} {v : V} {ds : List PyData} (h : (isD K (.list ds)).p HF v) : ∃ a xs, v = .ref a ∧ SqL K HF a xs ∧ DpAll K HF xs ds :=
  let ⟨a, xs, h1, h2, h3⟩ := dpLt h
  ⟨a, xs, h1, SqL.of h2, h3⟩
theorem dpT {HF : Hp} {v : V} {ds : List PyData} (h : (isD K (.tuple ds)).p HF v) : ∃ a xs, v = .ref a ∧ SqT K HF a xs ∧ DpAll K HF xs ds := by
  cases (show Dp K HF v (.tuple ds) from h) with
  | tup h1 h2 => exact ⟨_, _, rfl, h1, h2⟩
theorem dpAll_len {H : Hp} : ∀ {xs : List V} {ds : List PyData}, DpAll K H xs ds → xs.length = ds.length
  | _, _, .nil => rfl
  | _, _, .cons _ t => by simp [dpAll_len t]
theorem dpAll_get {H : Hp} : ∀ {xs : List V} {ds : List PyData} {j : Nat} {d : PyData}, DpAll K H xs ds → ds[j]? = some d → ∃ v, xs[j]? = some v ∧ Dp K H v d
  | _, _, _, _, .nil, e => by simp at e
  | _, _, 0, _, .cons h _, e => by simp at e; subst e; exact ⟨_, rfl, h⟩
  | _, _, j + 1, _, .cons _ t, e => by
    obtain ⟨v, h1, h2⟩ := dpAll_get (j := j) t (by simpa using e)
    exact ⟨v, by simpa using h1, h2⟩
theorem dpAll_app {H : Hp} : ∀ {xs ys : List V} {ds es : List PyData}, DpAll K H xs ds → DpAll K H ys es → DpAll K H (xs ++ ys) (ds ++ es)
  | _, _, _, _, .nil, h => h
  | _, _, _, _, .cons a t, h => .cons a (dpAll_app t h)
theorem dpAll_take {H : Hp} : ∀ {xs : List V} {ds : List PyData} (n : Nat), DpAll K H xs ds → DpAll K H (xs.take n) (ds.take n)
  | _, _, 0, _ => .nil
  | _, _, _ + 1, .nil => .nil
  | _, _, n + 1, .cons a t => .cons a (dpAll_take n t)
theorem dpAll_drop {H : Hp} : ∀ {xs : List V} {ds : List PyData} (n : Nat), DpAll K H xs ds → DpAll K H (xs.drop n) (ds.drop n)
  | _, _, 0, h => h
  | _, _, _ + 1, .nil => .nil
  | _, _, n + 1, .cons _ t => dpAll_drop n t
theorem dpAll_set {H : Hp} {v : V} {d : PyData} (r : Dp K H v d) : ∀ {xs : List V} {ds : List PyData} (j : Nat), DpAll K H xs ds → DpAll K H (xs.set j v) (ds.set j d)
  | _, _, _, .nil => .nil
  | _, _, 0, .cons _ t => .cons r t
  | _, _, j + 1, .cons a t => .cons a (dpAll_set r j t)
theorem dpAll_rev {H : Hp} : ∀ {xs : List V} {ds : List PyData}, DpAll K H xs ds → DpAll K H xs.reverse ds.reverse
  | _, _, .nil => .nil
  | _, _, .cons a t => by simp only [List.reverse_cons]; exact dpAll_app (dpAll_rev t) (.cons a .nil)

/-! ### ints -/
theorem opd_add (m n : Int) : OpD X (binaryOp .Add) (isD X.K (.int m)) (isD X.K (.int n)) (dD X.K (.int (m + n))) :=
  opd_sc op_add (.int (m + n)) isD_int rfl fun HF H va vb _ ha hb Q q => ⟨m, n, dpI ha, dpI hb, q⟩
theorem opd_sub (m n : Int) : OpD X (binaryOp .Sub) (isD X.K (.int m)) (isD X.K (.int n)) (dD X.K (.int (m - n))) :=
  opd_sc op_sub (.int (m - n)) isD_int rfl fun HF H va vb _ ha hb Q q => ⟨m, n, dpI ha, dpI hb, q⟩
theorem opd_mul (m n : Int) (h : CMul m n) : OpD X (binaryOp .Mult) (isD X.K (.int m)) (isD X.K (.int n)) (dD X.K (.int (m * n))) :=
  opd_sc op_mul (.int (m * n)) isD_int rfl fun HF H va vb _ ha hb Q q => ⟨m, n, dpI ha, dpI hb, h, q⟩
theorem opd_fdiv (m n : Int) (h : CDiv m n) : OpD X (binaryOp .FloorDiv) (isD X.K (.int m)) (isD X.K (.int n)) (dD X.K (.int (m / n))) :=
  opd_sc op_fdiv (.int (m / n)) isD_int rfl fun HF H va vb _ ha hb Q q => ⟨m, n, dpI ha, dpI hb, h, q⟩
theorem opd_mod (m n : Int) (h : 0 < n) : OpD X (binaryOp .Mod) (isD X.K (.int m)) (isD X.K (.int n)) (dD X.K (.int (m % n))) :=
  opd_sc op_mod (.int (m % n)) isD_int rfl fun HF H va vb _ ha hb Q q => ⟨m, n, dpI ha, dpI hb, h, q⟩
theorem opd_pow (m n : Int) (h : CPow m n) : OpD X (binaryOp .Pow) (isD X.K (.int m)) (isD X.K (.int n)) (dD X.K (.int (m ^ n.toNat))) :=
  opd_sc op_pow (.int (m ^ n.toNat)) isD_int rfl fun HF H va vb _ ha hb Q q => ⟨m, n, dpI ha, dpI hb, h, q⟩
theorem opd_shl (m n : Int) (h : CPow m n) : OpD X (binaryOp .LShift) (isD X.K (.int m)) (isD X.K (.int n)) (dD X.K (.int (m * 2 ^ n.toNat))) :=
  opd_sc op_shl (.int (m * 2 ^ n.toNat)) isD_int rfl fun HF H va vb _ ha hb Q q => ⟨m, n, dpI ha, dpI hb, h, q⟩
theorem opd_shr (m n : Int) (h : 0 ≤ n) : OpD X (binaryOp .RShift) (isD X.K (.int m)) (isD X.K (.int n)) (dD X.K (.int (m / 2 ^ n.toNat))) :=
  opd_sc op_shr (.int (m / 2 ^ n.toNat)) isD_int rfl fun HF H va vb _ ha hb Q q => ⟨m, n, dpI ha, dpI hb, h, q⟩
theorem opd_and (m n : Int) : OpD X (binaryOp .BitAnd) (isD X.K (.int m)) (isD X.K (.int n)) (dD X.K (.int (Builtin.bitAnd m n))) :=
  opd_sc op_and (.int (Builtin.bitAnd m n)) isD_int rfl fun HF H va vb _ ha hb Q q => ⟨m, n, dpI ha, dpI hb, q⟩
theorem opd_or (m n : Int) : OpD X (binaryOp .BitOr) (isD X.K (.int m)) (isD X.K (.int n)) (dD X.K (.int (Builtin.bitOr m n))) :=
  opd_sc op_or (.int (Builtin.bitOr m n)) isD_int rfl fun HF H va vb _ ha hb Q q => ⟨m, n, dpI ha, dpI hb, q⟩
theorem opd_lt (m n : Int) : OpD X (compareOp .Lt) (isD X.K (.int m)) (isD X.K (.int n)) (dD X.K (.bool (decide (m < n)))) :=
  opd_sc op_lt (.bl (decide (m < n))) isD_bl rfl fun HF H va vb _ ha hb Q q => ⟨m, n, dpI ha, dpI hb, q⟩
theorem opd_le (m n : Int) : OpD X (compareOp .LtE) (isD X.K (.int m)) (isD X.K (.int n)) (dD X.K (.bool (decide (m ≤ n)))) :=
  opd_sc op_le (.bl (decide (m ≤ n))) isD_bl rfl fun HF H va vb _ ha hb Q q => ⟨m, n, dpI ha, dpI hb, q⟩
theorem opd_gt (m n : Int) : OpD X (compareOp .Gt) (isD X.K (.int m)) (isD X.K (.int n)) (dD X.K (.bool (decide (n < m)))) :=
  opd_sc op_gt (.bl (decide (n < m))) isD_bl rfl fun HF H va vb _ ha hb Q q => ⟨m, n, dpI ha, dpI hb, q⟩
theorem opd_ge (m n : Int) : OpD X (compareOp .GtE) (isD X.K (.int m)) (isD X.K (.int n)) (dD X.K (.bool (decide (n ≤ m)))) :=
  opd_sc op_ge (.bl (decide (n ≤ m))) isD_bl rfl fun HF H va vb _ ha hb Q q => ⟨m, n, dpI ha, dpI hb, q⟩
/-- == and != of data -/
theorem opd_eq {d d' : PyData} (hu : X.A.units + 64 < cLine) (h : SeqAt.shaped d = true) (h' : SeqAt.shaped d' = true) : OpD X (compareOp .Eq) (isD X.K d) (isD X.K d') (dD X.K (.bool (PyData.eqv d d'))) :=
  opd_sc (op_eqD hu) (.bl (PyData.eqv d d')) isD_bl rfl fun HF H va vb ex ha hb Q q => ⟨d, d', toDp (dp_mono ex ha), toDp (dp_mono ex hb), h, h', q⟩
theorem opd_ne {d d' : PyData} (hu : X.A.units + 64 < cLine) (h : SeqAt.shaped d = true) (h' : SeqAt.shaped d' = true) : OpD X (compareOp .NotEq) (isD X.K d) (isD X.K d') (dD X.K (.bool (!PyData.eqv d d'))) :=
  opd_sc (op_neD hu) (.bl (!PyData.eqv d d')) isD_bl rfl fun HF H va vb ex ha hb Q q => ⟨d, d', toDp (dp_mono ex ha), toDp (dp_mono ex hb), h, h', q⟩
theorem opd_eqI (m n : Int) (hu : X.A.units + 64 < cLine) : OpD X (compareOp .Eq) (isD X.K (.int m)) (isD X.K (.int n)) (dD X.K (.bool (decide (m = n)))) := by
  have h := opd_eq (X := X) (d := .int m) (d' := .int n) hu rfl rfl
  rwa [show PyData.eqv (.int m) (.int n) = decide (m = n) by simp [PyData.eqv, Bool.beq_eq_decide_eq]] at h
theorem opd_neI (m n : Int) (hu : X.A.units + 64 < cLine) : OpD X (compareOp .NotEq) (isD X.K (.int m)) (isD X.K (.int n)) (dD X.K (.bool (!decide (m = n)))) := by
  have h := opd_ne (X := X) (d := .int m) (d' := .int n) hu rfl rfl
  rwa [show PyData.eqv (.int m) (.int n) = decide (m = n) by simp [PyData.eqv, Bool.beq_eq_decide_eq]] at h
theorem opd_inL {d : PyData} {ds : List PyData} (hu : X.A.units + 65 < cLine) (h : SeqAt.shaped d = true) (h' : SeqAt.shaped (.list ds) = true) : OpD X (compareOp .In) (isD X.K d) (isD X.K (.list ds)) (dD X.K (.bool (ds.any fun z => PyData.eqv z d))) :=
  opd_sc (op_inD hu) (.bl (ds.any fun z => PyData.eqv z d)) isD_bl rfl fun HF H va vb ex ha hb Q q => ⟨d, ds, toDp (dp_mono ex ha), toDp (dp_mono ex hb), h, h', q⟩
theorem opd_notInL {d : PyData} {ds : List PyData} (hu : X.A.units + 65 < cLine) (h : SeqAt.shaped d = true) (h' : SeqAt.shaped (.list ds) = true) : OpD X (compareOp .NotIn) (isD X.K d) (isD X.K (.list ds)) (dD X.K (.bool (!ds.any fun z => PyData.eqv z d))) :=
  opd_sc (op_notInD hu) (.bl (!ds.any fun z => PyData.eqv z d)) isD_bl rfl fun HF H va vb ex ha hb Q q => ⟨d, ds, toDp (dp_mono ex ha), toDp (dp_mono ex hb), h, h', q⟩
/-- texts in a tuple of texts -/
theorem dpAll_strs {H : Hp} : ∀ {xs : List V} {zs : List Str}, DpAll K H xs (zs.map .str) → xs = zs.map .str
  | _, [], .nil => rfl
  | _, z :: zs, .cons h t => by
    cases h
    rw [dpAll_strs t]; rfl
theorem flat_strs : ∀ zs : List Str, (zs.map V.str).all flatV = true
  | [] => rfl
  | z :: zs => by simp only [List.map_cons, List.all_cons, flat_strs zs, Bool.and_true]; rfl
theorem inV_strs (z : Str) : ∀ zs : List Str, inV (.str z) (zs.map V.str) = decide (z ∈ zs)
  | [] => by simp [inV]
  | y :: zs => by
    have ih := inV_strs z zs
    unfold inV at ih ⊢
    rw [List.map_cons, List.any_cons, ih]
    have : eqV (.str y) (.str z) = decide (y = z) := by rfl
    rw [this]
    by_cases h : y = z
    · simp [h]
    · simp [h, Ne.symm h]
theorem opd_inT (z : Str) (zs : List Str) : OpD X (compareOp .In) (isD X.K (.str z)) (isD X.K (.tuple (zs.map .str))) (dD X.K (.bool (decide (z ∈ zs)))) :=
  opd_sc op_in_seq (.bl (decide (z ∈ zs))) isD_bl rfl fun HF H va vb ex ha hb Q q => by
    obtain ⟨p, xs, e, h1, h2⟩ := dpT hb
    rw [dpAll_strs h2] at h1
    refine ⟨p, _, e, .inr (ex.t h1), by rw [dpS ha]; rfl, flat_strs zs, ?_⟩
    rw [dpS ha, if_neg Bool.false_ne_true, inV_strs]
    exact q
theorem opd_notInT (z : Str) (zs : List Str) : OpD X (compareOp .NotIn) (isD X.K (.str z)) (isD X.K (.tuple (zs.map .str))) (dD X.K (.bool (!decide (z ∈ zs)))) :=
  opd_sc op_notIn_seq (.bl (!decide (z ∈ zs))) isD_bl rfl fun HF H va vb ex ha hb Q q => by
    obtain ⟨p, xs, e, h1, h2⟩ := dpT hb
    rw [dpAll_strs h2] at h1
    refine ⟨p, _, e, .inr (ex.t h1), by rw [dpS ha]; rfl, flat_strs zs, ?_⟩
    rw [dpS ha, if_pos rfl, inV_strs]
    exact q
/-- is None -/
def NonB (P : FP) (b : Bool) : Prop := ∀ HF v, P.p HF v → decide (v = .non) = b
theorem nonB_d : ∀ d : PyData, NonB (isD K d) (match d with | .none => true | _ => false)
  | .none => fun HF v h => by cases (show Dp K HF v _ from h); rfl
  | .bool _ => fun HF v h => by cases (show Dp K HF v _ from h); rfl
  | .int _ => fun HF v h => by cases (show Dp K HF v _ from h); rfl
  | .str _ => fun HF v h => by cases (show Dp K HF v _ from h); rfl
  | .list _ => fun HF v h => by cases (show Dp K HF v _ from h); rfl
  | .tuple _ => fun HF v h => by cases (show Dp K HF v _ from h); rfl
  | .dict _ => fun HF v h => by cases (show Dp K HF v _ from h)
theorem de_isN {k : Bool} {j} {p' : Pos} (h : DE X G env a env1 A) (hn : NonB A.fr k) : DE X G env (.Compare a [.Is] [.Constant .none j p'] pos) env1 (dD X.K (.bool k)) :=
  de_of (pe_cmp (pc_isN cE_pe)) fun T σ H hs Q q => h T σ H hs _ fun v H' h' => by
    obtain ⟨HF, ex, hv⟩ := h'.freeze.one
    rw [hn HF v hv]
    exact q _ H' (h'.pop.push isD_bl)
theorem de_notN {k : Bool} {j} {p' : Pos} (h : DE X G env a env1 A) (hn : NonB A.fr k) : DE X G env (.Compare a [.IsNot] [.Constant .none j p'] pos) env1 (dD X.K (.bool (!k))) :=
  de_of (pe_cmp (pc_notN cE_pe)) fun T σ H hs Q q => h T σ H hs _ fun v H' h' => by
    obtain ⟨HF, ex, hv⟩ := h'.freeze.one
    rw [hn HF v hv]
    exact q _ H' (h'.pop.push isD_bl)
theorem dt_isN {k : Bool} {j} {p' : Pos} (h : DE X G env a env1 A) (hn : NonB A.fr k) : DT X G env (.Compare a [.Is] [.Constant .none j p'] pos) env1 k :=
  fun T σ H hs Q q => of_pt (pt_cmp (pc_isN cE_pe)) (h T σ H hs _ fun v H' h' => by
    obtain ⟨HF, ex, hv⟩ := h'.freeze.one
    rw [hn HF v hv]
    exact ⟨k, rfl, q H' h'.pop⟩)
theorem dt_notN {k : Bool} {j} {p' : Pos} (h : DE X G env a env1 A) (hn : NonB A.fr k) : DT X G env (.Compare a [.IsNot] [.Constant .none j p'] pos) env1 (!k) :=
  fun T σ H hs Q q => of_pt (pt_cmp (pc_notN cE_pe)) (h T σ H hs _ fun v H' h' => by
    obtain ⟨HF, ex, hv⟩ := h'.freeze.one
    rw [hn HF v hv]
    exact ⟨!k, rfl, q H' h'.pop⟩)

/-! ### calls by values: one argument told, a scalar back -/
theorem zip1 {vs : List V} {A : As} (h : vs.length = [A].length) : ∃ v, vs = [v] := by
  match vs, h with
  | [v], _ => exact ⟨v, rfl⟩
theorem zip2 {vs : List V} {A B : As} (h : vs.length = [A, B].length) : ∃ v w, vs = [v, w] := by
  match vs, h with
  | [v, w], _ => exact ⟨v, w, rfl⟩
theorem cd_one {f : Value} {r : List V → Hp → VK → Prop} (hr : CallR X f r) (w : V) {S : FP} (hw : ∀ HF, S.p HF w) (k : ∀ HF H va, Ex HF H → P.p HF va → ∀ Q : VK, Q w H → r [va] H Q) : CallD X f [.fz P] [.fz P] (.fz S) :=
  ⟨rfl, r, hr, fun G T env σ H vs hl h Q q => by
    obtain ⟨v, rfl⟩ := zip1 hl
    obtain ⟨HF, ex, ha⟩ := StA.one h
    exact k HF H v ex ha Q (q w H (h.push hw))⟩
theorem cd_two {f : Value} {r : List V → Hp → VK → Prop} (hr : CallR X f r) (w : V) {S : FP} (hw : ∀ HF, S.p HF w) (k : ∀ HF H va vb, Ex HF H → P.p HF va → R.p HF vb → ∀ Q : VK, Q w H → r [va, vb] H Q) : CallD X f [.fz P, .fz R] [.fz P, .fz R] (.fz S) :=
  ⟨rfl, r, hr, fun G T env σ H vs hl h Q q => by
    obtain ⟨v, u, rfl⟩ := zip2 hl
    obtain ⟨HF, ex, hb, ha⟩ := StA.two h
    exact k HF H v u ex ha hb Q (q w H (h.push hw))⟩
/-- how long -/
def lenD : PyData → Option Nat
  | .str z => some z.length
  | .list ds => some ds.length
  | .tuple ds => some ds.length
  | _ => none
theorem cd_lenL {ds : List PyData} : CallD X (.builtin "len") [dD X.K (.list ds)] [dD X.K (.list ds)] (dD X.K (.int ds.length)) :=
  cd_one call_len_seq (.int ds.length) isD_int fun HF H va ex ha Q q => by
    obtain ⟨p, xs, e, h1, h2⟩ := dpL ha
    refine ⟨p, xs, by rw [e], .inl (ex.l h1), ?_⟩
    rw [dpAll_len h2]; exact q
theorem cd_lenT {ds : List PyData} : CallD X (.builtin "len") [dD X.K (.tuple ds)] [dD X.K (.tuple ds)] (dD X.K (.int ds.length)) :=
  cd_one call_len_seq (.int ds.length) isD_int fun HF H va ex ha Q q => by
    obtain ⟨p, xs, e, h1, h2⟩ := dpT ha
    refine ⟨p, xs, by rw [e], .inr (ex.t h1), ?_⟩
    rw [dpAll_len h2]; exact q
theorem cd_lenS {z : Str} (h : z.length ≤ sizeLine) : CallD X (.builtin "len") [dD X.K (.str z)] [dD X.K (.str z)] (dD X.K (.int z.length)) :=
  cd_one call_len_str (.int z.length) isD_int fun HF H va ex ha Q q => ⟨z, by rw [dpS ha], h, q⟩
theorem cd_abs (m : Int) : CallD X (.builtin "abs") [dD X.K (.int m)] [dD X.K (.int m)] (dD X.K (.int (if m < 0 then -m else m))) :=
  cd_one call_abs (.int (if m < 0 then -m else m)) isD_int fun HF H va ex ha Q q => ⟨m, by rw [dpI ha], q⟩
theorem cd_int (m : Int) : CallD X (.type "int") [dD X.K (.int m)] [dD X.K (.int m)] (dD X.K (.int m)) :=
  cd_one call_int1 (.int m) isD_int fun HF H va ex ha Q q => .inl ⟨m, by rw [dpI ha], q⟩
theorem cd_intB (m : Bool) : CallD X (.type "int") [dD X.K (.bool m)] [dD X.K (.bool m)] (dD X.K (.int (if m then 1 else 0))) :=
  cd_one call_int1 (.int (if m then 1 else 0)) isD_int fun HF H va ex ha Q q => .inr ⟨m, by rw [dpB ha], q⟩
theorem cd_max2 (hc : X.calm = true) (m n : Int) : CallD X (.builtin "max") [dD X.K (.int m), dD X.K (.int n)] [dD X.K (.int m), dD X.K (.int n)] (dD X.K (.int (if n > m then n else m))) :=
  cd_two (call_max2 hc) (.int (if n > m then n else m)) isD_int fun HF H va vb ex ha hb Q q => ⟨m, n, by rw [dpI ha, dpI hb], q⟩
theorem cd_min2 (hc : X.calm = true) (m n : Int) : CallD X (.builtin "min") [dD X.K (.int m), dD X.K (.int n)] [dD X.K (.int m), dD X.K (.int n)] (dD X.K (.int (if n < m then n else m))) :=
  cd_two (call_min2 hc) (.int (if n < m then n else m)) isD_int fun HF H va vb ex ha hb Q q => ⟨m, n, by rw [dpI ha, dpI hb], q⟩
theorem dpAll_bls {H : Hp} : ∀ {xs : List V} {zs : List Bool}, DpAll K H xs (zs.map .bool) → xs = zs.map .bl
  | _, [], .nil => rfl
  | _, z :: zs, .cons h t => by
    cases h
    rw [dpAll_bls t]; rfl
theorem dpAll_ints {H : Hp} : ∀ {xs : List V} {zs : List Int}, DpAll K H xs (zs.map .int) → xs = zs.map .int
  | _, [], .nil => rfl
  | _, z :: zs, .cons h t => by
    cases h
    rw [dpAll_ints t]; rfl
theorem cd_all (hc : X.calm = true) (bs : List Bool) : CallD X (.builtin "all") [dD X.K (.list (bs.map .bool))] [dD X.K (.list (bs.map .bool))] (dD X.K (.bool (bs.all id))) :=
  cd_one (cr_all hc) (.bl (bs.all id)) isD_bl fun HF H va ex ha Q q => by
    obtain ⟨p, xs, e, h1, h2⟩ := dpL ha
    rw [dpAll_bls h2] at h1
    exact ⟨p, bs, by rw [e], ex.l h1, q⟩
theorem cd_sum (hc : X.calm = true) (ns : List Int) : CallD X (.builtin "sum") [dD X.K (.list (ns.map .int))] [dD X.K (.list (ns.map .int))] (dD X.K (.int ns.sum)) :=
  cd_one (cr_sum hc) (.int ns.sum) isD_int fun HF H va ex ha Q q => by
    obtain ⟨p, xs, e, h1, h2⟩ := dpL ha
    rw [dpAll_ints h2] at h1
    exact ⟨p, ns, by rw [e], ex.l h1, q⟩
/-! ### isinstance -/
def HasTy (K : PySem.W.Frag) (P : FP) (t : Value) : Prop := ∀ HF H v, Ex HF H → P.p HF v → TyX K H v t
def tyD : PyData → String
  | .none => "NoneType"
  | .bool _ => "bool"
  | .int _ => "int"
  | .str _ => "str"
  | .list _ => "list"
  | .tuple _ => "tuple"
  | .dict _ => "dict"
theorem hasTy_d : ∀ d : PyData, HasTy K (isD K d) (.type (tyD d))
  | .none => fun HF H v _ h => by cases (show Dp K HF v _ from h); exact .base .non
  | .bool b => fun HF H v _ h => by cases (show Dp K HF v _ from h); exact .base (.bl _)
  | .int i => fun HF H v _ h => by cases (show Dp K HF v _ from h); exact .base (.int _)
  | .str x => fun HF H v _ h => by cases (show Dp K HF v _ from h); exact .base (.str _)
  | .list ds => fun HF H v ex h => by
    obtain ⟨a, xs, rfl, h1, _⟩ := dpL h
    rcases ex.l h1 with (h1 | ⟨o, h1⟩) | ⟨o, its, n, h1, h2, _⟩
    · exact .base (.lst h1)
    · exact .base (.frz h1)
    · exact .kList h1 h2
  | .tuple ds => fun HF H v ex h => by
    obtain ⟨a, xs, rfl, h1, _⟩ := dpT h
    rcases ex.t h1 with (h1 | ⟨o, h1⟩) | ⟨o, its, n, h1, h2, _⟩
    · exact .base (.tup h1)
    · exact .fTuple h1
    · exact .kTuple h1 h2
  | .dict _ => fun HF H v _ h => by cases (show Dp K HF v _ from h)
theorem cd_isi {t u : Value} {c : V} {k : Bool} (ht : HasTy X.K P t) (hc : ClsV c u) (hk : PySem.W.kitOne X.K t u = some k) : CallD X (.builtin "isinstance") [.fz P, .fz (isV c)] [.fz P, .fz (isV c)] (dD X.K (.bool k)) :=
  cd_two call_isi (.bl k) isD_bl fun HF H va vb ex ha hb Q q => ⟨va, vb, t, u, k, rfl, by rw [show vb = c from hb]; exact hc, ht HF H va ex ha, hk, q⟩
/-- a tuple of these very values -/
def isTV (vs : List V) : FP := ⟨fun H v => ∃ a, v = .ref a ∧ H a = some (.tup vs), fun e ⟨a, h1, h2⟩ => ⟨a, h1, e _ _ h2⟩⟩
theorem cd_isiT {t : Value} {us : List Value} {cs : List V} {k : Bool} (ht : HasTy X.K P t) (hc : Paired ClsV cs us) (hk : PySem.W.kitAny X.K t us = some k) : CallD X (.builtin "isinstance") [.fz P, .fz (isTV cs)] [.fz P, .fz (isTV cs)] (dD X.K (.bool k)) :=
  cd_two call_isiT (.bl k) isD_bl fun HF H va vb ex ha hb Q q => by
    obtain ⟨p, e, hp⟩ := hb
    exact ⟨va, p, cs, t, us, k, by rw [e], ex _ _ hp, hc, ht HF H va ex ha, hk, q⟩
/-- a built-in type's name -/
theorem de_bty (B : Bx κ X N sc ok) {n : String} (hm : X.mg x = none) (hv : bootBuiltins x = some (.type n) := by decide +kernel) (hg : GlS sc x := by rfl) (hn : x ≠ "__name__" := by decide) (hd : (x == ("__debug__" : Str)) = false := by decide) : DE X G env (.Name x pos) env (.fz (isV (.ty n))) :=
  de_const (pe_bltn (v := .ty n) (B.gl hg) hm hv rfl hn hd) fun _ => rfl

/-! ### displays -/
def DAD (X : Cx) (G : Reg) (env : Ev) (es : List Expr) (env' : Ev) (ds : List PyData) : Prop := DA X G env es env' (ds.map (dD X.K))
theorem dad_nil : DAD X G env [] env [] := da_nil
theorem dad_cons {d : PyData} {ds : List PyData} (h : DE X G env e env1 A) (hA : A.fr = isD X.K d) (hr : DAD X G env1 es env2 ds) (hst : starEach (e :: es) X.env = (false, eval e X.env) :: starEach es X.env := by rfl) : DAD X G env (e :: es) env2 (d :: ds) :=
  da_cons (A := dD X.K d) (by have h2 := de_frz h; rw [hA] at h2; exact h2) hr hst
theorem tm_dpAll {HF : Hp} : ∀ {vs : List V} {ds : List PyData} {os : Own}, vs.length = ds.length → Tm HF os (vs.zip (ds.map (dD K))) → os = [] ∧ DpAll K HF vs ds
  | [], [], _, _, .nil => ⟨rfl, .nil⟩
  | [], _ :: _, _, h, _ => by cases h
  | _ :: _, [], _, h, _ => by cases h
  | v :: vs, d :: ds, _, h, .cons a t => by
    obtain ⟨e, r⟩ := tm_dpAll (vs := vs) (ds := ds) (by simpa using h) t
    obtain ⟨e1, e2⟩ := a
    exact ⟨by rw [e, e1]; rfl, .cons e2 r⟩
theorem StA.dat {T : List (V × As)} {σ : St} {H : Hp} {vs : List V} {ds : List PyData} (hl : vs.length = ds.length) (h : StA G (vs.zip (ds.map (dD K)) ++ T) env σ H) : ∃ HF o1 o2, Held G HF (o1 ++ o2) H ∧ DpAll K HF vs ds ∧ Tm HF o1 T ∧ Sl HF o2 σ env := by
  obtain ⟨HF, o1, o2, h1, h2, h3⟩ := h
  obtain ⟨oa, ob, e, h4, h5⟩ := h2.split
  obtain ⟨e1, h6⟩ := tm_dpAll hl h4
  subst e1
  simp only [List.nil_append] at e
  subst e
  exact ⟨HF, _, o2, h1, h6, h5, h3⟩
/-- a new frozen object -/
theorem StA.newF {T : List (V × As)} {σ : St} {H HF : Hp} {o1 o2 : Own} {p : Addr} {o : HO} {v : V} (h1 : Held G HF (o1 ++ o2) H) (t : Tm HF o1 T) (s : Sl HF o2 σ env) (hp : H p = none) (hP : P.p (upd HF p o) v) : StA G ((v, .fz P) :: T) env σ (upd H p o) :=
  StA.ofTop (o := []) (h1.fresh hp) ⟨rfl, hP⟩ (t.mono (Ex.new (h1.hf hp))) (s.mono (Ex.new (h1.hf hp)))
/-- a new object of one's own -/
theorem StA.newO {T : List (V × As)} {σ : St} {H HF : Hp} {o1 o2 : Own} {p : Addr} {o : HO} {v : V} (h1 : Held G HF (o1 ++ o2) H) (t : Tm HF o1 T) (s : Sl HF o2 σ env) (hp : H p = none) (hP : A.p HF v [(p, o)]) : StA G ((v, A) :: T) env σ (upd H p o) :=
  StA.ofTop (o := [(p, o)]) (h1.freshO hp) hP t s
theorem de_tupD {ds : List PyData} {n} (h : DAD X G env es env1 ds) (hz : ds.length ≤ sizeLine := by (try simp only [List.length_cons, List.length_nil, List.length_append]); have := sizeLine_eq; omega) : DE X G env (.Tuple es n pos) env1 (dD X.K (.tuple ds)) :=
  de_of (pe_tup cA_pa) fun T σ H hs Q q => h T σ H hs _ fun vs H' hl h' => by
    obtain ⟨HF, o1, o2, h1, h2, h3, h4⟩ := StA.dat (by simpa using hl) h'
    refine ⟨by rw [dpAll_len h2]; exact hz, fun p hp => q _ _ (StA.newF h1 h3 h4 hp ?_)⟩
    have hf := h1.hf hp
    exact Dp.tup (.inl (.inl upd_same)) (dpAll_mono (Ex.new hf) h2)
theorem tm_isV {HF : Hp} : ∀ {vs ws : List V} {os : Own}, vs.length = ws.length → Tm HF os (vs.zip (ws.map fun w => .fz (isV w))) → os = [] ∧ vs = ws
  | [], [], _, _, .nil => ⟨rfl, rfl⟩
  | [], _ :: _, _, h, _ => by cases h
  | _ :: _, [], _, h, _ => by cases h
  | v :: vs, d :: ds, _, h, .cons a t => by
    obtain ⟨e, r⟩ := tm_isV (vs := vs) (ws := ds) (by simpa using h) t
    obtain ⟨e1, e2⟩ := a
    exact ⟨by rw [e, e1]; rfl, by rw [r, show v = d from e2]⟩
theorem de_tupV {ws : List V} {n} (h : DA X G env es env1 (ws.map fun w => .fz (isV w))) (hz : ws.length ≤ sizeLine := by (try simp only [List.length_cons, List.length_nil, List.length_append]); have := sizeLine_eq; omega) : DE X G env (.Tuple es n pos) env1 (.fz (isTV ws)) :=
  de_of (pe_tup cA_pa) fun T σ H hs Q q => h T σ H hs _ fun vs H' hl h' => by
    obtain ⟨HF, o1, o2, h1, h2, h3⟩ := h'
    obtain ⟨oa, ob, e, h4, h5⟩ := h2.split
    obtain ⟨e1, h6⟩ := tm_isV (by simpa using hl) h4
    subst e1 h6
    simp only [List.nil_append] at e
    subst e
    exact ⟨hz, fun p hp => q _ _ (StA.newF h1 h5 h3 hp ⟨p, rfl, upd_same⟩)⟩
/-- a list of one's own, of told data -/
def oL (K : PySem.W.Frag) (ds : List PyData) : As := ⟨fun H v o => ∃ a xs, v = .ref a ∧ o = [(a, .lst xs)] ∧ DpAll K H xs ds, fun e ⟨a, xs, h1, h2, h3⟩ => ⟨a, xs, h1, h2, dpAll_mono e h3⟩, isD K (.list ds),
  fun {H H' v o} e k ⟨a, xs, h1, h2, h3⟩ => by
    subst h1 h2
    exact Dp.lst (k (a, .lst xs) (List.mem_singleton.mpr rfl)) (dpAll_mono e h3)⟩
abbrev oLn (K : PySem.W.Frag) (ds : List PyData) : As := (oL K ds).at none
theorem de_lstD {ds : List PyData} (h : DAD X G env es env1 ds) (hz : ds.length ≤ sizeLine := by (try simp only [List.length_cons, List.length_nil, List.length_append]); have := sizeLine_eq; omega) : DE X G env (.List es pos) env1 (oLn X.K ds) :=
  de_of (pe_lst cA_pa) fun T σ H hs Q q => h T σ H hs _ fun vs H' hl h' => by
    obtain ⟨HF, o1, o2, h1, h2, h3, h4⟩ := StA.dat (by simpa using hl) h'
    exact ⟨by rw [dpAll_len h2]; exact hz, fun p hp => q _ _ (StA.newO h1 h3 h4 hp ⟨fun _ z => (nomatch z), p, vs, rfl, rfl, h2⟩)⟩

/-! ### items -/
def IxD (X : Cx) (P R : FP) (S : As) : Prop :=
  ∃ r : R2, IxR X r ∧ ∀ (G : Reg) (T : List (V × As)) (env : Ev) (σ : St) (H : Hp) (va vb : V), StA G ((vb, .fz R) :: (va, .fz P) :: T) env σ H → ∀ Q : VK, (∀ v H', StA G ((v, S) :: T) env σ H' → Q v H') → r va vb H Q
theorem de_ix (ha : DE X G env a env1 A) (hb : DE X G env1 b env2 B) (ho : IxD X A.fr B.fr S) (hs : PlainIx b := by exact fun _ _ => rfl) : DE X G env (.Subscript a b pos) env2 S := by
  obtain ⟨r, hr, k⟩ := ho
  exact de_of (pe_ix hr cE_pe cE_pe hs) fun T σ H hs Q q => ha T σ H hs _ fun va H1 h1 => hb _ σ H1 h1.freeze _ fun vb H2 h2 => k G T env2 σ H2 va vb h2.freeze Q q
theorem StA.two' {T : List (V × As)} {σ : St} {H : Hp} {va vb : V} (h : StA G ((vb, .fz R) :: (va, .fz P) :: T) env σ H) : ∃ HF o1 o2, Held G HF (o1 ++ o2) H ∧ P.p HF va ∧ R.p HF vb ∧ Tm HF o1 T ∧ Sl HF o2 σ env := by
  obtain ⟨HF, o, o1, o2, h1, ⟨rfl, hb⟩, h3, h4⟩ := h.top
  cases h3 with
  | cons a t =>
    obtain ⟨rfl, a⟩ := a
    exact ⟨HF, _, o2, h1, a, hb, t, h4⟩
theorem ixd_l {ds : List PyData} {m : Int} {d : PyData} (h : atI ds m = some d) : IxD X (isD X.K (.list ds)) (isD X.K (.int m)) (dD X.K d) :=
  ⟨_, ix_list, fun G T env σ H va vb hs Q q => by
    obtain ⟨HF, o1, o2, h1, ha, hb, t, s⟩ := hs.two'
    obtain ⟨p, xs, e, h2, h3⟩ := dpL ha
    obtain ⟨j, k1, k2, k3, k4, k5⟩ := atI_get h
    obtain ⟨v, e1, e2⟩ := dpAll_get h3 k2
    refine ⟨p, xs, m, v, e, dpI hb, h1.inH.l h2, ?_, q v H ⟨HF, [] ++ o1, o2, h1, .cons (A := dD X.K d) ⟨rfl, e2⟩ t, s⟩⟩
    unfold atI at h ⊢
    rw [dpAll_len h3]
    cases hx : ixN ds.length m with
    | none => rw [hx] at h; cases h
    | some j' =>
      rw [hx] at h
      obtain ⟨v', e3, e4⟩ := dpAll_get h3 (show ds[j']? = some d from h)
      have hj : j' = j := by
        obtain ⟨q1, _⟩ := ixN_seq hx
        rw [q1] at k1; exact Option.some.inj k1
      subst hj
      exact e1⟩
theorem ixd_t {ds : List PyData} {m : Int} {d : PyData} (h : atI ds m = some d) : IxD X (isD X.K (.tuple ds)) (isD X.K (.int m)) (dD X.K d) :=
  ⟨_, ix_tup, fun G T env σ H va vb hs Q q => by
    obtain ⟨HF, o1, o2, h1, ha, hb, t, s⟩ := hs.two'
    obtain ⟨p, xs, e, h2, h3⟩ := dpT ha
    obtain ⟨j, k1, k2, k3, k4, k5⟩ := atI_get h
    obtain ⟨v, e1, e2⟩ := dpAll_get h3 k2
    refine ⟨p, xs, m, v, e, dpI hb, h1.inH.t h2, ?_, q v H ⟨HF, [] ++ o1, o2, h1, .cons (A := dD X.K d) ⟨rfl, e2⟩ t, s⟩⟩
    unfold atI at h ⊢
    rw [dpAll_len h3]
    cases hx : ixN ds.length m with
    | none => rw [hx] at h; cases h
    | some j' =>
      rw [hx] at h
      have hj : j' = j := by
        obtain ⟨q1, _⟩ := ixN_seq hx
        rw [q1] at k1; exact Option.some.inj k1
      subst hj
      exact e1⟩
/-! ### slices -/
def DO (X : Cx) (G : Reg) (env : Ev) (e : Option Expr) (o : Option Int) : Prop := ∃ t : TO, PO X e t ∧ ∀ (T : List (V × As)) (σ : St) (H : Hp), StA G T env σ H → ∀ Q : Option Int → Hp → Prop, (∀ H', StA G T env σ H' → Q o H') → t σ H Q
theorem do_none : DO X G env none none := ⟨_, po_none, fun T σ H hs Q q => q H hs⟩
theorem do_some {m : Int} (h : DE X G env e env (dD X.K (.int m))) : DO X G env (some e) (some m) := ⟨_, po_some cE_pe, fun T σ H hs Q q => h T σ H hs _ fun v H' h' => by
  obtain ⟨HF, _, hv⟩ := h'.one
  exact ⟨m, dpI hv, q H' h'.pop⟩⟩
def cutD (ds : List PyData) (lo hi : Option Int) : List PyData := (ds.drop (HT.sIx ds.length 0 lo)).take (HT.sIx ds.length ds.length hi - HT.sIx ds.length 0 lo)
theorem dpAll_cut {H : Hp} {xs : List V} {ds : List PyData} (h : DpAll K H xs ds) (lo hi : Option Int) : DpAll K H (cutV xs lo hi) (cutD ds lo hi) := by
  unfold cutV cutD
  rw [dpAll_len h]
  exact dpAll_take _ (dpAll_drop _ h)
theorem StA.one' {T : List (V × As)} {σ : St} {H : Hp} {va : V} (h : StA G ((va, .fz P) :: T) env σ H) : ∃ HF o1 o2, Held G HF (o1 ++ o2) H ∧ P.p HF va ∧ Tm HF o1 T ∧ Sl HF o2 σ env := by
  obtain ⟨HF, o, o1, o2, h1, ⟨rfl, hb⟩, h3, h4⟩ := h.top
  exact ⟨HF, o1, o2, h1, hb, h3, h4⟩
theorem de_slL {lo hi : Option Expr} {l u : Option Int} {p2 : Pos} {ds : List PyData} (h : DE X G env e env1 A) (hA : A.fr = isD X.K (.list ds)) (hl : DO X G env1 lo l) (hh : DO X G env1 hi u) : DE X G env (.Subscript e (.Slice lo hi none p2) pos) env1 (oLn X.K (cutD ds l u)) := by
  obtain ⟨tl, pl, kl⟩ := hl
  obtain ⟨th, ph, kh⟩ := hh
  refine de_of (pe_slice sl_list cE_pe pl ph) fun T σ H hs Q q => h T σ H hs _ fun v H1 h1 => kl _ σ H1 h1.freeze _ fun H2 h2 => kh _ σ H2 h2 _ fun H3 h3 => ?_
  rw [hA] at h3
  obtain ⟨HF, o1, o2, k1, ka, t, s⟩ := h3.one'
  obtain ⟨p, xs, e, h4, h5⟩ := dpL ka
  refine ⟨p, xs, e, k1.inH.l h4, fun p hp => q _ _ (StA.newO k1 t s hp ⟨fun _ z => (nomatch z), p, _, rfl, rfl, dpAll_cut h5 l u⟩)⟩
theorem cut_whole {ds : List PyData} {lo hi : Option Int} (h : HT.sIx ds.length 0 lo = 0 ∧ HT.sIx ds.length ds.length hi = ds.length) : cutD ds lo hi = ds := by
  unfold cutD
  rw [h.1, h.2]; simp
theorem de_slT {lo hi : Option Expr} {l u : Option Int} {p2 : Pos} {ds : List PyData} (h : DE X G env e env1 A) (hA : A.fr = isD X.K (.tuple ds)) (hl : DO X G env1 lo l) (hh : DO X G env1 hi u) : DE X G env (.Subscript e (.Slice lo hi none p2) pos) env1 (dD X.K (.tuple (cutD ds l u))) := by
  obtain ⟨tl, pl, kl⟩ := hl
  obtain ⟨th, ph, kh⟩ := hh
  refine de_of (pe_slice sl_tupA cE_pe pl ph) fun T σ H hs Q q => h T σ H hs _ fun v H1 h1 => kl _ σ H1 h1.freeze _ fun H2 h2 => kh _ σ H2 h2 _ fun H3 h3 => ?_
  rw [hA] at h3
  obtain ⟨HF, o1, o2, k1, ka, t, s⟩ := h3.one'
  obtain ⟨p, xs, e, h4, h5⟩ := dpT ka
  have hn := dpAll_len h5
  refine ⟨p, xs, e, k1.inH.t h4, fun w => ?_, fun _ p' hp => q _ _ (StA.newF k1 t s hp ?_)⟩
  · rw [hn] at w
    rw [cut_whole w] at q
    subst e
    exact q _ H3 h3
  · exact Dp.tup (.inl (.inl upd_same)) (dpAll_mono (Ex.new (k1.hf hp)) (dpAll_cut h5 l u))
/-- t + u -/
theorem opd_catT {ds es : List PyData} (hz : ds.length + es.length ≤ sizeLine) : OpD X (binaryOp .Add) (isD X.K (.tuple ds)) (isD X.K (.tuple es)) (dD X.K (.tuple (ds ++ es))) :=
  ⟨_, op_catA, fun G T env σ H va vb hs Q q => by
    obtain ⟨HF, o1, o2, k1, ha, hb, t, s⟩ := hs.two'
    obtain ⟨p, xs, e, h4, h5⟩ := dpT ha
    obtain ⟨p', ys, e', h4', h5'⟩ := dpT hb
    have hn := dpAll_len h5
    have hn' := dpAll_len h5'
    refine ⟨p, p', xs, ys, e, e', k1.inH.t h4, k1.inH.t h4', by omega, fun hx => ?_, fun hx hy => ?_, fun hx hy q' hq => q _ _ (StA.newF k1 t s hq ?_)⟩
    · subst hx
      cases ds with
      | cons _ _ => cases hn
      | nil =>
        refine q _ H ⟨HF, [] ++ o1, o2, k1, .cons (A := dD X.K _) ⟨rfl, ?_⟩ t, s⟩
        rw [← e']; exact hb
    · subst hy
      cases es with
      | cons _ _ => cases hn'
      | nil =>
        refine q _ H ⟨HF, [] ++ o1, o2, k1, .cons (A := dD X.K _) ⟨rfl, ?_⟩ t, s⟩
        rw [List.append_nil, ← e]; exact ha
    · exact Dp.tup (.inl (.inl upd_same)) (dpAll_mono (Ex.new (k1.hf hq)) (dpAll_app h5 h5'))⟩
end
end DL

set_option maxHeartbeats 4000000
/-! DL5: what a loop walks, for, while, comprehensions, targets. -/
namespace DL
open PySem PySem.Spec PyProof.Rows L2
section
variable {X : Cx} {N : List Str} {sc : Scope} {ok : Str → Bool} {G : Reg} {env env1 env2 env3 : Ev} {A B S : As} {P R : FP} {e a b : Expr} {es : List Expr} {pos : Pos} {x : Str} {i : Nat} {K : PySem.W.Frag}

/-! ### lists of any told values, of owned values -/
def All2 (H : Hp) : List V → List FP → Prop
  | [], [] => True
  | v :: vs, P :: Ps => P.p H v ∧ All2 H vs Ps
  | _, _ => False
theorem All2.mono {H H' : Hp} (e : Ex H H') : ∀ {vs : List V} {Ps : List FP}, All2 H vs Ps → All2 H' vs Ps
  | [], [], h => h
  | v :: vs, P :: Ps, h => ⟨P.mono e h.1, All2.mono e h.2⟩
  | [], _ :: _, h => h.elim
  | _ :: _, [], h => h.elim
theorem All2.len {H : Hp} : ∀ {vs : List V} {Ps : List FP}, All2 H vs Ps → vs.length = Ps.length
  | [], [], _ => rfl
  | _ :: vs, _ :: Ps, h => by simp [All2.len h.2]
  | [], _ :: _, h => h.elim
  | _ :: _, [], h => h.elim
theorem All2.get {H : Hp} : ∀ {vs : List V} {Ps : List FP} {j : Nat} {P : FP}, All2 H vs Ps → Ps[j]? = some P → ∃ v, vs[j]? = some v ∧ P.p H v
  | [], [], _, _, _, e => by simp at e
  | v :: vs, Q :: Ps, 0, P, h, e => by simp at e; subst e; exact ⟨v, rfl, h.1⟩
  | v :: vs, Q :: Ps, j + 1, P, h, e => by
    obtain ⟨w, h1, h2⟩ := All2.get (j := j) h.2 (by simpa using e)
    exact ⟨w, by simpa using h1, h2⟩
  | [], _ :: _, _, _, h, _ => h.elim
  | _ :: _, [], _, _, h, _ => h.elim
theorem all2_dp {H : Hp} : ∀ {vs : List V} {ds : List PyData}, All2 H vs (ds.map (isD K)) → DpAll K H vs ds
  | [], [], _ => .nil
  | v :: vs, d :: ds, h => .cons h.1 (all2_dp h.2)
  | [], _ :: _, h => h.elim
  | _ :: _, [], h => h.elim
theorem dp_all2 {H : Hp} : ∀ {vs : List V} {ds : List PyData}, DpAll K H vs ds → All2 H vs (ds.map (isD K))
  | _, _, .nil => trivial
  | _, _, .cons h t => ⟨h, dp_all2 t⟩
/-- a list of such values -/
def isL (Ps : List FP) : FP := ⟨fun H v => ∃ a xs, v = .ref a ∧ H a = some (.lst xs) ∧ All2 H xs Ps, fun e ⟨a, xs, h1, h2, h3⟩ => ⟨a, xs, h1, e _ _ h2, h3.mono e⟩⟩
theorem tm_frz {H H' : Hp} (e : Ex H H') : ∀ {vs : List V} {L : List As} {os : Own}, vs.length = L.length → Tm H os (vs.zip L) → (∀ q ∈ os, H' q.1 = some q.2) → All2 H' vs (L.map As.fr)
  | [], [], _, _, _, _ => trivial
  | [], _ :: _, _, h, _, _ => by cases h
  | _ :: _, [], _, h, _, _ => by cases h
  | v :: vs, A :: L, _, h, .cons a t, k => ⟨A.frz e (fun q hq => k q (List.mem_append_left _ hq)) a, tm_frz e (by simpa using h) t fun q hq => k q (List.mem_append_right _ hq)⟩
/-- a list of one's own, of values that may be one's own too -/
def oA (L : List As) : As := ⟨fun H v o => ∃ a xs os, v = .ref a ∧ o = (a, .lst xs) :: os ∧ xs.length = L.length ∧ Tm H os (xs.zip L), fun e ⟨a, xs, os, h1, h2, h3, h4⟩ => ⟨a, xs, os, h1, h2, h3, h4.mono e⟩, isL (L.map As.fr),
  fun {H H' v o} e k ⟨a, xs, os, h1, h2, h3, h4⟩ => by
    subst h1 h2
    exact ⟨a, xs, rfl, k (a, .lst xs) List.mem_cons_self, tm_frz e h3 h4 fun q hq => k q (List.mem_cons_of_mem _ hq)⟩⟩
theorem oA_data {HF : Hp} {v : V} {o : Own} {ds : List PyData} (h : (oA (ds.map (dD K))).p HF v o) : (oL K ds).p HF v o := by
  obtain ⟨a, xs, os, h1, h2, h3, h4⟩ := h
  obtain ⟨e, h5⟩ := tm_dpAll (by simpa using h3) h4
  subst e
  exact ⟨a, xs, h1, h2, h5⟩
theorem tm_of_all2 {HF : Hp} : ∀ {vs : List V} {Ps : List FP}, All2 HF vs Ps → Tm HF [] (vs.zip (Ps.map As.fz))
  | [], [], _ => .nil
  | v :: vs, P :: Ps, h => Tm.cons (A := As.fz P) (o := []) (os := []) ⟨rfl, h.1⟩ (tm_of_all2 h.2)
  | [], _ :: _, h => h.elim
  | _ :: _, [], h => h.elim

/-! ### targets -/
/-- a target takes a value: the slots it stores are among ws -/
def DGt (X : Cx) (G : Reg) (env : Ev) (A : As) (tg : Expr) (ws : List Nat) (env' : Ev) : Prop :=
  ∀ (T : List (V × As)) (v : V) (σ : St) (H : Hp), StA G ((v, A) :: T) env σ H → ∀ Q : St → Hp → Prop, (∀ σ' H', (∀ j, j ∉ ws → σ'[j]? = σ[j]?) → σ'.length = σ.length → StA G T env' σ' H' → Q σ' H') → cG X tg v σ H Q
theorem dg_name (B : Bx κ X N sc ok) (i : Nat) (hN : N[i]? = some x := by rfl) (hx : Loc sc x := by first | exact Or.inl rfl | exact Or.inr rfl) (hi : i < env.length := by exact of_decide_eq_true rfl) (hok : ok x = true := by rfl) : DGt X G env A (.Name x pos) [i] (env.set i (some A)) :=
  fun T v σ H hs Q q => of_pg (pg_name (B.N_ ▸ B.nd) (B.N_ ▸ hN) (B.sc_ ▸ hx) (B.fn x hok (B.sc_ ▸ hx))) (q _ H (fun j hj => List.getElem?_set_ne (fun z => hj (by simp [z]))) (by simp) (hs.store hi))
def cGs (X : Cx) (ts : List Expr) : TGs := fun vs σ H Q => ∀ (pins : List (Addr × Obj)) (s : Shared) (us : List Value), Inv X pins σ H s → Vals vs us → wpAny (model X.prog X.w) X.A (assignInOrder ((assignEach ts X.env).map (·.2)) us) (fun _ s' => ∃ σ' H', Inv X pins σ' H' s' ∧ Q σ' H') X.xe s
theorem cGs_pgs {ts : List Expr} : PGs X ts (cGs X ts) := ⟨fun pins s σ H vs us Q I r h => h pins s us I r⟩
theorem of_pgs {ts : List Expr} {t : TGs} {vs : List V} {σ : St} {H : Hp} {Q : St → Hp → Prop} (h : PGs X ts t) (q : t vs σ H Q) : cGs X ts vs σ H Q := fun pins s us I r => h.run pins s σ H vs us Q I r q
def DGts (X : Cx) (G : Reg) (env : Ev) (Ps : List FP) (ts : List Expr) (ws : List Nat) (env' : Ev) : Prop :=
  ∀ (T : List (V × As)) (vs : List V) (σ : St) (H : Hp), vs.length = Ps.length → StA G (vs.zip (Ps.map As.fz) ++ T) env σ H → ∀ Q : St → Hp → Prop, (∀ σ' H', (∀ j, j ∉ ws → σ'[j]? = σ[j]?) → σ'.length = σ.length → StA G T env' σ' H' → Q σ' H') → cGs X ts vs σ H Q
theorem dgs_nil : DGts X G env [] [] [] env := fun T vs σ H hl hs Q q => of_pgs pgs_nil ⟨List.eq_nil_of_length_eq_zero hl, q σ H (fun _ _ => rfl) rfl (by rw [List.eq_nil_of_length_eq_zero hl] at hs; exact hs)⟩
theorem dgs_cons {Ps : List FP} {t : Expr} {ts : List Expr} {ws ws' : List Nat} (h : DGt X G env (.fz P) t ws env1) (hr : DGts X G env1 Ps ts ws' env2) (hst : (assignEach (t :: ts) X.env).map (·.2) = assign t X.env :: (assignEach ts X.env).map (·.2) := by rfl) : DGts X G env (P :: Ps) (t :: ts) (ws ++ ws') env2 :=
  fun T vs σ H hl hs Q q => by
    cases vs with
    | nil => cases hl
    | cons v vs =>
      refine of_pgs (pgs_cons cG_pg cGs_pgs hst) ⟨v, vs, rfl, ?_⟩
      refine h (vs.zip (Ps.map As.fz) ++ T) v σ H hs _ fun σ1 H1 e1 l1 h1 => hr T vs σ1 H1 (by simpa using hl) h1 Q fun σ2 H2 e2 l2 h2 => q σ2 H2 (fun j hj => ?_) (l2.trans l1) h2
      rw [List.mem_append, not_or] at hj
      exact (e2 j hj.2).trans (e1 j hj.1)
/-- (a, b, ..) = a tuple told so: an unpacking of data -/
theorem dg_tup {ds : List PyData} {ts : List Expr} {ws : List Nat} {k : Nat} (B : Bx true X N sc ok) (h : DGts X G env (ds.map (isD X.K)) ts ws env1) (hn : (assignEach ts X.env).length = ds.length := by rfl) (hst : (assignEach ts X.env).findIdx? (·.1) = none := by rfl) : DGt X G env (dD X.K (.tuple ds)) (.Tuple ts k pos) ws env1 :=
  fun T v σ H hs Q q => of_pg (pg_tup B.calm cGs_pgs hn hst) (by
    obtain ⟨HF, o1, o2, h1, ha, t, s⟩ := hs.one'
    obtain ⟨p, xs, e, h2, h3⟩ := dpT ha
    have hl := dpAll_len h3
    refine ⟨p, xs, e, h1.inH.t h2, hl, h T xs σ H (by simpa using hl) ⟨HF, [] ++ o1, o2, h1, Tm.join (tm_of_all2 (dp_all2 h3)) t, s⟩ Q q⟩)

/-! ### what is walked -/
def Walks (X : Cx) (G : Reg) (J : It) (tmp : List (V × As)) (its : List FP) : Prop :=
  ∀ (i : Nat) (T : List (V × As)) (env : Ev) (σ : St) (H : Hp), StA G (tmp ++ T) env σ H →
    (∀ P, its[i]? = some P → J.go i H ∧ ∀ x H', J.yld i H x H' → StA G ((x, .fz P) :: (tmp ++ T)) env σ H') ∧ (its.length ≤ i → J.stop i H)
/-- turns, in either state -/
def TurnB : Bool → Program → World → PySem.W.Frag → Expr → It → List Addr → Addr → (Nat → Heap → Prop) → Prop
  | true, P, w, K, tg, J, fp, it, tn => Turn P w K tg J fp it tn
  | false, P, w, K, tg, J, fp, it, tn => L2H.TurnH P w K tg J fp it tn
section
variable {κ : Bool} {P : Program} {w : World} {K : PySem.W.Frag} {tg : Expr} {J : It} {fp : List Addr} {it : Addr} {tn : Nat → Heap → Prop}
theorem TurnB.obj (T : TurnB κ P w K tg J fp it tn) : ∀ i h, tn i h → ∀ b ∈ fp, ∃ o, h.get? b = some o ∧ ∀ v, o.data ≠ .cell v := by
  cases κ with
  | true => exact Turn.obj T
  | false => exact L2H.TurnH.obj T
theorem TurnB.keep (T : TurnB κ P w K tg J fp it tn) : ∀ i h h', tn i h → (∀ b ∈ fp, ∀ o, h.get? b = some o → h'.get? b = some o) → tn i h' := by
  cases κ with
  | true => exact Turn.keep T
  | false => exact L2H.TurnH.keep T
theorem TurnB.item (T : TurnB κ P w K tg J fp it tn) (X : Cx) (h1 : X.prog = P) (h2 : X.w = w) (h3 : X.K = K) (hc : Cm κ X) : ∀ (i : Nat) (pins : List (Addr × Obj)) (s : Shared) (σ : St) (H : Hp) (E : Value → Shared → Prop), Inv X pins σ H s → (∀ b ∈ fp, FpOk X pins H b) → tn i s.heap → J.go i H →
    wpAny (model P w) X.A (pyNext (.ref it)) (fun r s1 => ∃ u, r = some u ∧
      wpAny (model P w) X.A (letOwnedTupleGo tg (.ref it) u) (fun _ s2 => ∃ x H', Inv X pins σ H' s2 ∧ RelV x u ∧ J.yld i H x H' ∧ tn (i + 1) s2.heap ∧ ∀ b ∈ fp, H' b = none) E s1) E s := by
  cases κ with
  | true => exact Turn.item T X h1 h2 h3 hc
  | false => exact L2H.TurnH.item T X h1 h2 h3 hc
theorem TurnB.done (T : TurnB κ P w K tg J fp it tn) (X : Cx) (h1 : X.prog = P) (h2 : X.w = w) (h3 : X.K = K) (hc : Cm κ X) : ∀ (i : Nat) (pins : List (Addr × Obj)) (s : Shared) (σ : St) (H : Hp) (E : Value → Shared → Prop), Inv X pins σ H s → (∀ b ∈ fp, FpOk X pins H b) → tn i s.heap → J.stop i H →
    wpAny (model P w) X.A (pyNext (.ref it)) (fun r s1 => r = none ∧ Inv X pins σ H s1) E s := by
  cases κ with
  | true => exact Turn.done T X h1 h2 h3 hc
  | false => exact L2H.TurnH.done T X h1 h2 h3 hc
theorem TurnB.self (T : TurnB κ P w K tg J fp it tn) : ∀ (A : Around) (i : Nat) (s : Shared) (Q : Value → Shared → Prop) (E : Value → Shared → Prop), tn i s.heap → Q (.ref it) s → wpAny (model P w) A (pyIter (.ref it)) Q E s := by
  cases κ with
  | true => exact Turn.self T
  | false => exact L2H.TurnH.self T
end
def PIEB (κ : Bool) (X : Cx) (pins : List (Addr × Obj)) (σ : St) (tg : Expr) (R : It → Hp → Prop) (itv : Value) (s2 : Shared) : Prop :=
  ∃ (it : Addr) (fp : List Addr) (tn : Nat → Heap → Prop) (J : It) (H' : Hp), itv = .ref it ∧ Inv X pins σ H' s2 ∧ TurnB κ X.prog X.w X.K tg J fp it tn ∧ tn 0 s2.heap ∧ (∀ b ∈ fp, FpOk X pins H' b) ∧ R J H'
def PIB : Bool → Cx → Expr → Expr → TI → Prop
  | true, X, tg, e, wi => PI X tg e wi
  | false, X, tg, e, wi => L2H.PIH X tg e wi
theorem PIB.run {κ : Bool} {X : Cx} {tg iter : Expr} {wi : TI} (h : PIB κ X tg iter wi) : ∀ (pins : List (Addr × Obj)) (s : Shared) (σ : St) (H : Hp) (R : It → Hp → Prop), Inv X pins σ H s → wi σ H R →
    wpAny (model X.prog X.w) X.A (eval iter X.env) (fun v s1 => wpAny (model X.prog X.w) X.A (pyIter v) (PIEB κ X pins σ tg R) X.xe s1) X.xe s := by
  cases κ with
  | true => exact PI.run h
  | false => exact L2H.PIH.run h
def DI (κ : Bool) (X : Cx) (G : Reg) (env : Ev) (tg iter : Expr) (env' : Ev) (its : List FP) : Prop :=
  ∃ wi : TI, PIB κ X tg iter wi ∧ ∀ (T : List (V × As)) (σ : St) (H : Hp), StA G T env σ H → ∀ R : It → Hp → Prop, (∀ J H' tmp, StA G (tmp ++ T) env' σ H' → Walks X G J tmp its → R J H') → wi σ H R
theorem StA.dropT {T : List (V × As)} {σ : St} {H : Hp} : ∀ {tmp : List (V × As)}, StA G (tmp ++ T) env σ H → StA G T env σ H
  | [], h => h
  | p :: r, h => StA.dropT (StA.pop (v := p.1) (A := p.2) (T := r ++ T) h)
theorem StA.dropT1 {T : List (V × As)} {σ : St} {H : Hp} {v : V} {tmp : List (V × As)} (h : StA G ((v, A) :: (tmp ++ T)) env σ H) : StA G ((v, A) :: T) env σ H :=
  StA.dropT (tmp := tmp) (h.perm List.perm_middle.symm)
theorem walks_l {a : Addr} {Ps : List FP} : Walks X G (Itl X.K a) [(.ref a, .fz (isL Ps))] Ps := fun i T env σ H hs => by
  obtain ⟨HF, o1, o2, h1, ⟨a', xs, e, h2, h3⟩, t, s⟩ := StA.one' hs
  cases e
  have hq : SqL X.K H a xs := SqL.of (h1.inH _ _ h2)
  refine ⟨fun P hP => ?_, fun hn => ⟨xs, hq, by rw [h3.len]; exact hn⟩⟩
  obtain ⟨v, e1, e2⟩ := h3.get hP
  refine ⟨⟨xs, v, hq, e1⟩, fun x H' y => ?_⟩
  obtain ⟨rfl, y⟩ := y
  have hx := y xs hq
  rw [e1] at hx
  cases hx
  exact ⟨HF, [] ++ ([] ++ o1), o2, h1, .cons (A := .fz P) (o := []) ⟨rfl, e2⟩ (.cons (A := .fz (isL Ps)) (o := []) ⟨rfl, _, xs, rfl, h2, h3⟩ t), s⟩
theorem di_l {Ps : List FP} {tg : Expr} (h : DE X G env e env1 A) (hA : A.fr = isL Ps) : DI true X G env tg e env1 Ps :=
  ⟨_, pi_list cE_pe, fun T σ H hs R r => h T σ H hs _ fun v H1 h1 => by
    have h2 := h1.freeze
    rw [hA] at h2
    obtain ⟨HF, o1, o2, k1, ⟨a', xs, e, k2, k3⟩, t, s⟩ := h2.one'
    subst e
    exact ⟨a', rfl, ⟨xs, SqL.of (k1.inH _ _ k2)⟩, r _ H1 [(.ref a', .fz (isL Ps))] h2 walks_l⟩⟩
theorem de_list_l {ds : List PyData} (h : DE X G env e env1 A) (hA : A.fr = isD X.K (.list ds)) : DE X G env e env1 (.fz (isL (ds.map (isD X.K)))) :=
  de_say (de_frz h) fun HF v o ha => by
    rw [hA] at ha
    obtain ⟨p, xs, e, h2, h3⟩ := dpLt ha.2
    exact ⟨ha.1, p, xs, e, h2, dp_all2 h3⟩
theorem di_ld {ds : List PyData} {tg : Expr} (h : DE X G env e env1 A) (hA : A.fr = isD X.K (.list ds)) : DI true X G env tg e env1 (ds.map (isD X.K)) := di_l (de_list_l h hA) rfl
theorem walks_t {a : Addr} {ds : List PyData} : Walks X G (Itt X.K a) [(.ref a, dD X.K (.tuple ds))] (ds.map (isD X.K)) := fun i T env σ H hs => by
  obtain ⟨HF, o1, o2, h1, ha, t, s⟩ := StA.one' hs
  obtain ⟨a', xs, e, h2, h3⟩ := dpT ha
  cases e
  have hq := h1.inH.t h2
  refine ⟨fun P hP => ?_, fun hn => ⟨xs, hq, by rw [dpAll_len h3]; simpa using hn⟩⟩
  obtain ⟨v, e1, e2⟩ := (dp_all2 h3).get hP
  refine ⟨⟨xs, v, hq, e1⟩, fun x H' y => ?_⟩
  obtain ⟨rfl, y⟩ := y
  have hx := y xs hq
  rw [e1] at hx
  cases hx
  exact ⟨HF, [] ++ ([] ++ o1), o2, h1, .cons (A := .fz P) (o := []) ⟨rfl, e2⟩ (.cons (A := dD X.K (.tuple ds)) (o := []) ⟨rfl, ha⟩ t), s⟩
theorem pib_tup {κ : Bool} {l tg : Expr} {tl : TE} (hl : PE X l tl) : PIB κ X tg l (iTup X.K tl) := by
  cases κ with
  | true => exact pi_tup hl
  | false => exact pi_tupH hl
theorem pib_range1 {κ : Bool} {tg a : Expr} {ta : TA} {p pos : Pos} (hg : Gl X "range") (hm : X.mg "range" = none) (ha : PA X [a] ta) (hs : starEach [a] X.env = [(false, eval a X.env)] := by rfl) : PIB κ X tg (.Call (.Name "range" p) [a] [] pos) (iRng1 ta) := by
  cases κ with
  | true => exact pi_range1 hg hm ha hs
  | false => exact L2H.pi_range1H hg hm ha hs
theorem di_td {ds : List PyData} {tg : Expr} (h : DE X G env e env1 A) (hA : A.fr = isD X.K (.tuple ds)) : DI κ X G env tg e env1 (ds.map (isD X.K)) :=
  ⟨_, pib_tup cE_pe, fun T σ H hs R r => h T σ H hs _ fun v H1 h1 => by
    have h2 := h1.freeze
    rw [hA] at h2
    obtain ⟨HF, o1, o2, k1, ha, t, s⟩ := h2.one'
    obtain ⟨a', xs, e, k2, k3⟩ := dpT ha
    subst e
    exact ⟨a', rfl, ⟨xs, k1.inH.t k2⟩, r _ H1 [(.ref a', dD X.K (.tuple ds))] h2 walks_t⟩⟩
def rgD (lo : Int) (n : Nat) : List PyData := (List.range n).map fun i => .int (lo + (i : Nat))
theorem walks_r {lo : Int} {n : Nat} : Walks X G (Itr lo n) [] ((rgD lo n).map (isD X.K)) := fun i T env σ H hs => by
  refine ⟨fun P hP => ?_, fun hn => by
    show n ≤ i
    simpa [rgD] using hn⟩
  simp only [rgD, List.map_map, List.getElem?_map, Option.map_eq_some_iff] at hP
  obtain ⟨j, hj, rfl⟩ := hP
  obtain ⟨h1, h2⟩ := List.getElem?_eq_some_iff.mp hj
  simp only [List.length_range, List.getElem_range] at h1 h2
  subst h2
  refine ⟨h1, fun x H' y => ?_⟩
  obtain ⟨rfl, rfl⟩ := y
  exact StA.push hs fun HF => Dp.int _
theorem di_r1 {tg : Expr} {n : Int} {p pos : Pos} (B : Bx κ X N sc ok) (h : DE X G env a env1 (dD X.K (.int n))) (hm : X.mg "range" = none) (hn : n < 2 ^ 62 ∧ -(2 ^ 62) ≤ n) (hg : GlS sc "range" := by rfl) (hs : starEach [a] X.env = [(false, eval a X.env)] := by rfl) :
    DI κ X G env tg (.Call (.Name "range" p) [a] [] pos) env1 ((rgD 0 n.toNat).map (isD X.K)) :=
  ⟨_, pib_range1 (B.gl hg) hm (pa_cons cE_pe pa_nil hs) hs, fun T σ H hs R r => h T σ H hs _ fun v H1 h1 => by
    obtain ⟨HF, _, hv⟩ := h1.one
    exact ⟨n, by rw [dpI hv], hn.2, hn.1, r _ H1 [] h1.pop walks_r⟩⟩
theorem di_r2 {tg : Expr} {m n : Int} {p pos : Pos} (B : Bx κ X N sc ok) (h : DE X G env a env1 (dD X.K (.int m))) (h' : DE X G env1 b env2 (dD X.K (.int n))) (hm : X.mg "range" = none) (hb : (m < 2 ^ 62 ∧ -(2 ^ 62) ≤ m) ∧ n < 2 ^ 62 ∧ -(2 ^ 62) ≤ n) (hg : GlS sc "range" := by rfl) (hs : starEach [a, b] X.env = [(false, eval a X.env), (false, eval b X.env)] := by rfl) (hs2 : starEach [b] X.env = [(false, eval b X.env)] := by rfl) :
    DI true X G env tg (.Call (.Name "range" p) [a, b] [] pos) env2 ((rgD m (n - m).toNat).map (isD X.K)) :=
  ⟨_, pi_range2 (B.gl hg) hm (pa_cons cE_pe (pa_cons cE_pe pa_nil hs2) (by rw [hs, hs2])) hs hs2, fun T σ H hs R r => h T σ H hs _ fun v H1 h1 => h' _ σ H1 h1 _ fun v' H2 h2 => by
    obtain ⟨HF, _, hw, hv⟩ := h2.two
    exact ⟨m, n, by rw [dpI hv, dpI hw], ⟨hb.1.2, hb.1.1, hb.2.2, hb.2.1⟩, r _ H2 [] h2.pop.pop walks_r⟩⟩

/-! ### for -/
/-- a turn's ends -/
def Lp (Inv : Ev → Prop) (Pt : Out → Prop) : Out → Prop
  | .nx env => Inv env
  | .ct env => Inv env
  | .bk env => Pt (.nx env)
  | .rt env A => Pt (.rt env A)
variable {Pt : Out → Prop}
theorem ds_for {tg iter : Expr} {body : List Stmt} {its : List FP} (B : Bx true X N sc ok) (hI : DI true X G env tg iter env1 its) (W : Nat → Ev → Prop) (h0 : W 0 env1)
    (step : ∀ i P env', its[i]? = some P → W i env' → ∃ ws env2, DGt X G env' (.fz P) tg ws env2 ∧ DSs X G env2 body (Lp (W (i + 1)) Pt)) (done : ∀ env', W its.length env' → Pt (.nx env'))
    (hs : ∀ x, foldedSetIterable iter X.env x = pure x := by intro _; rfl) : DS X G env (.For tg iter body [] pos) Pt := by
  obtain ⟨wi, hi, k⟩ := hI
  refine fun T σ H hst D d => of_ps (ps_for B.po B.calm hi cG_pg cSs_pss hs) (k T σ H hst _ fun J H1 tmp h1 wk => ?_)
  refine ⟨fun i m σ' H' => m = its.length - i ∧ i ≤ its.length ∧ ∃ env', W i env' ∧ StA G (tmp ++ T) env' σ' H', ⟨its.length, by simp, Nat.zero_le _, env1, h0, h1⟩, ?_⟩
  rintro i m σ' H' ⟨rfl, hle, env', hw, hst'⟩
  obtain ⟨go, stop⟩ := wk i T env' σ' H' hst'
  by_cases hlt : i < its.length
  · obtain ⟨g1, g2⟩ := go its[i] (by simp [hlt])
    obtain ⟨ws, env2, hg, hb⟩ := step i its[i] env' (by simp [hlt]) hw
    refine .inr ⟨g1, fun σ2 H2 => ∃ env3, W (i + 1) env3 ∧ StA G (tmp ++ T) env3 σ2 H2, fun σ2 H2 ⟨env3, w3, s3⟩ => ⟨its.length - (i + 1), by omega, rfl, hlt, env3, w3, s3⟩, fun x H2 y => ?_⟩
    refine hg (tmp ++ T) x σ' H2 (g2 x H2 y) _ fun σ3 H3 _ _ h3 => hb (tmp ++ T) σ3 H3 h3 _ ⟨fun env4 σ4 H4 p h4 => ⟨env4, p, h4⟩, fun env4 A v σ4 H4 p h4 => ?_, fun env4 σ4 H4 p h4 => d.nx env4 σ4 H4 p h4.dropT, fun env4 σ4 H4 p h4 => ⟨env4, p, h4⟩⟩
    exact d.rt env4 A v σ4 H4 p h4.dropT1
  · have e : i = its.length := by omega
    subst e
    exact .inl ⟨stop (Nat.le_refl _), d.nx env' σ' H' (done env' hw) hst'.dropT⟩
theorem ds_while {c : Expr} {body : List Stmt} (B : Bx κ X N sc ok) (W : Nat → Ev → Prop) (m0 : Nat) (h0 : W m0 env)
    (step : ∀ m env', W m env' → ∃ k env2, DT X G env' c env2 k ∧ (k = true → DSs X G env2 body (Lp (fun env3 => ∃ m', m' < m ∧ W m' env3) Pt)) ∧ (k = false → Pt (.nx env2))) : DS X G env (.While c body [] pos) Pt := by
  refine fun T σ H hst D d => of_ps (ps_while B.po cT_pt cSs_pss) ⟨fun m σ' H' => ∃ env', W m env' ∧ StA G T env' σ' H', ⟨m0, env, h0, hst⟩, ?_⟩
  rintro m σ' H' ⟨env', hw, hst'⟩
  obtain ⟨k, env2, hc, h1, h2⟩ := step m env' hw
  refine hc T σ' H' hst' _ fun H2 hs2 => ?_
  cases k with
  | false => exact d.nx env2 σ' H2 (h2 rfl) hs2
  | true =>
    refine ⟨fun σ3 H3 => ∃ m' env3, m' < m ∧ W m' env3 ∧ StA G T env3 σ3 H3, fun σ3 H3 ⟨m', env3, q1, q2, q3⟩ => ⟨m', q1, env3, q2, q3⟩, ?_⟩
    exact h1 rfl T σ' H2 hs2 _ ⟨fun env4 σ4 H4 p h4 => let ⟨m', q1, q2⟩ := p; ⟨m', env4, q1, q2, h4⟩, fun env4 A v σ4 H4 p h4 => d.rt env4 A v σ4 H4 p h4, fun env4 σ4 H4 p h4 => d.nx env4 σ4 H4 p h4, fun env4 σ4 H4 p h4 => let ⟨m', q1, q2⟩ := p; ⟨m', env4, q1, q2, h4⟩⟩
end
end DL

set_option maxHeartbeats 4000000
/-! DL6: list comprehensions of any number of clauses. -/
namespace DL
open PySem PySem.Spec PyProof.Rows L2

def Wk (env env' : Ev) : Prop := ∀ (G : Reg) (T : List (V × As)) (σ : St) (H : Hp), StA G T env σ H → StA G T env' σ H
theorem Wk.refl (env : Ev) : Wk env env := fun _ _ _ _ h => h
theorem Wk.trans {a b c : Ev} (h : Wk a b) (k : Wk b c) : Wk a c := fun G T σ H s => k G T σ H (h G T σ H s)
/-- a stored slot that was empty is forgotten -/
theorem Wk.un {env : Ev} {i : Nat} {A : As} (h : env[i]? = some none) : Wk (env.set i (some A)) env := fun G T σ H s => by
  have hl : i < env.length := (List.getElem?_eq_some_iff.mp h).1
  have h2 := s.forget i A (by rw [List.getElem?_set_self hl])
  rw [List.set_set] at h2
  have : env.set i none = env := by
    apply List.ext_getElem?
    intro j
    by_cases hj : i = j
    · subst hj; rw [List.getElem?_set_self hl, h]
    · rw [List.getElem?_set_ne hj]
  rw [this] at h2
  exact h2
theorem Wk.set {env env' : Ev} {i : Nat} {A : As} (h : Wk env env') (hn : env[i]? = some none) (h' : env'[i]? = some none) : Wk (env.set i (some A)) (env'.set i (some A)) := fun G T σ H s => by
  have hl : i < env.length := (List.getElem?_eq_some_iff.mp hn).1
  have hl' : i < env'.length := (List.getElem?_eq_some_iff.mp h').1
  obtain ⟨v, e, s1⟩ := s.take (by rw [List.getElem?_set_self hl])
  rw [List.set_set] at s1
  have : env.set i none = env := by
    apply List.ext_getElem?
    intro j
    by_cases hj : i = j
    · subst hj; rw [List.getElem?_set_self hl, hn]
    · rw [List.getElem?_set_ne hj]
  rw [this] at s1
  exact (h G _ σ H s1).back e h'
def Agr (ws : List Nat) (σ σ' : St) : Prop := (∀ j, j ∉ ws → σ'[j]? = σ[j]?) ∧ σ'.length = σ.length
theorem Agr.refl (ws : List Nat) (σ : St) : Agr ws σ σ := ⟨fun _ _ => rfl, rfl⟩
theorem Agr.trans {ws : List Nat} {a b c : St} (h : Agr ws a b) (k : Agr ws b c) : Agr ws a c := ⟨fun j hj => (k.1 j hj).trans (h.1 j hj), k.2.trans h.2⟩
theorem Agr.mono {ws vs : List Nat} {a b : St} (h : Agr ws a b) (k : ∀ j ∈ ws, j ∈ vs) : Agr vs a b := ⟨fun j hj => h.1 j fun z => hj (k j z), h.2⟩
theorem agr_wipe (σ : St) (ws : List Nat) : Agr ws σ (wipe σ ws) := ⟨fun j hj => wipe_out hj, wipe_length σ ws⟩
/-- the same claims hold of other slots, if these agree where something is claimed -/
theorem Sl.resig {HF : Hp} : ∀ {os : Own} {σ σ' : St} {env : Ev}, Sl HF os σ env → σ'.length = σ.length → (∀ (j : Nat) (A : As), env[j]? = some (some A) → σ'[j]? = σ[j]?) → Sl HF os σ' env
  | _, [], σ', _, .nil, hl, _ => by
    rw [List.eq_nil_of_length_eq_zero hl]; exact .nil
  | _, _ :: _, [], _, _, hl, _ => by cases hl
  | _, _ :: σ, y :: σ', _, .skip s, hl, k => .skip (s.resig (by simpa using hl) fun j A e => by have := k (j + 1) A (by simpa using e); simpa using this)
  | _, _ :: σ, y :: σ', _, .cons a s, hl, k => by
    have h0 := k 0 _ rfl
    simp only [List.getElem?_cons_zero, Option.some.injEq] at h0
    subst h0
    exact .cons a (s.resig (by simpa using hl) fun j A e => by have := k (j + 1) A (by simpa using e); simpa using this)
theorem StA.resig {G : Reg} {T : List (V × As)} {env : Ev} {σ σ' : St} {H : Hp} (h : StA G T env σ H) (hl : σ'.length = σ.length) (k : ∀ (j : Nat) (A : As), env[j]? = some (some A) → σ'[j]? = σ[j]?) : StA G T env σ' H := by
  obtain ⟨HF, o1, o2, h1, h2, h3⟩ := h
  exact ⟨HF, o1, o2, h1, h2, h3.resig hl k⟩
/-- a clause's tests -/
def cTs (Y : Cx) (ifs : List Expr) : TT := fun σ H Q => ∀ (pins : List (Addr × Obj)) (s : Shared), Inv Y pins σ H s →
    wpAny (model Y.prog Y.w) Y.A (forIn ifs true fun c r => if r = true then do let ok ← isTrue c Y.env (eval c Y.env); pure (ForInStep.yield ok) else pure (ForInStep.yield r)) (TP Y pins σ Q) Y.xe s
theorem cTs_pts {Y : Cx} {ifs : List Expr} : PTs Y ifs (cTs Y ifs) := ⟨fun pins s σ H Q I h => h pins s I⟩
theorem of_pts {Y : Cx} {ifs : List Expr} {t : TT} {σ : St} {H : Hp} {Q : Bool → Hp → Prop} (h : PTs Y ifs t) (q : t σ H Q) : cTs Y ifs σ H Q := fun pins s I => h.run pins s σ H Q I q
def DTs (Y : Cx) (G : Reg) (env : Ev) (ifs : List Expr) (env' : Ev) (b : Bool) : Prop :=
  ∀ (T : List (V × As)) (σ : St) (H : Hp), StA G T env σ H → ∀ Q : Bool → Hp → Prop, (∀ H', StA G T env' σ H' → Q b H') → cTs Y ifs σ H Q
theorem dts_nil {Y : Cx} {G : Reg} {env : Ev} : DTs Y G env [] env true := fun T σ H hs Q q => of_pts pts_nil (q H hs)
theorem dts_one {Y : Cx} {G : Reg} {env env' : Ev} {c : Expr} {b : Bool} (h : DT Y G env c env' b) : DTs Y G env [c] env' b := fun T σ H hs Q q => of_pts (pts_one cT_pt) (h T σ H hs Q q)
/-- a turn of a clause, then the rest of the clauses; all the clauses -/
def LCt (Y : Cx) (G : Reg) (own : List Nat) (tg : Expr) (ifs : List Expr) (rest : Ev → List As → Ev → List As → Prop) (P : FP) (env : Ev) (L : List As) (env' : Ev) (L' : List As) : Prop :=
  ∃ ws env2 env3 b, DGt Y G env (.fz P) tg ws env2 ∧ (∀ j ∈ ws, j ∈ own) ∧ DTs Y G env2 ifs env3 b ∧ (b = true → rest env3 L env' L') ∧ (b = false → Wk env3 env' ∧ L' = L)
def LCb (κ : Bool) (Y : Cx) (G : Reg) (own : List Nat) (elt : Expr) : List Comprehension → Ev → List As → Ev → List As → Prop
  | [], env, L, env', L' => ∃ A env1, DE Y G env elt env1 A ∧ L.length < sizeLine ∧ Wk env1 env' ∧ L' = L ++ [A]
  | g :: gs, env, L, env', L' => g.is_async = 0 ∧ (∀ x, foldedSetIterable g.iter Y.env x = pure x) ∧ ∃ (its : List FP) (env1 : Ev) (F : Nat → Ev × List As), DI κ Y G env g.target g.iter env1 its ∧ Wk env1 (F 0).1 ∧ (F 0).2 = L ∧
      (∀ i P, its[i]? = some P → LCt Y G own g.target g.ifs (LCb κ Y G own elt gs) P (F i).1 (F i).2 (F (i + 1)).1 (F (i + 1)).2) ∧ Wk (F its.length).1 env' ∧ (F its.length).2 = L'

theorem compTurn_last {elt : Expr} {gens : List Comprehension} {scope : Scope} {pos : Pos} {k : Nat} {it acc : Value} {env : Env} {g : Comprehension} (hg : gens[k]? = some g) (ha : g.is_async = 0) (hn : gens[k + 1]? = none) :
    compTurn (.ListComp elt gens scope pos) k it acc env = (do
      standAt g.iter.pos
      match ← pyNext it with
      | none => pure (.done .next)
      | some v =>
        letOwnedTupleGo g.target it v
        assign g.target env v
        let mut ok := true
        for c in g.ifs do
          if ok then ok ← isTrue c env (eval c env)
        if ok then
          (do let _ ← call (.builtin "list.append") [acc, ← eval elt env])
        again (.compLoop (.ListComp elt gens scope pos) k it acc env)) := by
  have h0 : (g.is_async != 0) = false := by rw [ha]; rfl
  unfold compTurn
  simp only [hg, h0, hn, Bool.false_eq_true, ↓reduceIte]
  rfl
theorem compTurn_mid {elt : Expr} {gens : List Comprehension} {scope : Scope} {pos : Pos} {k : Nat} {it acc : Value} {env : Env} {g g' : Comprehension} (hg : gens[k]? = some g) (ha : g.is_async = 0) (hn : gens[k + 1]? = some g') (ha' : g'.is_async = 0) :
    compTurn (.ListComp elt gens scope pos) k it acc env = (do
      standAt g.iter.pos
      match ← pyNext it with
      | none => pure (.done .next)
      | some v =>
        letOwnedTupleGo g.target it v
        assign g.target env v
        let mut ok := true
        for c in g.ifs do
          if ok then ok ← isTrue c env (eval c env)
        if ok then
          let x ← eval g'.iter env
          standAt g'.iter.pos
          let x ← foldedSetIterable g'.iter env x
          let _ ← runOwn (.compStart (.ListComp elt gens scope pos) (k + 1) (← holding [x] (pyIter x)) acc env) env
        again (.compLoop (.ListComp elt gens scope pos) k it acc env)) := by
  have h0 : (g.is_async != 0) = false := by rw [ha]; rfl
  have h1 : (g'.is_async != 0) = false := by rw [ha']; rfl
  unfold compTurn
  simp only [hg, h0, hn, h1, Bool.false_eq_true, ↓reduceIte]
  rfl
theorem compStart_at {prog : Program} {w : World} {A : Around} {R : Result → Shared → Prop} {s : Shared} {elt : Expr} {gens : List Comprehension} {scope : Scope} {pos : Pos} {k : Nat} {it acc : Value} {env : Env} {g : Comprehension} (hg : gens[k]? = some g) (ha : g.is_async = 0)
    (h0 : codeAny (model prog w) A (.compLoop (.ListComp elt gens scope pos) k it acc env) R s)
    (h : wpAny (model prog w) A (pyIter it) (fun it' s' => codeAny (model prog w) A (.compLoop (.ListComp elt gens scope pos) k it' acc env) R s') (notedBy (model prog w) A env fun x s' => R (.error x) s') s) :
    codeAny (model prog w) A (.compStart (.ListComp elt gens scope pos) k it acc env) R s := by
  refine codeAny_of_tree ?_
  show wpAny _ _ ((compStart (.ListComp elt gens scope pos) k it acc env).onRaise (fun x => do noteFrame x env; standAt theWindowsPlace)) _ _ s
  refine wpAny_notedAt ?_
  unfold compStart
  have hc : clausesOf (.ListComp elt gens scope pos) = gens := rfl
  have h1 : (Option.elim gens[k]? false fun x => x.is_async != 0) = false := by rw [hg]; show (g.is_async != 0) = false; rw [ha]; rfl
  rw [hc, h1]
  show wpAny _ _ (ask >>= _) _ _ s
  refine wpAny_bind (wpAny_askSetting (wpAny_ite ?_))
  split
  · first
      | exact wpAny_bind (wpAny_pure (wpAny_pure (And.intro rfl h0)))
      | exact wpAny_pure (And.intro rfl h0)
  · rw [hg]
    first
      | exact wpAny_bind (wpAny_rule (wpAny_bind (wpAny_standAt (wpAny_bind (wpAny_mono h (fun it' s' h' => wpAny_pure (And.intro rfl h')) fun _ _ x => x)))))
      | (refine wpAny_bind (wpAny_rule ?_); show wpAny _ _ (standAt g.iter.pos >>= _) _ _ s; exact wpAny_bind (wpAny_standAt (wpAny_bind (wpAny_mono h (fun it' s' h' => wpAny_pure (And.intro rfl h')) fun _ _ x => x))))
section
variable {Y : Cx} {G : Reg} {own : List Nat} {elt : Expr} {gens : List Comprehension} {scope : Scope} {pos : Pos} {D : Addr}
/-- what stands where a turn ends -/
def After (Y : Cx) (G : Reg) (own : List Nat) (D : Addr) (T : List (V × As)) (pins : List (Addr × Obj)) (σ : St) (env : Ev) (L : List As) (s' : Shared) : Prop :=
  ∃ σ' H', Inv Y pins σ' H' s' ∧ Agr own σ σ' ∧ StA G ((.ref D, oA L) :: T) env σ' H'
theorem StA.accum {T : List (V × As)} {env : Ev} {σ : St} {H : Hp} {y : V} {A : As} {L : List As} (h : StA G ((y, A) :: (.ref D, oA L) :: T) env σ H) :
    ∃ xs, H D = some (.lst xs) ∧ xs.length = L.length ∧ StA G ((.ref D, oA (L ++ [A])) :: T) env σ (upd H D (.lst (xs ++ [y]))) := by
  obtain ⟨HF, o, o1, o2, h1, ha, t, s⟩ := h.top
  cases t with
  | @cons _ _ p ps _ b t =>
    obtain ⟨a, xs, os, e1, e2, e3, e4⟩ := b
    cases e1
    subst e2
    have hD := (h1.own (D, .lst xs) (by simp)).1
    refine ⟨xs, hD, e3, HF, (D, .lst (xs ++ [y])) :: (os ++ o) ++ ps, o2, ?_, .cons (A := oA (L ++ [A])) ⟨D, xs ++ [y], os ++ o, rfl, rfl, by simp [e3], ?_⟩ t, s⟩
    · have h2 : Held G HF ((D, .lst xs) :: (os ++ o ++ (ps ++ o2))) H := h1.perm (by
        simp only [List.cons_append, List.append_assoc]
        refine List.Perm.trans List.perm_middle (List.Perm.cons _ ?_)
        exact perm_mid _ _ _)
      have h3 := h2.put (u := .lst (xs ++ [y]))
      simpa only [List.cons_append, List.append_assoc] using h3
    · have : ((xs ++ [y]).zip (L ++ [A])) = xs.zip L ++ [(y, A)] := by
        rw [List.zip_append e3]; rfl
      rw [this]
      have := Tm.join e4 (Tm.cons ha .nil)
      simpa using this
/-- what a turn runs behind its tests: an item, or the next clause -/
def BodyRuns (Y : Cx) (elt : Expr) (gens : List Comprehension) (scope : Scope) (pos : Pos) (k : Nat) (D : Addr) (Q : Shared → Prop) (s : Shared) : Prop :=
  (gens[k + 1]? = none ∧ wpAny (model Y.prog Y.w) Y.A (eval elt Y.env) (fun v s1 => wpAny (model Y.prog Y.w) Y.A (call (.builtin "list.append") [.ref D, v]) (fun _ s2 => Q s2) (fun _ _ => False) s1) (fun _ _ => False) s) ∨
  ∃ g', gens[k + 1]? = some g' ∧ g'.is_async = 0 ∧ (∀ x, foldedSetIterable g'.iter Y.env x = pure x) ∧ wpAny (model Y.prog Y.w) Y.A (eval g'.iter Y.env) (fun x s1 => wpAny (model Y.prog Y.w) Y.A (pyIter x) (fun it s2 =>
    codeAny (model Y.prog Y.w) Y.A (.compStart (.ListComp elt gens scope pos) (k + 1) it (.ref D) Y.env) (fun r s' => match r with | .ok _ => Q s' | .error _ => False) s2) (fun _ _ => False) s1) (fun _ _ => False) s
/-- the loop of a clause; body: what a turn runs behind its tests -/
theorem lc_loop {k : Nat} {g : Comprehension} (hg : gens[k]? = some g) (ha : g.is_async = 0) (hc : Cm κ Y) (hxe : Y.xe = fun _ _ => False) (hnext : ∀ g', gens[k + 1]? = some g' → g'.is_async = 0 ∧ ∀ x, foldedSetIterable g'.iter Y.env x = pure x) {rest : Ev → List As → Ev → List As → Prop}
    (body : ∀ env L env' L', rest env L env' L' → ∀ (T : List (V × As)) (pins : List (Addr × Obj)) (σ : St) (H : Hp) (s : Shared), Inv Y pins σ H s → StA G ((.ref D, oA L) :: T) env σ H →
      BodyRuns Y elt gens scope pos k D (After Y G own D T pins σ env' L') s)
    {its : List FP} {F : Nat → Ev × List As} (turns : ∀ i P, its[i]? = some P → LCt Y G own g.target g.ifs rest P (F i).1 (F i).2 (F (i + 1)).1 (F (i + 1)).2)
    {T : List (V × As)} {tmp : List (V × As)} {pins : List (Addr × Obj)} {σ : St} {H : Hp} {s : Shared} {R : Result → Shared → Prop} {J : It} {fp : List Addr} {it : Addr} {tn : Nat → Heap → Prop}
    (Tu : TurnB κ Y.prog Y.w Y.K g.target J fp it tn) (I : Inv Y pins σ H s) (wk : Walks Y G J tmp its) (st : StA G (tmp ++ ((.ref D, oA (F 0).2) :: T)) (F 0).1 σ H) (t0 : tn 0 s.heap) (f0 : ∀ b ∈ fp, FpOk Y pins H b)
    (hR : ∀ s', After Y G own D (tmp ++ T) pins σ (F its.length).1 (F its.length).2 s' → R (.ok .next) s') :
    codeAny (model Y.prog Y.w) Y.A (.compLoop (.ListComp elt gens scope pos) k (.ref it) (.ref D) Y.env) R s := by
  have stat : ∀ {H' : Hp}, (∀ b ∈ fp, H' b = none) → ∀ b ∈ fp, FpOk Y pins H' b := fun hn b hb => ⟨hn b hb, (f0 b hb).2⟩
  refine codeAny_loop rfl (fun n s' => ∃ i σ' H', n = its.length - i ∧ i ≤ its.length ∧ Inv Y pins σ' H' s' ∧ Agr own σ σ' ∧ tn i s'.heap ∧ (∀ b ∈ fp, H' b = none) ∧ StA G (tmp ++ ((.ref D, oA (F i).2) :: T)) (F i).1 σ' H') ?_ its.length ⟨0, σ, H, by simp, Nat.zero_le _, I, Agr.refl _ _, t0, fun b hb => (f0 b hb).1, st⟩
  rintro n s1 ⟨i, σ1, H1, rfl, hle, I1, ag, t1, n1, st1⟩
  show wpAny _ _ ((compTurn (.ListComp elt gens scope pos) k (.ref it) (.ref D) Y.env).onRaise (fun x => do noteFrame x Y.env; theTreesLotGoes x)) _ _ s1
  refine wpAny_noted ?_
  obtain ⟨go, stop⟩ := wk i _ _ σ1 H1 st1
  by_cases hlt : i < its.length
  · obtain ⟨g1, g2⟩ := go its[i] (by simp [hlt])
    obtain ⟨ws, env2, env3, b, hG, hws, hT, hb1, hb0⟩ := turns i its[i] (by simp [hlt])
    have run : wpAny (model Y.prog Y.w) Y.A (pyNext (.ref it)) (fun r s2 => ∃ u, r = some u ∧ wpAny (model Y.prog Y.w) Y.A (letOwnedTupleGo g.target (.ref it) u) (fun _ s3 => wpAny (model Y.prog Y.w) Y.A (assign g.target Y.env u) (fun _ s4 =>
        wpAny (model Y.prog Y.w) Y.A (forIn g.ifs true fun c r => if r = true then do let ok ← isTrue c Y.env (eval c Y.env); pure (ForInStep.yield ok) else pure (ForInStep.yield r)) (fun c s5 =>
          (c = false ∧ ∃ m, m < its.length - i ∧ ∃ i σ' H', m = its.length - i ∧ i ≤ its.length ∧ Inv Y pins σ' H' s5 ∧ Agr own σ σ' ∧ tn i s5.heap ∧ (∀ b ∈ fp, H' b = none) ∧ StA G (tmp ++ ((.ref D, oA (F i).2) :: T)) (F i).1 σ' H') ∨
          (c = true ∧ BodyRuns Y elt gens scope pos k D (fun s6 => ∃ m, m < its.length - i ∧ ∃ i σ' H', m = its.length - i ∧ i ≤ its.length ∧ Inv Y pins σ' H' s6 ∧ Agr own σ σ' ∧ tn i s6.heap ∧ (∀ b ∈ fp, H' b = none) ∧ StA G (tmp ++ ((.ref D, oA (F i).2) :: T)) (F i).1 σ' H') s5)) (fun _ _ => False) s4) (fun _ _ => False) s3) (fun _ _ => False) s2) (fun _ _ => False) s1 := by
      refine thnF (Tu.item Y rfl rfl rfl hc i pins s1 σ1 H1 (fun _ _ => False) I1 (stat n1) t1 g1) fun r s2 ⟨u, hr, h2⟩ => ⟨u, hr, ?_⟩
      refine thnF h2 fun _ s3 ⟨x, H3, I3, r3, y3, t3, n3⟩ => ?_
      have I3' := I3.pinned (stat n3) (Tu.obj _ _ t3)
      have gr := hG (tmp ++ ((.ref D, oA (F i).2) :: T)) x σ1 H3 (g2 x H3 y3) (fun σ4 H4 => Agr own σ1 σ4 ∧ StA G (tmp ++ ((.ref D, oA (F i).2) :: T)) env2 σ4 H4) (fun σ4 H4 e l s4 => ⟨Agr.mono ⟨e, l⟩ hws, s4⟩) _ s3 u I3' r3
      rw [hxe] at gr
      refine thnF gr fun _ s4 ⟨σ4, H4, I4, ag4, st4⟩ => ?_
      have tr := hT _ σ4 H4 st4 (fun c H5 => c = b ∧ StA G (tmp ++ ((.ref D, oA (F i).2) :: T)) env3 σ4 H5) (fun H5 s5 => ⟨rfl, s5⟩) _ s4 I4
      rw [hxe] at tr
      refine thnF tr fun c s5 ⟨H5, I5, hcb, st5⟩ => ?_
      have fin : ∀ {σ6 : St} {H6 : Hp} {s6 : Shared}, Inv Y (pins ++ pinsAt fp s3.heap) σ6 H6 s6 → Agr own σ4 σ6 → StA G (tmp ++ ((.ref D, oA (F (i + 1)).2) :: T)) (F (i + 1)).1 σ6 H6 → ∃ m, m < its.length - i ∧ ∃ i σ' H', m = its.length - i ∧ i ≤ its.length ∧ Inv Y pins σ' H' s6 ∧ Agr own σ σ' ∧ tn i s6.heap ∧ (∀ b ∈ fp, H' b = none) ∧ StA G (tmp ++ ((.ref D, oA (F i).2) :: T)) (F i).1 σ' H' :=
        fun {σ6 H6 s6} I6 ag6 st6 => by
          have pin' : ∀ b ∈ fp, ∀ o, s3.heap.get? b = some o → s6.heap.get? b = some o ∧ H6 b = none := fun b hb o e =>
            let z := I6.pin (b, o) (List.mem_append_right _ (List.mem_append_right _ (mem_pinsAt hb e)))
            ⟨z.1, z.2.1⟩
          refine ⟨its.length - (i + 1), by omega, i + 1, σ6, H6, rfl, hlt, I6.unpinned, (ag.trans ag4).trans ag6, Tu.keep _ _ _ t3 fun b hb o e => (pin' b hb o e).1, fun b hb => ?_, st6⟩
          obtain ⟨o, e, _⟩ := Tu.obj _ _ t3 b hb
          exact (pin' b hb o e).2
      cases b with
      | false =>
        obtain ⟨w1, w2⟩ := hb0 rfl
        refine .inl ⟨hcb, fin I5 (Agr.refl _ _) ?_⟩
        rw [w2]
        exact w1 _ _ _ _ st5
      | true =>
        refine .inr ⟨hcb, ?_⟩
        have bd := body env3 (F i).2 (F (i + 1)).1 (F (i + 1)).2 (hb1 rfl) (tmp ++ T) _ σ4 H5 s5 I5 (st5.perm List.perm_middle)
        have mono : ∀ s6, After Y G own D (tmp ++ T) (pins ++ pinsAt fp s3.heap) σ4 (F (i + 1)).1 (F (i + 1)).2 s6 → ∃ m, m < its.length - i ∧ ∃ i σ' H', m = its.length - i ∧ i ≤ its.length ∧ Inv Y pins σ' H' s6 ∧ Agr own σ σ' ∧ tn i s6.heap ∧ (∀ b ∈ fp, H' b = none) ∧ StA G (tmp ++ ((.ref D, oA (F i).2) :: T)) (F i).1 σ' H' :=
          fun s6 ⟨σ6, H6, I6, ag6, st6⟩ => fin I6 ag6 (st6.perm List.perm_middle.symm)
        rcases bd with ⟨e1, bd⟩ | ⟨g', e1, e2, e3, bd⟩
        · exact .inl ⟨e1, thnF bd fun v s6 h6 => thnF h6 fun _ s7 h7 => mono s7 h7⟩
        · refine .inr ⟨g', e1, e2, e3, thnF bd fun v s6 h6 => thnF h6 fun it' s7 h7 => codeAny_mono h7 fun r s8 h8 => ?_⟩
          cases r with
          | ok _ => exact mono s8 h8
          | error _ => exact h8
    cases hn : gens[k + 1]? with
    | none =>
      rw [compTurn_last hg ha hn]
      refine wpAny_bind (wpAny_standAt (wpAny_bind (thnF run fun r s2 ⟨u, hr, h2⟩ => ?_)))
      subst hr
      refine wpAny_bind (thnF h2 fun _ s3 h3 => wpAny_bind (thnF h3 fun _ s4 h4 => wpAny_bind (thnF h4 fun c s5 h5 => ?_)))
      rcases h5 with ⟨rfl, h5⟩ | ⟨rfl, h5⟩
      · exact wpAny_pure ⟨rfl, h5⟩
      · rcases h5 with ⟨_, h5⟩ | ⟨g', e1, _⟩
        · exact wpAny_bind (wpAny_bind (thnF h5 fun x s6 h6 => wpAny_bind (thnF h6 fun _ s7 h7 => wpAny_pure (wpAny_pure ⟨rfl, h7⟩))))
        · rw [hn] at e1; cases e1
    | some g' =>
      have ha' : g'.is_async = 0 ∧ ∀ x, foldedSetIterable g'.iter Y.env x = pure x := hnext g' hn
      rw [compTurn_mid hg ha hn ha'.1]
      refine wpAny_bind (wpAny_standAt (wpAny_bind (thnF run fun r s2 ⟨u, hr, h2⟩ => ?_)))
      subst hr
      refine wpAny_bind (thnF h2 fun _ s3 h3 => wpAny_bind (thnF h3 fun _ s4 h4 => wpAny_bind (thnF h4 fun c s5 h5 => ?_)))
      rcases h5 with ⟨rfl, h5⟩ | ⟨rfl, h5⟩
      · exact wpAny_pure ⟨rfl, h5⟩
      · rcases h5 with ⟨e1, h5⟩ | ⟨g2, e1, e2, e3, h5⟩
        · rw [hn] at e1; cases e1
        · rw [hn] at e1
          cases e1
          refine wpAny_bind (thnF h5 fun x s6 h6 => ?_)
          refine wpAny_bind (wpAny_standAt (wpAny_bind (wpAny_of_eq (e3 x) (wpAny_bind (wpAny_holding (thnF h6 fun it1 s7 h7 => ?_))))))
          refine wpAny_bind (wpAny_runOwn ?_)
          rw [Around.mark_none]
          refine codeAny_mono h7 fun r s' hr => ?_
          cases r with
          | ok f =>
            first
              | exact wpAny_pure ⟨rfl, hr⟩
              | exact wpAny_bind (wpAny_pure (wpAny_pure ⟨rfl, hr⟩))
          | error e => exact hr.elim
  · have e : i = its.length := by omega
    subst e
    have dn : wpAny (model Y.prog Y.w) Y.A (pyNext (.ref it)) (fun r s2 => r = none ∧ R (.ok .next) s2) (fun _ _ => False) s1 :=
      thnF (Tu.done Y rfl rfl rfl hc its.length pins s1 σ1 H1 (fun _ _ => False) I1 (stat n1) t1 (stop (Nat.le_refl _))) fun r s2 ⟨hr, I2⟩ => ⟨hr, hR s2 ⟨σ1, H1, I2, ag, st1.perm List.perm_middle⟩⟩
    cases hn : gens[k + 1]? with
    | none =>
      rw [compTurn_last hg ha hn]
      refine wpAny_bind (wpAny_standAt (wpAny_bind (thnF dn fun r s2 ⟨hr, h2⟩ => ?_)))
      subst hr
      exact wpAny_pure h2
    | some g' =>
      rw [compTurn_mid hg ha hn (hnext g' hn).1]
      refine wpAny_bind (wpAny_standAt (wpAny_bind (thnF dn fun r s2 ⟨hr, h2⟩ => ?_)))
      subst hr
      exact wpAny_pure h2
/-- what a turn runs behind its tests -/
theorem lc_body (hc : Cm κ Y) (hxe : Y.xe = fun _ _ => False) (hnx : ∀ k g', gens[k + 1]? = some g' → g'.is_async = 0 ∧ ∀ x, foldedSetIterable g'.iter Y.env x = pure x) : ∀ (gs : List Comprehension) (k : Nat), gens.drop (k + 1) = gs → ∀ env L env' L', LCb κ Y G own elt gs env L env' L' → ∀ (T : List (V × As)) (pins : List (Addr × Obj)) (σ : St) (H : Hp) (s : Shared), Inv Y pins σ H s → StA G ((.ref D, oA L) :: T) env σ H →
      BodyRuns Y elt gens scope pos k D (After Y G own D T pins σ env' L') s := by
  intro gs
  induction gs with
  | nil =>
    intro k hk env L env' L' h T pins σ H s I st
    have e : gens[k + 1]? = none := by
      have := congrArg List.length hk
      simp only [List.length_drop, List.length_nil] at this
      exact List.getElem?_eq_none (by omega)
    obtain ⟨A, env1, hE, hz, hw, rfl⟩ := h
    have er := hE _ σ H st (fun y H1 => ∃ acc, H1 D = some (.lst acc) ∧ acc.length = L.length ∧ StA G ((.ref D, oA (L ++ [A])) :: T) env' σ (upd H1 D (.lst (acc ++ [y])))) (fun y H1 s1 => by
      obtain ⟨xs, h1, h2, h3⟩ := s1.accum
      exact ⟨xs, h1, h2, hw _ _ _ _ h3⟩) pins s I
    rw [hxe] at er
    refine .inl ⟨e, thnF er fun v s1 ⟨y, H1, I1, r1, acc, h1, h2, h3⟩ => ?_⟩
    exact app_ok (X := Y) I1 h1 (by omega) r1 fun s2 I2 => ⟨σ, _, I2, Agr.refl _ _, h3⟩
  | cons g gs ih =>
    intro k hk env L env' L' h T pins σ H s I st
    have hl : k + 1 < gens.length := by
      have := congrArg List.length hk
      simp only [List.length_drop, List.length_cons] at this
      omega
    have hcons : gens.drop (k + 1) = gens[k + 1] :: gens.drop (k + 1 + 1) := List.drop_eq_getElem_cons hl
    rw [hcons] at hk
    injection hk with e1 e2
    have e : gens[k + 1]? = some g := by rw [List.getElem?_eq_getElem hl, e1]
    obtain ⟨ha, hs, its, env1, F, ⟨wi, hI, hwi⟩, hw0, hF0, turns, hwn, hFn⟩ := h
    have ir := hI.run pins s σ H _ I (hwi _ σ H st (fun J H' => ∃ tmp, StA G (tmp ++ ((.ref D, oA L) :: T)) env1 σ H' ∧ Walks Y G J tmp its) fun J H' tmp s1 wk => ⟨tmp, s1, wk⟩)
    rw [hxe] at ir
    refine .inr ⟨g, e, ha, hs, thnF ir fun xv s1 hx => thnF hx fun itv s2 h2 => ?_⟩
    obtain ⟨it, fp, tn, J, H2, ei, I2, Tu, t2, f2, tmp, st2, wk⟩ := h2
    subst ei
    have loop : codeAny (model Y.prog Y.w) Y.A (.compLoop (.ListComp elt gens scope pos) (k + 1) (.ref it) (.ref D) Y.env) (fun r s' => match r with
        | .ok _ => After Y G own D T pins σ env' L' s'
        | .error _ => False) s2 := by
      refine lc_loop e ha hc hxe (fun g' h' => hnx (k + 1) g' h') (ih (k + 1) e2) (T := T) (tmp := tmp) turns Tu I2 wk ?_ t2 f2 fun s' haf => ?_
      · rw [hF0]
        exact hw0 _ _ _ _ st2
      · obtain ⟨σ', H', I', ag', st'⟩ := haf
        refine ⟨σ', H', I', ag', ?_⟩
        have st3 := hwn _ _ _ _ st'
        rw [hFn] at st3
        exact StA.dropT1 st3
    exact compStart_at e ha loop (Tu.self Y.A 0 _ _ _ t2 loop)
end
abbrev BY (X : Cx) (s0 : Shared) (H0 : Hp) (scope : Scope) (C : Addr) (cl : List (Str × Addr)) (fp : List Addr) : Cx := { X.blk s0 H0 scope (compEnvC scope cl C X.env) fp with pn := X.pn }
/-- the pins stand in the block too -/
theorem inv_pn {Y : Cx} {l : List (Addr × Obj)} {pins : List (Addr × Obj)} {σ : St} {H : Hp} {s : Shared} (I : Inv Y pins σ H s) (hp : ∀ p ∈ l, s.heap.get? p.1 = some p.2 ∧ H p.1 = none ∧ p.1 ≠ Y.env.locals ∧ p.1 ∉ Y.fs ∧ ∀ v, p.2.data ≠ .cell v) : Inv { Y with pn := l } pins σ H s :=
  ⟨⟨I.ok.mod, I.ok.kind, I.ok.glob, I.ok.blt, I.ok.above, I.ok.inj, I.ok.has, I.ok.cab, I.ok.hd, I.ok.frames, I.ok.stk, I.ok.exf, I.ok.bs, I.ok.bsz, I.ok.noex, I.ok.exfs, I.ok.funs, I.ok.frf⟩, I.os, I.bare, I.base, I.loc, I.cell, I.free, I.freeC,
    fun p hm => (List.mem_append.mp hm).elim (fun h => hp p h) (fun h => I.pin p (List.mem_append_right _ h)), I.hok, I.len⟩
def okB (scope : Scope) : Str → Bool := fun x => scope.names.lookup x == some .local || scope.names.lookup x == some .cell
section
variable {X : Cx} {N : List Str} {sc : Scope} {ok : Str → Bool} {G : Reg} {env env1 env2 env3 env' : Ev} {pos : Pos}
theorem bx_blk (B : Bx κ X N sc ok) (scope : Scope) (s0 : Shared) (H0 : Hp) (C : Addr) (cl : List (Str × Addr)) (fp : List Addr) : Bx κ (BY X s0 H0 scope C cl fp) N (relS scope sc) (okB scope) := by
  refine ⟨B.N_, by show relS scope X.env.scope = _; rw [B.sc_], B.nd, ?_, PassesOwn.never, B.un, B.hd', fun x h1 h2 => ?_⟩
  · cases κ with
    | true => exact B.cm
    | false => exact B.cm
  have h1' : (scope.names.lookup x == some .local || scope.names.lookup x == some .cell) = true := h1
  rw [Bool.or_eq_true] at h1'
  rcases h1' with h | h
  · exact .inr (lookup_relS_keep (by decide) (by simpa using h))
  · exact .inl h
theorem lc_run {elt : Expr} {g : Comprehension} {gs : List Comprehension} {scope : Scope} {ownp : List (Str × Nat)} {pos' : Pos} {use : Option (Value → Sem Unit)} {Qf : Value → Shared → Prop} {its : List FP} {F : Nat → Ev × List As} {L' : List As}
    (B : Bx κ X N sc ok) (bl : BlkOk N sc scope ownp) (ha : g.is_async = 0) (hs : ∀ x, foldedSetIterable g.iter X.env x = pure x) (hI : DI κ X G env g.target g.iter env1 its) (hw0 : Wk env1 (F 0).1) (hF0 : (F 0).2 = [])
    (ho0 : ∀ p ∈ ownp, ∀ A, (F 0).1[p.2]? ≠ some (some A)) (hnx : ∀ g' ∈ gs, g'.is_async = 0 ∧ ∀ (env : Env) x, foldedSetIterable g'.iter env x = pure x)
    (turns : ∀ s0 H0 C cl fp, Bx κ (BY X s0 H0 scope C cl fp) N (relS scope sc) (okB scope) → ∀ i P, its[i]? = some P → LCt (BY X s0 H0 scope C cl fp) G (ownp.map (·.2)) g.target g.ifs (LCb κ (BY X s0 H0 scope C cl fp) G (ownp.map (·.2)) elt gs) P (F i).1 (F i).2 (F (i + 1)).1 (F (i + 1)).2)
    (hwn : Wk (F its.length).1 env') (hFn : (F its.length).2 = L') (hon : ∀ p ∈ ownp, ∀ A, env'[p.2]? ≠ some (some A))
    {T : List (V × As)} {pins : List (Addr × Obj)} {σ : St} {H : Hp} {s : Shared} (I : Inv X pins σ H s) (st : StA G T env σ H)
    (hRR : ∀ D C s' m H', Inv X pins σ H' s' → StA G ((.ref D, oA L') :: T) env' σ H' → s'.heap.Ns C m → FpOk X pins H' C → compPost (model X.prog X.w) X.A X.xe use Qf (.ref D) C (.ok .next) s') :
    wpAny (model X.prog X.w) X.A (comprehension (.ListComp elt (g :: gs) scope pos) scope X.env pos' (newList []) false (eval g.iter X.env) use) Qf X.xe s := by
  have hc := B.cm
  have bl' : BlkOk X.N X.env.scope scope ownp := by rw [B.N_, B.sc_]; exact bl
  have hN : X.N.Nodup := by rw [B.N_]; exact B.nd
  have hfree : ∀ y ∈ scope.names, y.2 = .free → ∃ c, X.env.cells.lookup y.1 = some c := fun y hy e => by
    rcases bl'.free y hy e with k | k
    · exact I.ok.has _ (.inl k)
    · exact I.ok.has _ (.inr k)
  obtain ⟨wi, hi, hwi⟩ := hI
  refine wpAny_comprehension_free (use := use) rfl hs (closure_ok hfree) bl'.kind (fun y hy e => by rw [bl'.uniq y hy, e])
    (thn (hi.run pins s σ H _ I (hwi T σ H st (fun J H' => ∃ tmp, StA G (tmp ++ T) env1 σ H' ∧ Walks X G J tmp its) fun J H' tmp s1 wk => ⟨tmp, s1, wk⟩)) fun xv s1 hx => thn hx fun itv s2 h2 => ?_)
  obtain ⟨it, fp, tn, J, H2, e, I2, Tu, st2, f2, tmp, sta2, wk⟩ := h2
  subst e
  refine wpAny_newObj_type (newEnv_comp ?_) (by show 0 ≤ sizeLine; decide)
  generalize hD : s2.heap.objs.size = D
  have hDn : H2 D = none := I2.hok.fresh (Nat.le_of_eq hD)
  generalize hs3 : ({ s2 with heap := s2.heap.push { cls := .type "list", data := .seq ([] : List Value).toArray } } : Shared) = s3
  have I3 : Inv X pins σ (upd H2 D (.lst [])) s3 := by
    rw [← hs3]
    refine I2.laid (t' := s2.toks) (fun b o e => Heap.get?_push_of_some _ e) (Nat.le_of_eq hD) ⟨Nat.zero_le _, [], 0, .nil, ?_⟩
    rw [← hD]
    exact Heap.get?_push_size _ rfl
  have h3 : s3.heap = s2.heap.push { cls := .type "list", data := .seq ([] : List Value).toArray } := by rw [← hs3]
  have sz : ∀ b ∈ fp, b < s2.heap.objs.size := fun b hb => by
    obtain ⟨o, e, _⟩ := Tu.obj _ _ st2 b hb
    exact Heap.lt_size e
  have f3 : ∀ b ∈ fp, FpOk X pins (upd H2 D (.lst [])) b ∧ b < s3.heap.objs.size := fun b hb => by
    have hlt := sz b hb
    refine ⟨⟨?_, (f2 b hb).2⟩, by rw [h3, Heap.size_push]; exact Nat.lt_succ_of_lt hlt⟩
    rw [upd_ne (by rw [← hD]; exact Nat.ne_of_lt hlt)]
    exact (f2 b hb).1
  have st3 : tn 0 s3.heap := Tu.keep _ _ _ st2 fun b _ o e => by rw [h3]; exact Heap.get?_push_of_some _ e
  have I4' := block_start I3 bl' hN f3
  have I4 : Inv (BY X s3 (upd H2 D (.lst [])) scope s3.heap.objs.size (cellsFrom (s3.heap.objs.size + 1) scope.names (cloFrom X.env.cells scope.names [])) fp) [] (wipe σ (ownp.map (·.2))) (upd H2 D (.lst [])) { s3 with heap := pushCells (s3.heap.push { cls := .type "dict", data := .dict #[] }) scope.names } :=
    inv_pn I4' fun p hp => by
      obtain ⟨z1, z2, z3, z4, z5⟩ := I3.pin p (List.mem_append_left _ hp)
      refine ⟨pushCells_keeps _ _ _ _ (Heap.get?_push_of_some _ z1), z2, Nat.ne_of_lt (Heap.lt_size z1), fun hm => ?_, z5⟩
      exact (List.mem_cons.mp (I3.stkSub p.1 hm)).elim z3 z4
  -- the state: the new list on its way
  have sta3 : StA G (tmp ++ ((.ref D, oA []) :: T)) env1 σ (upd H2 D (.lst [])) := by
    obtain ⟨HF, o1, o2, k1, k2, k3⟩ := sta2
    have : StA G ((.ref D, oA []) :: (tmp ++ T)) env1 σ (upd H2 D (.lst [])) := StA.newO k1 k2 k3 hDn ⟨D, [], [], rfl, rfl, rfl, .nil⟩
    exact this.perm List.perm_middle.symm
  have BYx := bx_blk B scope s3 (upd H2 D (.lst [])) s3.heap.objs.size (cellsFrom (s3.heap.objs.size + 1) scope.names (cloFrom X.env.cells scope.names [])) fp
  have tu := turns s3 (upd H2 D (.lst [])) s3.heap.objs.size (cellsFrom (s3.heap.objs.size + 1) scope.names (cloFrom X.env.cells scope.names [])) fp BYx
  show codeAny _ _ (.compStart (.ListComp elt (g :: gs) scope pos) 0 (.ref it) (.ref D) (compEnvC scope (cellsFrom (s3.heap.objs.size + 1) scope.names (cloFrom X.env.cells scope.names [])) s3.heap.objs.size X.env)) (compPost (model X.prog X.w) X.A X.xe use Qf (.ref D) s3.heap.objs.size) { s3 with heap := pushCells (s3.heap.push { cls := .type "dict", data := .dict #[] }) scope.names }
  have nfp : ∀ b ∈ fp, (upd H2 D (.lst [])) b = none := fun b hb => (f3 b hb).1.1
  have cL : (compEnvC scope (cellsFrom (s3.heap.objs.size + 1) scope.names (cloFrom X.env.cells scope.names [])) s3.heap.objs.size X.env).locals = s3.heap.objs.size := rfl
  generalize hs4 : ({ s3 with heap := pushCells (s3.heap.push { cls := .type "dict", data := .dict #[] }) scope.names } : Shared) = s4 at I4 ⊢
  have st4 : tn 0 s4.heap := Tu.keep _ _ _ st3 fun b _ o e => by rw [← hs4]; exact pushCells_keeps _ _ _ _ (Heap.get?_push_of_some _ e)
  have f4 : ∀ b ∈ fp, FpOk (BY X s3 (upd H2 D (.lst [])) scope s3.heap.objs.size (cellsFrom (s3.heap.objs.size + 1) scope.names (cloFrom X.env.cells scope.names [])) fp) [] (upd H2 D (.lst [])) b := fun b hb =>
    ⟨nfp b hb, (I4.ok.exf b hb).1, I4.ok.exfs b hb, .inl hb, fun x c e => (I4.ok.exf b hb).2 x c e, fun p hp => (f3 b hb).1.2.2.2.2.2 p (List.mem_append_left _ (by simpa using hp))⟩
  have nx : ∀ k g', (g :: gs)[k + 1]? = some g' → g'.is_async = 0 ∧ ∀ x, foldedSetIterable g'.iter (compEnvC scope (cellsFrom (s3.heap.objs.size + 1) scope.names (cloFrom X.env.cells scope.names [])) s3.heap.objs.size X.env) x = pure x := fun k g' h' => by
    have hm : g' ∈ gs := List.mem_of_getElem? (by simpa using h')
    exact ⟨(hnx g' hm).1, fun x => (hnx g' hm).2 _ x⟩
  have wk' : Walks (BY X s3 (upd H2 D (.lst [])) scope s3.heap.objs.size (cellsFrom (s3.heap.objs.size + 1) scope.names (cloFrom X.env.cells scope.names [])) fp) G J tmp its := wk
  have sta4 : StA G (tmp ++ ((.ref D, oA (F 0).2) :: T)) (F 0).1 (wipe σ (ownp.map (·.2))) (upd H2 D (.lst [])) := by
    rw [hF0]
    refine (hw0 _ _ _ _ sta3).resig (wipe_length _ _) fun j A e => ?_
    refine wipe_out fun hm => ?_
    obtain ⟨p, hp, rfl⟩ := List.mem_map.mp hm
    exact ho0 p hp A e
  have loop : codeAny (model X.prog X.w) X.A (.compLoop (.ListComp elt (g :: gs) scope pos) 0 (.ref it) (.ref D) (compEnvC scope (cellsFrom (s3.heap.objs.size + 1) scope.names (cloFrom X.env.cells scope.names [])) s3.heap.objs.size X.env)) (compPost (model X.prog X.w) X.A X.xe use Qf (.ref D) s3.heap.objs.size) s4 := by
    refine lc_loop (Y := BY X s3 (upd H2 D (.lst [])) scope s3.heap.objs.size (cellsFrom (s3.heap.objs.size + 1) scope.names (cloFrom X.env.cells scope.names [])) fp) (gens := g :: gs) (k := 0) rfl ha BYx.cm rfl (fun g' h' => nx 0 g' h') (lc_body (Y := BY X s3 (upd H2 D (.lst [])) scope s3.heap.objs.size (cellsFrom (s3.heap.objs.size + 1) scope.names (cloFrom X.env.cells scope.names [])) fp) BYx.cm rfl nx gs 0 rfl) (T := T) (tmp := tmp) tu Tu I4 wk' sta4 st4 f4 fun s' haf => ?_
    obtain ⟨σ', H', I6, ag, sta6⟩ := haf
    have I7 : Inv X pins σ H' s' := I3.call' (ch := fp) I6.os I6.base I6.hok I6.bare fun b hb => ⟨(f3 b hb).1.2.2.2.1, (f3 b hb).1.2.1, (f3 b hb).1.2.2.2.2.1, (f3 b hb).1.2.2.2.2.2⟩
    have nC : H' s3.heap.objs.size = none := I6.free
    obtain ⟨m, hn, _⟩ := I6.loc
    refine hRR D s3.heap.objs.size s' m H' I7 ?_ hn (I3.fpOk (Nat.le_refl _) nC)
    have z := hwn _ _ _ _ sta6.dropT1
    have z2 : StA G ((.ref D, oA (F its.length).2) :: T) env' σ H' := z.resig (by rw [ag.2, wipe_length]) fun j A e => by
      have nj : j ∉ ownp.map (·.2) := fun hm => by
        obtain ⟨p, hp, rfl⟩ := List.mem_map.mp hm
        exact hon p hp A e
      rw [ag.1 j nj, wipe_out nj]
    rw [hFn] at z2
    exact z2
  exact compStart_at (gens := g :: gs) (k := 0) (g := g) rfl ha loop (Tu.self X.A 0 _ _ _ st4 loop)
/-- what a list comprehension leaves: env', its list told by A -/
def LCR (X : Cx) (G : Reg) (env : Ev) (elt : Expr) (g : Comprehension) (gs : List Comprehension) (scope : Scope) (pos : Pos) (env' : Ev) (A : As) : Prop :=
  g.is_async = 0 ∧ ∀ (use : Option (Value → Sem Unit)) (Qf : Value → Shared → Prop) (pos' : Pos) (T : List (V × As)) (pins : List (Addr × Obj)) (σ : St) (H : Hp) (s : Shared), Inv X pins σ H s → StA G T env σ H →
    (∀ D C s' m H', Inv X pins σ H' s' → StA G ((.ref D, A) :: T) env' σ H' → s'.heap.Ns C m → FpOk X pins H' C → compPost (model X.prog X.w) X.A X.xe use Qf (.ref D) C (.ok .next) s') →
    wpAny (model X.prog X.w) X.A (comprehension (.ListComp elt (g :: gs) scope pos) scope X.env pos' (newList []) false (eval g.iter X.env) use) Qf X.xe s
/-- [elt for .. ], any number of clauses: the states and what is gathered told turn by turn of the first -/
theorem lcr_run {elt : Expr} {g : Comprehension} {gs : List Comprehension} {scope : Scope} (ownp : List (Str × Nat)) {its : List FP} (F : Nat → Ev × List As) {L' : List As}
    (B : Bx κ X N sc ok) (bl : BlkOk N sc scope ownp) (hI : DI κ X G env g.target g.iter env1 its) (hw0 : Wk env1 (F 0).1) (hF0 : (F 0).2 = [])
    (ho0 : ∀ p ∈ ownp, ∀ A, (F 0).1[p.2]? ≠ some (some A))
    (turns : ∀ s0 H0 C cl fp, Bx κ (BY X s0 H0 scope C cl fp) N (relS scope sc) (okB scope) → ∀ i P, its[i]? = some P → LCt (BY X s0 H0 scope C cl fp) G (ownp.map (·.2)) g.target g.ifs (LCb κ (BY X s0 H0 scope C cl fp) G (ownp.map (·.2)) elt gs) P (F i).1 (F i).2 (F (i + 1)).1 (F (i + 1)).2)
    (hwn : Wk (F its.length).1 env') (hFn : (F its.length).2 = L') (hon : ∀ p ∈ ownp, ∀ A, env'[p.2]? ≠ some (some A)) (ha : g.is_async = 0 := by rfl) (hs : ∀ x, foldedSetIterable g.iter X.env x = pure x := by intro _; rfl) (hnx : ∀ g' ∈ gs, g'.is_async = 0 ∧ ∀ (env : Env) x, foldedSetIterable g'.iter env x = pure x := by simp) :
    LCR X G env elt g gs scope pos env' ((oA L').at none) := ⟨ha, fun use Qf pos' T pins σ H s I st hRR =>
  lc_run (use := use) B bl ha hs hI hw0 hF0 ho0 hnx turns hwn hFn hon I st fun D C s' m H' I' st' hn f => hRR D C s' m H' I' (st'.say fun HF o hp => ⟨fun _ z => (nomatch z), hp⟩) hn f⟩
theorem lcr_say {elt : Expr} {g : Comprehension} {gs : List Comprehension} {scope : Scope} {A A' : As} (h : LCR X G env elt g gs scope pos env' A) (k : ∀ HF v o, A.p HF v o → A'.p HF v o) : LCR X G env elt g gs scope pos env' A' :=
  ⟨h.1, fun use Qf pos' T pins σ H s I st hRR => h.2 use Qf pos' T pins σ H s I st fun D C s' m H' I' st' hn f => hRR D C s' m H' I' (st'.say fun HF o => k HF _ o) hn f⟩
theorem de_lcr {elt : Expr} {g : Comprehension} {gs : List Comprehension} {scope : Scope} {A : As} (h : LCR X G env elt g gs scope pos env' A) : DE X G env (.ListComp elt (g :: gs) scope pos) env' A := fun T σ H st Q q pins s I => by
  rw [eval_ListComp]
  obtain ⟨tg, it, ifs, as⟩ := g
  have ha' : as = 0 := h.1
  subst ha'
  refine h.2 none _ _ T pins σ H s I st fun D C s' m H' I' st' hn f => ⟨m, hn, fun h'' sb => ?_⟩
  obtain ⟨f0, f1, f2, f3, f4, f5⟩ := f
  exact ⟨.ref D, H', I'.turned (t' := s'.toks) (fun b o hb e => (sb.2 b hb).trans e) f0 f1 f3 f4 f5, rfl, q _ _ st'⟩
/-- name = [..] on one line, the name a local one -/
theorem ds_lcr {elt : Expr} {g : Comprehension} {gs : List Comprehension} {scope : Scope} {A : As} {y : Str} {py spos : Pos} (B : Bx κ X N sc ok) (i : Nat) (h : LCR X G env elt g gs scope pos env' A) (hN : N[i]? = some y := by rfl) (hyl : sc.names.lookup y = some .local := by rfl) (hi : i < env'.length := by exact of_decide_eq_true rfl) (hk : sc.kind = .function := by rfl) (hl : (py.line == pos.line) = true := by rfl)
    (ha : (scope.names.any fun (n, k) => n == y && (k == .local || k == .cell)) = false := by rfl) : DS X G env (.Assign [.Name y py] (.ListComp elt (g :: gs) scope pos) spos) (NX (env'.set i (some A))) := fun T σ H st D d pins s I => by
  have hyl' : X.env.scope.names.lookup y = some .local := by rw [B.sc_]; exact hyl
  have hsw : swapsWith (.ListComp elt (g :: gs) scope pos) (some (.Name y py)) spos.line X.env = pure true := sw_true (by rw [B.sc_]; exact hk) hyl' hl ha
  rw [exec_Assign_Name_used _ _ _ _ hsw]
  obtain ⟨tg, it, ifs, as⟩ := g
  have ha' : as = 0 := h.1
  subst ha'
  refine wpAny_bind (wpAny_standAt (wpAny_bind ?_))
  show wpAny _ X.A (do let _ ← comprehension (.ListComp elt (⟨tg, it, ifs, 0⟩ :: gs) scope pos) scope X.env (firstIterPos (⟨tg, it, ifs, 0⟩ :: gs) pos) (newList []) false (eval it X.env) (some (assign (.Name y py) X.env))) _ _ s
  refine wpAny_bind (thn (h.2 (some (assign (.Name y py) X.env)) (fun _ s' => SP X pins D .next s') _ T pins σ H s I st fun L C s' m H' I' st' hn f => ?_) fun _ s' hq => wpAny_pure (wpAny_pure hq))
  show wpAny _ _ (assign (.Name y py) X.env (.ref L)) _ _ _
  refine wpAny_assign_Name (store_ok2 (v := V.ref L) I' (by rw [B.N_]; exact B.nd) (by rw [B.N_]; exact hN) (.inl hyl') rfl (fun s2 I2 ⟨a, sb, ha⟩ => ?_) (.inr hyl'))
  obtain ⟨f0, f1, f2, f3, f4, f5⟩ := f
  have haC : C ≠ a := by
    rcases ha with z | z
    · rw [z]; exact f1
    · exact fun e => f4 y a z e.symm
  refine ⟨m, hn.sameBut sb haC, fun h3 sb3 => ?_⟩
  exact ⟨_, H', I2.turned (t' := s2.toks) (fun b o hb e => (sb3.2 b hb).trans e) f0 f1 f3 f4 f5, d.nx _ _ H' rfl (st'.store hi)⟩
end
end DL

set_option maxHeartbeats 4000000
/-! DL7: comprehensions whose turns leave the slots as they are; calls by name; stores into own lists; methods of lists. -/
namespace DL
open PySem PySem.Spec PyProof.Rows L2
section
variable {X Y : Cx} {N : List Str} {sc : Scope} {ok : Str → Bool} {G : Reg} {env env1 env2 env3 env' : Ev} {A B S : As} {P R : FP} {e a b : Expr} {es : List Expr} {pos : Pos} {x : Str} {K : PySem.W.Frag} {own : List Nat} {elt : Expr}

theorem lcb_nil (h : DE Y G env elt env A) {L : List As} (hz : L.length + 1 ≤ sizeLine) : LCb κ Y G own elt [] env L env (L ++ [A]) := ⟨A, env, h, by omega, Wk.refl _, rfl⟩
theorem take_succ_f {α : Type} {xs : List α} {i : Nat} {a : α} (h : xs[i]? = some a) : xs.take (i + 1) = xs.take i ++ [a] := by
  rw [List.take_succ, h]; rfl
theorem flat_le {α : Type} (xs : List α) (c : α → Bool) (h : α → List As) {i : Nat} {a : α} (hi : xs[i]? = some a) (hc : c a = true) : (((xs.take i).filter c).flatMap h).length + (h a).length ≤ ((xs.filter c).flatMap h).length := by
  have e : xs = xs.take (i + 1) ++ xs.drop (i + 1) := (List.take_append_drop _ _).symm
  have e2 : ((xs.filter c).flatMap h) = (((xs.take (i + 1)).filter c).flatMap h) ++ (((xs.drop (i + 1)).filter c).flatMap h) := by
    rw [← List.flatMap_append, ← List.filter_append, ← e]
  rw [e2, take_succ_f hi, List.filter_append, List.flatMap_append]
  simp only [List.length_append, List.filter_cons, hc, if_true, List.filter_nil, List.flatMap_cons, List.flatMap_nil, List.append_nil]
  omega
/-- the turns of a clause that leaves the slots as they are -/
theorem lct_turns {α : Type} {tg : Expr} {ifs : List Expr} {gs : List Comprehension} (xs : List α) (Pf : α → FP) (c : α → Bool) (h : α → List As) (e2 : α → Ev) (ws : List Nat) (L : List As) (hz : L.length + ((xs.filter c).flatMap h).length ≤ sizeLine)
    (hg : ∀ a ∈ xs, DGt Y G env (.fz (Pf a)) tg ws (e2 a)) (hws : ∀ j ∈ ws, j ∈ own) (hwk : ∀ a ∈ xs, Wk (e2 a) env) (ht : ∀ a ∈ xs, DTs Y G (e2 a) ifs (e2 a) (c a))
    (hr : ∀ a ∈ xs, c a = true → ∀ L : List As, L.length + (h a).length ≤ sizeLine → LCb κ Y G own elt gs (e2 a) L (e2 a) (L ++ h a)) :
    ∀ i P, (xs.map Pf)[i]? = some P → LCt Y G own tg ifs (LCb κ Y G own elt gs) P env (L ++ ((xs.take i).filter c).flatMap h) env (L ++ ((xs.take (i + 1)).filter c).flatMap h) := fun i P hP => by
  rw [List.getElem?_map, Option.map_eq_some_iff] at hP
  obtain ⟨a, ha, rfl⟩ := hP
  have hm : a ∈ xs := List.mem_of_getElem? ha
  have e1 : L ++ ((xs.take (i + 1)).filter c).flatMap h = L ++ ((xs.take i).filter c).flatMap h ++ (if c a = true then h a else []) := by
    rw [take_succ_f ha, List.filter_append, List.flatMap_append, List.append_assoc]
    by_cases hc : c a = true
    · simp [List.filter_cons, hc]
    · simp [List.filter_cons, hc]
  refine ⟨ws, e2 a, e2 a, c a, hg a hm, hws, ht a hm, fun hc => ?_, fun hc => ⟨hwk a hm, ?_⟩⟩
  · rw [e1, if_pos hc]
    have hle := flat_le xs c h ha hc
    have r := hr a hm hc (L ++ ((xs.take i).filter c).flatMap h) (by rw [List.length_append]; omega)
    -- the slots the turn stored are forgotten
    have wk := hwk a hm
    clear e1 hle
    revert r
    generalize L ++ ((xs.take i).filter c).flatMap h = L1
    intro r
    cases gs with
    | nil =>
      obtain ⟨A, env1, q1, q2, q3, q4⟩ := r
      exact ⟨A, env1, q1, q2, q3.trans wk, q4⟩
    | cons g gs =>
      obtain ⟨q0, q1, its, env1, F, q2, q3, q4, q5, q6, q7⟩ := r
      exact ⟨q0, q1, its, env1, F, q2, q3, q4, q5, q6.trans wk, q7⟩
  · rw [e1, if_neg (by rw [hc]; decide), List.append_nil]
/-- an inner clause -/
theorem lcb_p {α : Type} {g : Comprehension} {gs : List Comprehension} (xs : List α) (Pf : α → FP) (c : α → Bool) (h : α → List As) (e2 : α → Ev) (ws : List Nat) (L : List As) (hz : L.length + ((xs.filter c).flatMap h).length ≤ sizeLine) (hI : DI κ Y G env g.target g.iter env (xs.map Pf))
    (hg : ∀ a ∈ xs, DGt Y G env (.fz (Pf a)) g.target ws (e2 a)) (hws : ∀ j ∈ ws, j ∈ own) (hwk : ∀ a ∈ xs, Wk (e2 a) env) (ht : ∀ a ∈ xs, DTs Y G (e2 a) g.ifs (e2 a) (c a))
    (hr : ∀ a ∈ xs, c a = true → ∀ L : List As, L.length + (h a).length ≤ sizeLine → LCb κ Y G own elt gs (e2 a) L (e2 a) (L ++ h a)) (ha : g.is_async = 0 := by rfl) (hs : ∀ x, foldedSetIterable g.iter Y.env x = pure x := by intro _; rfl) :
    LCb κ Y G own elt (g :: gs) env L env (L ++ (xs.filter c).flatMap h) :=
  ⟨ha, hs, xs.map Pf, env, fun i => (env, L ++ ((xs.take i).filter c).flatMap h), hI, Wk.refl _, by simp, lct_turns xs Pf c h e2 ws L hz hg hws hwk ht hr, Wk.refl _, by simp⟩
/-- the whole comprehension -/
theorem lcr_p {α : Type} {g : Comprehension} {gs : List Comprehension} {scope : Scope} (ownp : List (Str × Nat)) (xs : List α) (Pf : α → FP) (c : α → Bool) (h : α → List As) (e2 : α → Ev) (ws : List Nat) (B : Bx κ X N sc ok) (bl : BlkOk N sc scope ownp)
    (hI : DI κ X G env g.target g.iter env1 (xs.map Pf)) (hz : ((xs.filter c).flatMap h).length ≤ sizeLine) (ho : ∀ p ∈ ownp, ∀ A, env1[p.2]? ≠ some (some A)) (hws : ∀ j ∈ ws, j ∈ ownp.map (·.2)) (hwk : ∀ a ∈ xs, Wk (e2 a) env1)
    (turn : ∀ s0 H0 C cl fp, Bx κ (BY X s0 H0 scope C cl fp) N (relS scope sc) (okB scope) → ∀ a ∈ xs, DGt (BY X s0 H0 scope C cl fp) G env1 (.fz (Pf a)) g.target ws (e2 a) ∧ DTs (BY X s0 H0 scope C cl fp) G (e2 a) g.ifs (e2 a) (c a) ∧
      (c a = true → ∀ L : List As, L.length + (h a).length ≤ sizeLine → LCb κ (BY X s0 H0 scope C cl fp) G (ownp.map (·.2)) elt gs (e2 a) L (e2 a) (L ++ h a)))
    (ha : g.is_async = 0 := by rfl) (hs : ∀ x, foldedSetIterable g.iter X.env x = pure x := by intro _; rfl) (hnx : ∀ g' ∈ gs, g'.is_async = 0 ∧ ∀ (env : Env) x, foldedSetIterable g'.iter env x = pure x := by simp) :
    LCR X G env elt g gs scope pos env1 ((oA ((xs.filter c).flatMap h)).at none) :=
  lcr_run ownp (fun i => (env1, ((xs.take i).filter c).flatMap h)) B bl hI (Wk.refl _) (by simp) ho (fun s0 H0 C cl fp BYx i P hP => by
    have t := fun a ha => turn s0 H0 C cl fp BYx a ha
    have := lct_turns (Y := BY X s0 H0 scope C cl fp) (gs := gs) (elt := elt) xs Pf c h e2 ws [] (by simpa using hz) (fun a ha => (t a ha).1) hws hwk (fun a ha => (t a ha).2.1) (fun a ha => (t a ha).2.2) i P hP
    simpa using this) (Wk.refl _) (by simp) ho ha hs hnx
theorem lcr_data {g : Comprehension} {gs : List Comprehension} {scope : Scope} {L : List As} {ds : List PyData} (h : LCR X G env elt g gs scope pos env1 ((oA L).at none)) (hL : L = ds.map (dD X.K)) : LCR X G env elt g gs scope pos env1 (oLn X.K ds) :=
  lcr_say h fun HF v o hp => ⟨hp.1, oA_data (hL ▸ hp.2)⟩
/-- one clause, one name, data: what is gathered -/
theorem lcr_1 {α : Type} {iter : Expr} {ifs : List Expr} {scope : Scope} {y : Str} {yp : Pos} (j : Nat) (xs : List α) (Pf : α → FP) (c : α → Bool) (f : α → PyData) (B : Bx κ X N sc ok) (bl : BlkOk N sc scope [(y, j)])
    (hI : DI κ X G env (.Name y yp) iter env1 (xs.map Pf)) (hz : xs.length ≤ sizeLine) (hj : env1[j]? = some none)
    (turn : ∀ s0 H0 C cl fp, Bx κ (BY X s0 H0 scope C cl fp) N (relS scope sc) (okB scope) → ∀ a ∈ xs, DTs (BY X s0 H0 scope C cl fp) G (env1.set j (some (.fz (Pf a)))) ifs (env1.set j (some (.fz (Pf a)))) (c a) ∧
      (c a = true → ∃ A, A.fr = isD X.K (f a) ∧ DE (BY X s0 H0 scope C cl fp) G (env1.set j (some (.fz (Pf a)))) elt (env1.set j (some (.fz (Pf a)))) A))
    (hN : N[j]? = some y := by rfl) (hx : Loc (relS scope sc) y := by first | exact Or.inl rfl | exact Or.inr rfl) (hok : okB scope y = true := by rfl) (hs : ∀ x, foldedSetIterable iter X.env x = pure x := by intro _; rfl) :
    LCR X G env elt ⟨.Name y yp, iter, ifs, 0⟩ [] scope pos env1 (oLn X.K ((xs.filter c).map f)) := by
  have hjl : j < env1.length := (List.getElem?_eq_some_iff.mp hj).1
  have hfm : (xs.filter c).flatMap (fun a => [dD X.K (f a)]) = ((xs.filter c).map f).map (dD X.K) := by
    induction (xs.filter c) with
    | nil => rfl
    | cons a l ih => simp only [List.flatMap_cons, List.map_cons, ih]; rfl
  refine lcr_data (lcr_p (gs := []) [(y, j)] xs Pf c (fun a => [dD X.K (f a)]) (fun a => env1.set j (some (.fz (Pf a)))) [j] B bl hI ?_ (fun p hp A => ?_) (by simp) (fun a _ => Wk.un hj) (fun s0 H0 C cl fp BYx a ha => ⟨dg_name BYx j hN hx hjl hok, (turn s0 H0 C cl fp BYx a ha).1, fun hc L hL => ?_⟩) rfl hs) hfm
  · rw [hfm, List.length_map, List.length_map]
    exact Nat.le_trans (List.length_filter_le _ _) hz
  · simp only [List.mem_singleton] at hp
    subst hp
    rw [hj]
    intro z
    cases z
  · obtain ⟨A, hA, hE⟩ := (turn s0 H0 C cl fp BYx a ha).2 hc
    refine lcb_nil ?_ (by simpa using hL)
    have h2 := de_frz hE
    rw [hA] at h2
    exact h2

/-! ### calls by a name -/
/-- what the name x stands for, called with values as pre tells -/
def NC (X : Cx) (x : Str) (pre aft : List As) (S : As) : Prop :=
  (∃ f, X.mg x = some (.ref f) ∧ PySem.W.keepIn X.K (.ref f) = true ∧ CallD X (.ref f) pre aft S) ∨
  (∃ id, X.mg x = none ∧ x ≠ "__name__" ∧ bootBuiltins x = some (.builtin id) ∧ CallD X (.builtin id) pre aft S) ∨
  (∃ id, X.mg x = none ∧ x ≠ "__name__" ∧ bootBuiltins x = some (.type id) ∧ CallD X (.type id) pre aft S)
theorem de_nc {pre aft As' : List As} {p : Pos} (B : Bx κ X N sc ok) (C : NC X x pre aft S) (ha : DA X G env (e :: es) env1 As') (hA : As'.map (fun A => As.fz A.fr) = pre ∨ As' = pre) (hg : GlS sc x := by rfl)
    (hdb : (x == ("__debug__" : Str)) = false := by decide) (he : starEach (e :: es) X.env = (false, eval e X.env) :: starEach es X.env := by rfl) (hpl : (backTo pos (starEach es X.env)).any (·.1) = false := by rfl) :
    DE X G env (.Call (.Name x p) (e :: es) [] pos) env1 S := by
  rcases C with ⟨f, h1, h2, h3⟩ | ⟨id, h1, hn, h2, h3⟩ | ⟨id, h1, hn, h2, h3⟩
  · exact de_call B h3 h1 h2 ha hA hg hdb he hpl
  · exact de_callB B h3 h1 h2 ha hA hg hn hdb he hpl
  · exact de_callTy B h3 h1 h2 ha hA hg hn hdb he hpl
/-- f(name, e, ..): the name's own cells are lent -/
theorem de_ncL (B : Bx κ X N sc ok) {A A' : As} {q : Option V} {pre aft As' : List As} {p : Pos} {y : Str} {py : Pos} (i : Nat) (C : NC X x (A.at none :: pre) (A'.at none :: aft) S) (ha : DA X G env es env1 As') (hA : As'.map (fun A => As.fz A.fr) = pre ∨ As' = pre)
    (hi : env1[i]? = some (some (A.at q)) := by rfl) (hy : ∃ A0, env[i]? = some (some A0) := by exact ⟨_, rfl⟩) (hN : N[i]? = some y := by rfl) (hv : Vis sc y := by first | exact Or.inl rfl | exact Or.inr (Or.inl rfl) | exact Or.inr (Or.inr rfl)) (hg : GlS sc x := by rfl) (hd : (y == ("__debug__" : Str)) = false := by decide) (hcd : (y == ("__classdict__" : Str)) = false := by decide)
    (hdb : (x == ("__debug__" : Str)) = false := by decide) (he : starEach (.Name y py :: es) X.env = (false, eval (.Name y py) X.env) :: starEach es X.env := by rfl) (hpl : (backTo pos (starEach es X.env)).any (·.1) = false := by rfl) (hf : ∃ f, X.mg x = some (.ref f)) :
    DE X G env (.Call (.Name x p) (.Name y py :: es) [] pos) (env1.set i (some (A'.at q))) S := by
  rcases C with ⟨f, hm, hk, C⟩ | ⟨id, h1, hn, h2, h3⟩ | ⟨id, h1, hn, h2, h3⟩
  · obtain ⟨hl, r, hr, k⟩ := C
    obtain ⟨A0, hy⟩ := hy
    refine de_of (pe_callG hr (B.gl hg) hm hk (pa_cons (pe_var (B.N_ ▸ hN) (B.sc_ ▸ hv) hd hcd) cA_pa he) hdb he hpl) fun T σ H hs Q qq => ?_
    obtain ⟨v, e, _⟩ := hs.take hy
    refine ⟨v, e, ?_⟩
    refine ha T σ H hs _ fun vs H1 hv h1 => ?_
    have hp : vs.length = pre.length := by
      rw [hv]; rcases hA with e | e
      · rw [← e, List.length_map]
      · rw [e]
    obtain ⟨v', e', h2⟩ := (h1.args hA).take hi
    rw [e] at e'; cases e'
    have hq : ∀ w, q = some w → v = w := by
      obtain ⟨HF, o, o1, o2, _, ha', _, _⟩ := h2.top
      exact ha'.1
    have h2' : StA G ((v, A.at none) :: (vs.zip pre ++ T)) (env1.set i none) σ H1 := h2.say fun HF o hp => ⟨fun _ z => (nomatch z), hp.2⟩
    refine k G T _ σ H1 (v :: vs) (by simp [hp]) h2' Q fun w H' h' => qq w H' ?_
    have h3 : StA G ((w, S) :: ((v, A'.at none) :: (vs.zip aft ++ T))) (env1.set i none) σ H' := h'
    have hil : i < env1.length := (List.getElem?_eq_some_iff.mp hi).1
    have h4 := (((h3.perm (.swap _ _ _)).say (B := A'.at q) fun HF o hp => ⟨hq, hp.2⟩).back e (by rw [List.getElem?_set_self hil]))
    rw [List.set_set] at h4
    exact StA.popN1 h4
  · obtain ⟨f, hf⟩ := hf
    rw [hf] at h1; cases h1
  · obtain ⟨f, hf⟩ := hf
    rw [hf] at h1; cases h1
theorem nc_of {P : Program} {w : World} {K : PySem.W.Frag} {mg : Str → Option Value} {base : Heap} {k : Nat} {ps : List Str} {ι : Type} {args : ι → List Arg} {ret : ι → As} (F : FnK X.prog X.w X.K X.mg X.base CX0 x k ps (spD args ret)) (hr : Room k X.A) (i : ι) :
    NC X x ((args i).map Arg.pre) ((args i).map Arg.aft) (ret i) := by
  obtain ⟨f, fd, h1, h2, h3, h4, _⟩ := F
  exact .inl ⟨f, h1, h2, callD_of h4 hr h3 (E := E0) pass0 i⟩
theorem nc_b {id : String} {pre aft : List As} (C : CallD X (.builtin id) pre aft S) (hm : X.mg x = none) (hv : bootBuiltins x = some (.builtin id) := by decide +kernel) (hn : x ≠ "__name__" := by decide) : NC X x pre aft S := .inr (.inl ⟨id, hm, hn, hv, C⟩)
theorem nc_t {id : String} {pre aft : List As} (C : CallD X (.type id) pre aft S) (hm : X.mg x = none) (hv : bootBuiltins x = some (.type id) := by decide +kernel) (hn : x ≠ "__name__" := by decide) : NC X x pre aft S := .inr (.inr ⟨id, hm, hn, hv, C⟩)

/-! ### own lists are read: pure tests and scalars -/
def frAll (env : Ev) : Ev := env.map (·.map fun A => As.fz A.fr)
theorem tm_frAll {H HF' : Hp} {G : Reg} (e : Ex H HF') : ∀ {os : Own} {σ : St} {env : Ev}, Sl H os σ env → (∀ q ∈ os, HF' q.1 = some q.2) → Sl HF' [] σ (frAll env)
  | _, _, _, .nil, _ => .nil
  | _, _, _, .skip s, k => .skip (tm_frAll (G := G) e s k)
  | _, _, _, .cons (A := A) a s, k => Sl.cons (A := .fz A.fr) (o := []) (os := []) ⟨rfl, A.frz e (fun q hq => k q (List.mem_append_left _ hq)) a⟩ (tm_frAll (G := G) e s fun q hq => k q (List.mem_append_right _ hq))
theorem StA.thaw {T : List (V × As)} {σ : St} {H : Hp} (h : StA G T env σ H) : ∃ G2, StA G2 [] (frAll env) σ H ∧ ∀ {T2 : List (V × As)} {env2 : Ev} {σ2 : St} {H2 : Hp}, StA G2 T2 env2 σ2 H2 → StA G T env σ H2 ∧ Ex H H2 := by
  obtain ⟨HF, o1, o2, h1, t, s⟩ := h
  have h1' : Held G HF ((o1 ++ o2) ++ []) H := by rw [List.append_nil]; exact h1
  obtain ⟨k1, k2, k3⟩ := h1'.freeze
  refine ⟨⟨plus HF (o1 ++ o2), H, []⟩, ⟨plus HF (o1 ++ o2), [], [], ⟨Ex.refl _, k1.inH, fun _ z => (nomatch z), by simp, fun _ _ z => .inl z, fun _ _ z => .inr z, fun _ o z => ⟨o, z⟩⟩, .nil, tm_frAll (G := G) k2 s fun q hq => k3 q (List.mem_append_right _ hq)⟩, fun {T2 env2 σ2 H2} h2 => ?_⟩
  obtain ⟨HF2, p1, p2, q1, _, _⟩ := h2
  have ex : Ex H H2 := fun a o e => (q1.keep a o e).resolve_left (fun z => (nomatch z))
  refine ⟨⟨HF, o1, o2, ⟨h1.sub, h1.inH.trans ex, fun q hq => let z := h1.own q hq; ⟨ex _ _ z.1, z.2⟩, h1.nd, h1.new, fun a o e => (h1.keep a o e).imp id (ex a o), fun a o e => let ⟨o', z⟩ := h1.there a o e; ⟨o', ex _ _ z⟩⟩, t, s⟩, ex⟩
/-- a told scalar off slots that own -/
theorem de_thaw (h : ∀ G, DE X G (frAll env) e env' (.fz P)) (hP : ∀ HF HF' v, P.p HF v → P.p HF' v) : DE X G env e env (.fz P) := fun T σ H hs Q q => by
  obtain ⟨G2, h2, k⟩ := hs.thaw
  refine h G2 [] σ H h2 Q fun v H' h' => q v H' ?_
  obtain ⟨HF, _, hv⟩ := h'.one
  exact (k h').1.push fun HF' => hP HF HF' v hv
theorem dt_thaw {c : Bool} (h : ∀ G, DT X G (frAll env) e env' c) : DT X G env e env c := fun T σ H hs Q q => by
  obtain ⟨G2, h2, k⟩ := hs.thaw
  exact h G2 [] σ H h2 Q fun H' h' => q H' (k h').1
theorem sc_int {m : Int} : ∀ HF HF' v, (isD K (.int m)).p HF v → (isD K (.int m)).p HF' v := fun HF HF' v h => by rw [dpI h]; exact isD_int _
theorem sc_bl {m : Bool} : ∀ HF HF' v, (isD K (.bool m)).p HF v → (isD K (.bool m)).p HF' v := fun HF HF' v h => by rw [dpB h]; exact isD_bl _
theorem sc_str {m : Str} : ∀ HF HF' v, (isD K (.str m)).p HF v → (isD K (.str m)).p HF' v := fun HF HF' v h => by rw [dpS h]; exact isD_str _
end
end DL

set_option maxHeartbeats 4000000
/-! DL8: lists made of lists, changed in place; tuple(), list(); instances. -/
namespace DL
open PySem PySem.Spec PyProof.Rows L2
section
variable {X Y : Cx} {N : List Str} {sc : Scope} {ok : Str → Bool} {G : Reg} {env env1 env2 env3 env' : Ev} {A B S : As} {P R : FP} {e a b : Expr} {es : List Expr} {pos : Pos} {x : Str} {K : PySem.W.Frag} {own : List Nat} {elt : Expr}

/-! ### new lists and tuples of others -/
theorem opd_newL {f : Value → Value → Sem Value} {r : R2} {ds : List PyData} (hr : OpR X f r) (k : ∀ HF H va vb, Ex HF H → P.p HF va → R.p HF vb → ∃ xs, DpAll X.K HF xs ds ∧ ∀ Q : VK, (∀ p, H p = none → Q (.ref p) (upd H p (.lst xs))) → r va vb H Q) : OpD X f P R (oLn X.K ds) :=
  ⟨r, hr, fun G T env σ H va vb hs Q q => by
    obtain ⟨HF, o1, o2, h1, ha, hb, t, s⟩ := hs.two'
    obtain ⟨xs, h2, h3⟩ := k HF H va vb h1.inH ha hb
    exact h3 Q fun p hp => q _ _ (StA.newO h1 t s hp ⟨fun _ z => (nomatch z), p, xs, rfl, rfl, h2⟩)⟩
theorem opd_catL {ds es : List PyData} (hz : ds.length + es.length ≤ sizeLine) : OpD X (binaryOp .Add) (isD X.K (.list ds)) (isD X.K (.list es)) (oLn X.K (ds ++ es)) :=
  opd_newL op_cat fun HF H va vb ex ha hb => by
    obtain ⟨p, xs, e, h2, h3⟩ := dpLt ha
    obtain ⟨p', ys, e', h2', h3'⟩ := dpLt hb
    exact ⟨xs ++ ys, dpAll_app h3 h3', fun Q q => ⟨p, p', xs, ys, e, e', ex _ _ h2, ex _ _ h2', by rw [dpAll_len h3, dpAll_len h3']; exact hz, q⟩⟩
theorem dpAll_rep {H : Hp} {xs : List V} {ds : List PyData} (h : DpAll K H xs ds) : ∀ n : Nat, DpAll K H (List.replicate n xs).flatten (List.replicate n ds).flatten
  | 0 => .nil
  | n + 1 => by simp only [List.replicate_succ, List.flatten_cons]; exact dpAll_app h (dpAll_rep h n)
theorem opd_repL {ds : List PyData} {n : Int} (h1 : -(2 ^ 63) ≤ n) (h2 : n < 2 ^ 63) (hz : ds.length * n.toNat ≤ sizeLine) : OpD X (binaryOp .Mult) (isD X.K (.list ds)) (isD X.K (.int n)) (oLn X.K (List.replicate n.toNat ds).flatten) :=
  opd_newL op_rep fun HF H va vb ex ha hb => by
    obtain ⟨p, xs, e, h3, h4⟩ := dpLt ha
    exact ⟨_, dpAll_rep h4 n.toNat, fun Q q => ⟨p, n, xs, e, dpI hb, ex _ _ h3, h1, h2, by rw [dpAll_len h4]; exact hz, q⟩⟩
theorem cd_newL {f : Value} {r : List V → Hp → VK → Prop} {ds : List PyData} (hr : CallR X f r) (k : ∀ HF H va, Ex HF H → P.p HF va → ∃ xs, DpAll X.K HF xs ds ∧ ∀ Q : VK, (∀ p, H p = none → Q (.ref p) (upd H p (.lst xs))) → r [va] H Q) : CallD X f [.fz P] [.fz P] (oLn X.K ds) :=
  ⟨rfl, r, hr, fun G T env σ H vs hl hs Q q => by
    obtain ⟨v, rfl⟩ := zip1 hl
    have hs2 : StA G ((v, .fz P) :: (v, .fz P) :: T) env σ H := StA.dup hs
    obtain ⟨HF, o1, o2, h1, ha, t, s⟩ := hs2.one'
    obtain ⟨xs, h2, h3⟩ := k HF H v h1.inH ha
    exact h3 Q fun p hp => q _ _ (StA.newO h1 t s hp ⟨fun _ z => (nomatch z), p, xs, rfl, rfl, h2⟩)⟩
theorem cd_newT {f : Value} {r : List V → Hp → VK → Prop} {ds : List PyData} (hr : CallR X f r) (k : ∀ HF H va, Ex HF H → P.p HF va → ∃ xs, DpAll X.K HF xs ds ∧ ∀ Q : VK, (∀ p, H p = none → Q (.ref p) (upd H p (.tup xs))) → r [va] H Q) : CallD X f [.fz P] [.fz P] (dD X.K (.tuple ds)) :=
  ⟨rfl, r, hr, fun G T env σ H vs hl hs Q q => by
    obtain ⟨v, rfl⟩ := zip1 hl
    have hs2 : StA G ((v, .fz P) :: (v, .fz P) :: T) env σ H := StA.dup hs
    obtain ⟨HF, o1, o2, h1, ha, t, s⟩ := hs2.one'
    obtain ⟨xs, h2, h3⟩ := k HF H v h1.inH ha
    exact h3 Q fun p hp => q _ _ (StA.newF h1 t s hp (Dp.tup (.inl (.inl upd_same)) (dpAll_mono (Ex.new (h1.hf hp)) h2)))⟩
theorem cd_listL {ds : List PyData} : CallD X (.type "list") [dD X.K (.list ds)] [dD X.K (.list ds)] (oLn X.K ds) :=
  cd_newL call_list_of fun HF H va ex ha => by
    obtain ⟨p, xs, e, h3, h4⟩ := dpL ha
    exact ⟨xs, h4, fun Q q => ⟨p, xs, by rw [e], .inl (ex.l h3), q⟩⟩
theorem cd_listT {ds : List PyData} : CallD X (.type "list") [dD X.K (.tuple ds)] [dD X.K (.tuple ds)] (oLn X.K ds) :=
  cd_newL call_list_of fun HF H va ex ha => by
    obtain ⟨p, xs, e, h3, h4⟩ := dpT ha
    exact ⟨xs, h4, fun Q q => ⟨p, xs, by rw [e], .inr (ex.t h3), q⟩⟩
theorem cd_tupleL {ds : List PyData} : CallD X (.type "tuple") [dD X.K (.list ds)] [dD X.K (.list ds)] (dD X.K (.tuple ds)) :=
  cd_newT call_tuple_of fun HF H va ex ha => by
    obtain ⟨p, xs, e, h3, h4⟩ := dpL ha
    exact ⟨xs, h4, fun Q q => ⟨p, xs, by rw [e], .inl ⟨ex.l h3, q⟩⟩⟩
theorem cd_tupleT {ds : List PyData} : CallD X (.type "tuple") [dD X.K (.tuple ds)] [dD X.K (.tuple ds)] (dD X.K (.tuple ds)) :=
  ⟨rfl, _, call_tuple_of, fun G T env σ H vs hl hs Q q => by
    obtain ⟨v, rfl⟩ := zip1 hl
    have hs2 : StA G ((v, dD X.K (.tuple ds)) :: (v, dD X.K (.tuple ds)) :: T) env σ H := StA.dup hs
    obtain ⟨HF, ex, ha⟩ := StA.one hs
    obtain ⟨p, xs, e, h3, h4⟩ := dpT ha
    subst e
    exact ⟨p, xs, rfl, .inr ⟨ex.t h3, q _ H hs2⟩⟩⟩
/-- xs[::-1] -/
theorem de_rev {ds : List PyData} {k : Nat} {p1 p2 p3 : Pos} (h : DE X G env e env1 A) (hA : A.fr = isD X.K (.list ds)) : DE X G env (.Subscript e (.Slice none none (some (.UnaryOp .USub (.Constant (.int 1) k p1) p2)) p3) pos) env1 (oLn X.K ds.reverse) :=
  de_of (pe_revL cE_pe) fun T σ H hs Q q => h T σ H hs _ fun v H1 h1 => by
    have h2 := h1.freeze
    rw [hA] at h2
    obtain ⟨HF, o1, o2, k1, ha, t, s⟩ := h2.one'
    obtain ⟨p, xs, e, h3, h4⟩ := dpL ha
    exact ⟨p, xs, e, k1.inH.l h3, fun p' hp => q _ _ (StA.newO k1 t s hp ⟨fun _ z => (nomatch z), p', _, rfl, rfl, dpAll_rev h4⟩)⟩
theorem all2_rev {H : Hp} : ∀ {vs : List V} {Ps : List FP}, All2 H vs Ps → All2 H vs.reverse Ps.reverse := by
  have app : ∀ {vs ws : List V} {Ps Qs : List FP}, All2 H vs Ps → All2 H ws Qs → All2 H (vs ++ ws) (Ps ++ Qs) := by
    intro vs
    induction vs with
    | nil => intro ws Ps Qs h1 h2; cases Ps with | nil => exact h2 | cons _ _ => exact h1.elim
    | cons v vs ih => intro ws Ps Qs h1 h2; cases Ps with | nil => exact h1.elim | cons P Ps => exact ⟨h1.1, ih h1.2 h2⟩
  intro vs
  induction vs with
  | nil => intro Ps h; cases Ps with | nil => exact h | cons _ _ => exact h.elim
  | cons v vs ih =>
    intro Ps h
    cases Ps with
    | nil => exact h.elim
    | cons P Ps =>
      simp only [List.reverse_cons]
      exact app (ih h.2) ⟨h.1, trivial⟩
theorem de_revL {Ps : List FP} {k : Nat} {p1 p2 p3 : Pos} (h : DE X G env e env1 A) (hA : A.fr = isL Ps) : DE X G env (.Subscript e (.Slice none none (some (.UnaryOp .USub (.Constant (.int 1) k p1) p2)) p3) pos) env1 ((oA (Ps.reverse.map As.fz)).at none) :=
  de_of (pe_revL cE_pe) fun T σ H hs Q q => h T σ H hs _ fun v H1 h1 => by
    have h2 := h1.freeze
    rw [hA] at h2
    obtain ⟨HF, o1, o2, k1, ⟨p, xs, e, h3, h4⟩, t, s⟩ := h2.one'
    have h5 := all2_rev h4
    exact ⟨p, xs, e, SqL.of (k1.inH _ _ h3), fun p' hp => q _ _ (StA.newO k1 t s hp ⟨fun _ z => (nomatch z), p', _, [], rfl, rfl, by simpa using h5.len, tm_of_all2 h5⟩)⟩

/-! ### changed in place: a name's own list -/
/-- the own list of slot i, opened -/
theorem StA.openL {T : List (V × As)} {σ : St} {H : Hp} {i : Nat} {ds : List PyData} {q : Option V} (h : StA G T env σ H) (hi : env[i]? = some (some ((oL K ds).at q))) :
    ∃ p xs, σ[i]? = some (some (.ref p)) ∧ H p = some (.lst xs) ∧ xs.length = ds.length ∧ (∃ HF, Ex HF H ∧ DpAll K HF xs ds) ∧
      ∀ (T' : List (V × As)) (env' : Ev) (H' : Hp), (∃ HF o1 o2, Held G HF ((p, .lst xs) :: (o1 ++ o2)) H' ∧ Tm HF o1 T' ∧ Sl HF o2 σ env' ∧ DpAll K HF xs ds) → ∀ (xs' : List V) (ds' : List PyData), (∀ HF, DpAll K HF xs ds → DpAll K HF xs' ds') → env'[i]? = some none → StA G T' (env'.set i (some ((oL K ds').at q))) σ (upd H' p (.lst xs')) := by
  obtain ⟨v, e, h1⟩ := h.take hi
  obtain ⟨HF, o, o1, o2, h2, ⟨hq, p, xs, e1, e2, h3⟩, t, s⟩ := h1.top
  subst e1 e2
  have hp := (h2.own (p, .lst xs) (by simp)).1
  refine ⟨p, xs, e, hp, dpAll_len h3, ⟨HF, h2.inH, h3⟩, fun T' env' H' ⟨HF', p1, p2, k1, k2, k3, k4⟩ xs' ds' hd hn => ?_⟩
  have k5 := k1.put (u := .lst xs')
  exact (StA.ofTop (o := [(p, .lst xs')]) (v := .ref p) (A := (oL K ds').at q) k5 ⟨hq, p, xs', rfl, rfl, hd HF' k4⟩ k2 k3).back e hn
/-- x.append(e) -/
theorem de_append {q : Option V} {ds : List PyData} {d : PyData} {y : Str} {py apos cpos : Pos} (B : Bx κ X N sc ok) (i : Nat) (he : DE X G env e env1 A) (hA : A.fr = isD X.K d) (hi : env1[i]? = some (some ((oL X.K ds).at q)) := by rfl) (hi0 : ∃ ds0, env[i]? = some (some ((oL X.K ds0).at q)) := by exact ⟨_, rfl⟩) (hz : ds.length < sizeLine) (hN : N[i]? = some y := by rfl)
    (hv : Vis sc y := by first | exact Or.inl rfl | exact Or.inr (Or.inl rfl) | exact Or.inr (Or.inr rfl)) (hd : (y == ("__debug__" : Str)) = false := by decide) (hcd : (y == ("__classdict__" : Str)) = false := by decide)
    (hbase : attributeBase (.Name y py) "append" X.env (eval (.Name y py) X.env) = eval (.Name y py) X.env := by rfl)
    (hfew : ((backTo cpos (starEach [e] X.env)).all (fun x => !x.1) && (backToKw cpos (keywordEach [] X.env)).all (fun x => x.1.isSome) && decide ([e].length + ([] : List Keyword).length + (if ([] : List Keyword).isEmpty then 0 else 1) < 30)) = true := by rfl)
    (hline : (apos.endLine == cpos.line) = true := by rfl) (hs : starEach [e] X.env = (false, eval e X.env) :: starEach [] X.env := by rfl) (hplain : (backTo cpos (starEach [] X.env)).any (·.1) = false := by rfl) :
    DE X G env (.Call (.Attribute (.Name y py) "append" apos) [e] [] cpos) (env1.set i (some ((oL X.K (ds ++ [d])).at q))) (dD X.K .none) :=
  de_of (pe_bm PySem.F.plainAttrs_list PySem.F.slot_list_append PySem.F.type_list_append mt_append (pe_var (B.N_ ▸ hN) (B.sc_ ▸ hv) hd hcd) (pa_cons cE_pe pa_nil hs) hbase hfew hline hs hplain) fun T σ H hs Q qq => by
    obtain ⟨ds0, hi0⟩ := hi0
    obtain ⟨p, xs, e1, h1, _⟩ := hs.openL hi0
    refine ⟨_, e1, .inl ⟨rfl, xs, SqL.of h1⟩, he T σ H hs _ fun v H1 k1 => ?_⟩
    have k2 := k1.freeze
    rw [hA] at k2
    obtain ⟨p', xs', e2, h2, hl, _, back⟩ := k2.openL hi
    rw [e1] at e2; cases e2
    refine ⟨p, xs', v, rfl, rfl, h2, by omega, qq _ _ ?_⟩
    -- the value goes into the list
    obtain ⟨w, e3, k3⟩ := k2.take hi
    rw [e1] at e3; cases e3
    obtain ⟨HF, o, o1, o2, m1, ⟨hq, p2, xs2, f1, f2, m2⟩, m3, m4⟩ := k3.top
    cases f1
    subst f2
    have hp2 := (m1.own (p, .lst xs2) (by simp)).1
    rw [h2] at hp2; cases hp2
    cases m3 with
    | @cons _ _ ov os _ bv tt =>
      obtain ⟨rfl, bv⟩ := bv
      have hl1 : i < env1.length := (List.getElem?_eq_some_iff.mp hi).1
      have m5 : Held G HF ((p, .lst (xs' ++ [v])) :: (os ++ o2)) (upd H1 p (.lst (xs' ++ [v]))) := Held.put (o := .lst xs') (by simpa using m1)
      have m6 := (StA.ofTop (o := [(p, .lst (xs' ++ [v]))]) (v := .ref p) (A := (oL X.K (ds ++ [d])).at q) m5 ⟨hq, p, _, rfl, rfl, dpAll_app m2 (.cons bv .nil)⟩ tt m4).back e1 (by rw [List.getElem?_set_self hl1])
      rw [List.set_set] at m6
      exact m6.push isD_non
/-- .. of any values -/
theorem de_appendA {q : Option V} {L : List As} {y : Str} {py apos cpos : Pos} (B : Bx κ X N sc ok) (i : Nat) (he : DE X G env e env1 A) (hi : env1[i]? = some (some ((oA L).at q)) := by rfl) (hi0 : ∃ L0, env[i]? = some (some ((oA L0).at q)) := by exact ⟨_, rfl⟩) (hz : L.length < sizeLine) (hN : N[i]? = some y := by rfl)
    (hv : Vis sc y := by first | exact Or.inl rfl | exact Or.inr (Or.inl rfl) | exact Or.inr (Or.inr rfl)) (hd : (y == ("__debug__" : Str)) = false := by decide) (hcd : (y == ("__classdict__" : Str)) = false := by decide)
    (hbase : attributeBase (.Name y py) "append" X.env (eval (.Name y py) X.env) = eval (.Name y py) X.env := by rfl)
    (hfew : ((backTo cpos (starEach [e] X.env)).all (fun x => !x.1) && (backToKw cpos (keywordEach [] X.env)).all (fun x => x.1.isSome) && decide ([e].length + ([] : List Keyword).length + (if ([] : List Keyword).isEmpty then 0 else 1) < 30)) = true := by rfl)
    (hline : (apos.endLine == cpos.line) = true := by rfl) (hs : starEach [e] X.env = (false, eval e X.env) :: starEach [] X.env := by rfl) (hplain : (backTo cpos (starEach [] X.env)).any (·.1) = false := by rfl) :
    DE X G env (.Call (.Attribute (.Name y py) "append" apos) [e] [] cpos) (env1.set i (some ((oA (L ++ [A])).at q))) (dD X.K .none) :=
  de_of (pe_bm PySem.F.plainAttrs_list PySem.F.slot_list_append PySem.F.type_list_append mt_append (pe_var (B.N_ ▸ hN) (B.sc_ ▸ hv) hd hcd) (pa_cons cE_pe pa_nil hs) hbase hfew hline hs hplain) fun T σ H hs Q qq => by
    obtain ⟨L0, hi0⟩ := hi0
    obtain ⟨v0, e1, k0⟩ := hs.take hi0
    obtain ⟨HF0, o0, _, _, g1, ⟨_, p, xs, os0, f1, f2, _, _⟩, _, _⟩ := k0.top
    subst f1 f2
    have h1 := (g1.own (p, .lst xs) (by simp)).1
    refine ⟨_, e1, .inl ⟨rfl, xs, SqL.of h1⟩, he T σ H hs _ fun v H1 k1 => ?_⟩
    obtain ⟨w, e3, k3⟩ := k1.take hi
    rw [e1] at e3; cases e3
    have hq : ∀ w, q = some w → V.ref p = w := by
      obtain ⟨_, _, _, _, _, ha, _, _⟩ := k3.top
      exact ha.1
    have k4 : StA G ((.ref p, oA L) :: (v, A) :: T) (env1.set i none) σ H1 := k3.say fun HF o hp => hp.2
    obtain ⟨xs', m1, m2, m3⟩ := StA.accum (k4.perm (.swap _ _ _))
    refine ⟨p, xs', v, rfl, rfl, m1, by omega, qq _ _ ?_⟩
    have hl1 : i < env1.length := (List.getElem?_eq_some_iff.mp hi).1
    have m6 := (m3.say (B := (oA (L ++ [A])).at q) fun HF o hp => ⟨hq, hp⟩).back e1 (by rw [List.getElem?_set_self hl1])
    rw [List.set_set] at m6
    exact m6.push isD_non
end
end DL

set_option maxHeartbeats 4000000
/-! DL9: assignments to items, to several targets; pop; instances: made, read, stored. -/
namespace DL
open PySem PySem.Spec PyProof.Rows L2
section
variable {X Y : Cx} {N : List Str} {sc : Scope} {ok : Str → Bool} {G : Reg} {env env1 env2 env3 env' : Ev} {A B S : As} {P R : FP} {e a b : Expr} {es : List Expr} {pos : Pos} {x : Str} {K : PySem.W.Frag} {own : List Nat} {elt : Expr}

theorem ds_wk {st : Stmt} (h : DS X G env st (NX env1)) (w : Wk env1 env2) : DS X G env st (NX env2) := fun T σ H hs D d => h T σ H hs D ⟨fun e σ H p h' => by cases p; exact d.nx _ σ H rfl (w _ _ _ _ h'), fun _ _ _ _ _ p _ => (nomatch p), fun _ _ _ p _ => (nomatch p), fun _ _ _ p _ => (nomatch p)⟩
theorem dss_wk {sts : List Stmt} {Pt : Out → Prop} (w : Wk env env1) (h : DSs X G env1 sts Pt) : DSs X G env sts Pt := fun T σ H hs D d => h T σ H (w _ _ _ _ hs) D d
theorem Wk.say {i : Nat} (hi : env[i]? = some (some A)) (h : ∀ HF v o, A.p HF v o → B.p HF v o) : Wk env (env.set i (some B)) := fun G T σ H s => by
  obtain ⟨v, e, s1⟩ := s.take hi
  have hl : i < env.length := (List.getElem?_eq_some_iff.mp hi).1
  have s2 := (s1.say fun HF o => h HF v o).back e (by rw [List.getElem?_set_self hl])
  rw [List.set_set] at s2
  exact s2
theorem Wk.chill {i : Nat} (hi : env[i]? = some (some A)) : Wk env (env.set i (some (.fz A.fr))) := fun G T σ H s => s.chill hi
theorem Wk.forget {i : Nat} (hi : env[i]? = some (some A)) : Wk env (env.set i none) := fun G T σ H s => s.forget i A hi
/-- target = e -/
theorem ds_asg {tg : Expr} {ws : List Nat} (he : DE X G env e env1 A) (hg : DGt X G env1 A tg ws env2) (hs : swapsWithSole [tg] e pos.line X.env = pure false := by rfl) (hw : swappedStores [tg] e X.env = pure none := by rfl) (h1 : (assignEach [tg] X.env).map (·.2) = [assign tg X.env] := by rfl) :
    DS X G env (.Assign [tg] e pos) (NX env2) := fun T σ H st D d => of_ps (ps_asg cE_pe cG_pg hs hw h1) (he T σ H st _ fun v H' h' => hg T v σ H' h' D.nx fun σ' H2 _ _ h2 => d.nx _ _ H2 rfl h2)
/-- x[m] = .., x a name's own list -/
theorem dg_setI {q : Option V} {ds : List PyData} {d : PyData} {m : Int} {j : Nat} {y : Str} {py : Pos} {ix : Expr} (B : Bx κ X N sc ok) (i : Nat) (hA : A.fr = isD X.K d) (hx : DE X G env ix env (dD X.K (.int m))) (hj : ixN ds.length m = some j) (hi : env[i]? = some (some ((oL X.K ds).at q)) := by rfl) (hN : N[i]? = some y := by rfl)
    (hv : Vis sc y := by first | exact Or.inl rfl | exact Or.inr (Or.inl rfl) | exact Or.inr (Or.inr rfl)) (hd : (y == ("__debug__" : Str)) = false := by decide) (hcd : (y == ("__classdict__" : Str)) = false := by decide)
    (ha : ∀ v, assign (.Subscript (.Name y py) ix pos) X.env v = (do
      let ov ← holding [v] (eval (.Name y py) X.env)
      let iv ← holding [v, ov] (eval ix X.env)
      standAt pos
      holding [v, ov, iv] (setItem ov iv v)
      release [v, ov, iv] []) := by intro _; rfl) : DGt X G env A (.Subscript (.Name y py) ix pos) [] (env.set i (some ((oL X.K (ds.set j d)).at q))) :=
  fun T v σ H st Q qq => of_pg (pg_sub (pe_var (B.N_ ▸ hN) (B.sc_ ▸ hv) hd hcd) cE_pe set_list ha) (by
    have st1 := st.freeze
    rw [hA] at st1
    obtain ⟨w0, e1, _⟩ := st1.take hi
    refine ⟨w0, e1, hx _ σ H st1 _ fun iv H1 h1 => ?_⟩
    obtain ⟨HFi, _, hiv⟩ := h1.one
    have h2 := h1.pop
    obtain ⟨w, e3, k3⟩ := h2.take hi
    rw [e1] at e3; cases e3
    obtain ⟨HF, o, o1, o2, m1, ⟨hq, p2, xs2, f1, f2, m2⟩, m3, m4⟩ := k3.top
    subst f1 f2
    have hp2 := (m1.own (p2, .lst xs2) (by simp)).1
    refine ⟨p2, xs2, m, j, rfl, dpI hiv, hp2, by rw [dpAll_len m2]; exact hj, ?_⟩
    cases m3 with
    | @cons _ _ ov os _ bv tt =>
      obtain ⟨rfl, bv⟩ := bv
      have hl1 : i < env.length := (List.getElem?_eq_some_iff.mp hi).1
      have m5 : Held G HF ((p2, .lst (xs2.set j v)) :: (os ++ o2)) (upd H1 p2 (.lst (xs2.set j v))) := Held.put (o := .lst xs2) (by simpa using m1)
      have m6 := (StA.ofTop (o := [(p2, .lst (xs2.set j v))]) (v := .ref p2) (A := (oL X.K (ds.set j d)).at q) m5 ⟨hq, p2, _, rfl, rfl, dpAll_set bv j m2⟩ tt m4).back e1 (by rw [List.getElem?_set_self hl1])
      rw [List.set_set] at m6
      exact qq _ _ (fun _ _ => rfl) rfl m6)
/-- a list of one's own, of lists of one's own -/
def oM (K : PySem.W.Frag) (rows : List (List PyData)) : As := oA (rows.map fun r => (oL K r).at none)
theorem tm_at {HF : Hp} : ∀ {L : List As} {xs : List V} {os : Own} {k : Nat} {A : As}, xs.length = L.length → Tm HF os (xs.zip L) → L[k]? = some A → ∃ v o oa ob, xs[k]? = some v ∧ os = oa ++ (o ++ ob) ∧ A.p HF v o ∧ ∀ (o' : Own) (A' : As), A'.p HF v o' → Tm HF (oa ++ (o' ++ ob)) (xs.zip (L.set k A'))
  | [], _, _, _, _, _, _, h => by simp at h
  | _ :: _, [], _, _, _, hl, _, _ => by cases hl
  | B :: L, x :: xs, _, 0, A, hl, .cons a t, h => by
    simp only [List.getElem?_cons_zero, Option.some.injEq] at h
    subst h
    exact ⟨x, _, [], _, rfl, rfl, a, fun o' A' h' => Tm.cons (o := o') h' t⟩
  | B :: L, x :: xs, _, k + 1, A, hl, .cons (o := o0) a t, h => by
    obtain ⟨v, o, oa, ob, h1, h2, h3, h4⟩ := tm_at (L := L) (xs := xs) (k := k) (by simpa using hl) t (by simpa using h)
    refine ⟨v, o, o0 ++ oa, ob, by simpa using h1, by rw [h2, List.append_assoc], h3, fun o' A' h' => ?_⟩
    have := Tm.cons a (h4 o' A' h')
    rw [List.append_assoc]
    exact this
/-- the very list, its items named -/
def oX (xs : List V) (L : List As) : As := ⟨fun H v o => ∃ a os, v = .ref a ∧ o = (a, .lst xs) :: os ∧ xs.length = L.length ∧ Tm H os (xs.zip L), fun e ⟨a, os, h1, h2, h3, h4⟩ => ⟨a, os, h1, h2, h3, h4.mono e⟩, isL (L.map As.fr),
  fun {H H' v o} e k ⟨a, os, h1, h2, h3, h4⟩ => (oA L).frz e k ⟨a, xs, os, h1, h2, h3, h4⟩⟩
/-- x[m][n] = .., x a name's own list of own lists -/
theorem dg_setM {q : Option V} {rows : List (List PyData)} {row : List PyData} {d : PyData} {m n : Int} {k j : Nat} {y : Str} {py p2 : Pos} {ix iy : Expr} (B : Bx κ X N sc ok) (i : Nat) (hA : A.fr = isD X.K d) (hx : DE X G (env.set i none) ix (env.set i none) (dD X.K (.int m))) (hy : DE X G (env.set i none) iy (env.set i none) (dD X.K (.int n))) (hk : ixN rows.length m = some k) (hr : rows[k]? = some row) (hj : ixN row.length n = some j)
    (hi : env[i]? = some (some ((oM X.K rows).at q)) := by rfl) (hN : N[i]? = some y := by rfl)
    (hv : Vis sc y := by first | exact Or.inl rfl | exact Or.inr (Or.inl rfl) | exact Or.inr (Or.inr rfl)) (hd : (y == ("__debug__" : Str)) = false := by decide) (hcd : (y == ("__classdict__" : Str)) = false := by decide) (hpl : PlainIx ix := by exact fun _ _ => rfl)
    (ha : ∀ v, assign (.Subscript (.Subscript (.Name y py) ix p2) iy pos) X.env v = (do
      let ov ← holding [v] (eval (.Subscript (.Name y py) ix p2) X.env)
      let iv ← holding [v, ov] (eval iy X.env)
      standAt pos
      holding [v, ov, iv] (setItem ov iv v)
      release [v, ov, iv] []) := by intro _; rfl) : DGt X G env A (.Subscript (.Subscript (.Name y py) ix p2) iy pos) [] (env.set i (some ((oM X.K (rows.set k (row.set j d))).at q))) :=
  fun T v σ H st Q qq => of_pg (pg_sub (pe_ix ix_list (pe_var (B.N_ ▸ hN) (B.sc_ ▸ hv) hd hcd) cE_pe hpl) cE_pe set_list ha) (by
    have st1 := st.freeze
    rw [hA] at st1
    obtain ⟨w0, e1, st2⟩ := st1.take hi
    refine ⟨w0, e1, hx _ σ H st2 _ fun iv H1 h1 => ?_⟩
    obtain ⟨HFi, _, hiv⟩ := h1.one
    have h2 := h1.pop
    obtain ⟨HF, o, o1, o2, m1, ⟨hq, p2, xs2, os2, f1, f2, f3, f4⟩, m3, m4⟩ := h2.top
    subst f1 f2
    have hp2 := (m1.own (p2, .lst xs2) (by simp)).1
    have hlen : xs2.length = rows.length := by rw [f3, List.length_map]
    have hLk : (rows.map fun r => (oL X.K r).at none)[k]? = some ((oL X.K row).at none) := by rw [List.getElem?_map, hr]; rfl
    obtain ⟨rv, ro, oa, ob, g1, g2, g3, g4⟩ := tm_at f3 f4 hLk
    have h3 : StA G ((.ref p2, oX xs2 (rows.map fun r => (oL X.K r).at none)) :: (v, .fz (isD X.K d)) :: T) (env.set i none) σ H1 := StA.ofTop (o := (p2, .lst xs2) :: os2) m1 ⟨p2, os2, rfl, rfl, f3, f4⟩ m3 m4
    refine ⟨p2, xs2, m, rv, rfl, dpI hiv, SqL.of hp2, ?_, ?_⟩
    · unfold atI; rw [hlen, hk]; exact g1
    refine hy _ σ H1 h3 _ fun jv H2 h5 => ?_
    obtain ⟨HFj, _, hjv⟩ := h5.one
    have h6 := h5.pop
    obtain ⟨HF', o', o1', o2', m1', ⟨p2', os2', f1', f2', f3', f4'⟩, m3', m4'⟩ := h6.top
    cases f1'
    subst f2'
    obtain ⟨rv', ro', oa', ob', g1', g2', ⟨_, ra, rxs, r1, r2, r3⟩, g4'⟩ := tm_at f3' f4' hLk
    rw [g1] at g1'
    cases g1'
    subst r1 r2 g2'
    have hra := (m1'.own (ra, .lst rxs) (by simp)).1
    refine ⟨ra, rxs, n, j, rfl, dpI hjv, hra, by rw [dpAll_len r3]; exact hj, ?_⟩
    cases m3' with
    | @cons _ _ ov os _ bv tt =>
      obtain ⟨rfl, bv⟩ := bv
      have hl1 : i < env.length := (List.getElem?_eq_some_iff.mp hi).1
      have m6 : Held G HF' ((ra, .lst rxs) :: ((p2, .lst xs2) :: (oa' ++ (ob' ++ (os ++ o2'))))) H2 := m1'.perm (by
        simp only [List.cons_append, List.append_assoc, List.nil_append]
        refine (List.Perm.cons _ List.perm_middle).trans ?_
        exact List.Perm.swap _ _ _)
      have m7 := m6.put (u := .lst (rxs.set j v))
      have m8 : Held G HF' (((p2, .lst xs2) :: (oa' ++ ([(ra, .lst (rxs.set j v))] ++ ob'))) ++ (os ++ o2')) (upd H2 ra (.lst (rxs.set j v))) := m7.perm (by
        simp only [List.cons_append, List.append_assoc, List.nil_append]
        refine (List.Perm.swap _ _ _).trans (List.Perm.cons _ ?_)
        exact List.perm_middle.symm)
      have g5 := g4' [(ra, .lst (rxs.set j v))] ((oL X.K (row.set j d)).at none) ⟨fun _ z => (nomatch z), ra, _, rfl, rfl, dpAll_set bv j r3⟩
      have e5 : (rows.map fun r => (oL X.K r).at none).set k ((oL X.K (row.set j d)).at none) = (rows.set k (row.set j d)).map fun r => (oL X.K r).at none := (List.map_set ..).symm
      rw [e5] at g5
      have m9 := (StA.ofTop (v := .ref p2) (A := (oM X.K (rows.set k (row.set j d))).at q) m8 ⟨hq, p2, xs2, _, rfl, rfl, by rw [f3']; simp, g5⟩ tt m4').back e1 (by rw [List.getElem?_set_self hl1])
      rw [List.set_set] at m9
      exact qq _ _ (fun _ _ => rfl) rfl m9)
/-- several values at once -/
def DGtsA (X : Cx) (G : Reg) (env : Ev) (L : List As) (ts : List Expr) (ws : List Nat) (env' : Ev) : Prop :=
  ∀ (T : List (V × As)) (vs : List V) (σ : St) (H : Hp), vs.length = L.length → StA G (vs.zip L ++ T) env σ H → ∀ Q : St → Hp → Prop, (∀ σ' H', (∀ j, j ∉ ws → σ'[j]? = σ[j]?) → σ'.length = σ.length → StA G T env' σ' H' → Q σ' H') → cGs X ts vs σ H Q
theorem dga_nil : DGtsA X G env [] [] [] env := fun T vs σ H hl hs Q q => of_pgs pgs_nil ⟨List.eq_nil_of_length_eq_zero hl, q σ H (fun _ _ => rfl) rfl (by rw [List.eq_nil_of_length_eq_zero hl] at hs; exact hs)⟩
theorem dga_cons {L : List As} {t : Expr} {ts : List Expr} {ws ws' : List Nat} (h : DGt X G env A t ws env1) (hr : DGtsA X G env1 L ts ws' env2) (hst : (assignEach (t :: ts) X.env).map (·.2) = assign t X.env :: (assignEach ts X.env).map (·.2) := by rfl) : DGtsA X G env (A :: L) (t :: ts) (ws ++ ws') env2 :=
  fun T vs σ H hl hs Q q => by
    cases vs with
    | nil => cases hl
    | cons v vs =>
      refine of_pgs (pgs_cons cG_pg cGs_pgs hst) ⟨v, vs, rfl, ?_⟩
      refine h (vs.zip L ++ T) v σ H hs _ fun σ1 H1 e1 l1 h1 => hr T vs σ1 H1 (by simpa using hl) h1 Q fun σ2 H2 e2 l2 h2 => q σ2 H2 (fun j hj => ?_) (l2.trans l1) h2
      rw [List.mem_append, not_or] at hj
      exact (e2 j hj.2).trans (e1 j hj.1)
def eS (sc : Scope) : Env := { scope := sc, locals := 0, globals := 0, cells := [] }
theorem sw_eq (B : Bx κ X N sc ok) (ts : List Expr) (e : Expr) : swappedStores ts e X.env = swappedStores ts e (eS sc) := by
  unfold swappedStores Env.blockKind Env.kindOf eS
  rw [B.sc_]
/-- a, b, .. = e, f, .. (the pair made) -/
theorem ds_tup {ts es : List Expr} {L : List As} {ws : List Nat} {k k2 : Nat} {pt pt2 : Pos} (B : Bx true X N sc ok) (ha : DA X G env es env1 L) (hg : DGtsA X G env1 L ts ws env2) (hn : (assignEach ts X.env).length = L.length := by rfl) (hst : (assignEach ts X.env).findIdx? (·.1) = none := by rfl) (hz : L.length ≤ sizeLine := by (try simp only [List.length_cons, List.length_nil, List.length_append]); have := sizeLine_eq; omega)
    (hw : swappedStores [.Tuple ts k pt] (.Tuple es k2 pt2) (eS sc) = pure none := by rfl) (hs : swapsWithSole [.Tuple ts k pt] (.Tuple es k2 pt2) pos.line X.env = pure false := by rfl) (h1 : (assignEach [.Tuple ts k pt] X.env).map (·.2) = [assign (.Tuple ts k pt) X.env] := by rfl) :
    DS X G env (.Assign [.Tuple ts k pt] (.Tuple es k2 pt2) pos) (NX env2) := fun T σ H st D d => of_ps (ps_asg (pe_tup cA_pa) (pg_tup B.calm cGs_pgs hn hst) hs ((sw_eq B _ _).trans hw) h1) (ha T σ H st _ fun vs H' hl h' => by
      refine ⟨by rw [hl]; exact hz, fun p hp => ⟨p, vs, rfl, SqT.of upd_same, hl, ?_⟩⟩
      obtain ⟨HF, o1, o2, k1, k2, k3⟩ := h'
      have ex := Ex.new (o := .tup vs) (k1.hf hp)
      exact hg T vs σ _ hl ⟨_, o1, o2, k1.fresh hp, k2.mono ex, k3.mono ex⟩ _ fun σ' H2 _ _ h2 => d.nx _ _ H2 rfl h2)
/-- a, b = e, f with plain local names -/
theorem ds_par2 {y z : Str} {e1 e2 : Expr} {A1 A2 : As} {px py pt : Pos} {kt k2 pt2} (B : Bx true X N sc ok) (i j : Nat) (ha : DA X G env [e1, e2] env1 [A1, A2]) (hi : N[i]? = some y := by rfl) (hj : N[j]? = some z := by rfl) (hij : i ≠ j := by decide) (hy : sc.names.lookup y = some .local := by rfl) (hz : sc.names.lookup z = some .local := by rfl) (hli : i < env1.length := by exact of_decide_eq_true rfl) (hlj : j < env1.length := by exact of_decide_eq_true rfl)
    (hw : swappedStores [.Tuple [.Name y px, .Name z py] kt pt] (.Tuple [e1, e2] k2 pt2) (eS sc) = pure (some [y, z]) := by rfl) (hs : swapsWithSole [.Tuple [.Name y px, .Name z py] kt pt] (.Tuple [e1, e2] k2 pt2) pos.line X.env = pure false := by rfl) :
    DS X G env (.Assign [.Tuple [.Name y px, .Name z py] kt pt] (.Tuple [e1, e2] k2 pt2) pos) (NX ((env1.set i (some A1)).set j (some A2))) := fun T σ H st D d =>
  of_ps (ps_par B.calm (B.N_ ▸ B.nd) (B.N_ ▸ hi) (B.N_ ▸ hj) hij (B.sc_ ▸ hy) (B.sc_ ▸ hz) cA_pa ((sw_eq B _ _).trans hw) hs) (ha T σ H st _ fun vs H' hl h' => by
    obtain ⟨v, w, rfl⟩ := zip2 hl
    have h1 : StA G ((v, A1) :: (w, A2) :: T) env1 σ H' := h'
    exact ⟨v, w, rfl, d.nx _ _ H' rfl ((h1.store hli).store (by simpa using hlj))⟩)
theorem zip3 {vs : List V} {A B C : As} (h : vs.length = [A, B, C].length) : ∃ u v w, vs = [u, v, w] := by
  match vs, h with
  | [u, v, w], _ => exact ⟨u, v, w, rfl⟩
theorem ds_par3 {y z u : Str} {e1 e2 e3 : Expr} {A1 A2 A3 : As} {px py pz pt : Pos} {kt k2 pt2} (B : Bx true X N sc ok) (i j l : Nat) (ha : DA X G env [e1, e2, e3] env1 [A1, A2, A3]) (hi : N[i]? = some y := by rfl) (hj : N[j]? = some z := by rfl) (hl : N[l]? = some u := by rfl) (hij : i ≠ j := by decide) (hil : i ≠ l := by decide) (hjl : j ≠ l := by decide)
    (hy : sc.names.lookup y = some .local := by rfl) (hz : sc.names.lookup z = some .local := by rfl) (hu : sc.names.lookup u = some .local := by rfl) (hli : i < env1.length := by exact of_decide_eq_true rfl) (hlj : j < env1.length := by exact of_decide_eq_true rfl) (hll : l < env1.length := by exact of_decide_eq_true rfl)
    (hw : swappedStores [.Tuple [.Name y px, .Name z py, .Name u pz] kt pt] (.Tuple [e1, e2, e3] k2 pt2) (eS sc) = pure (some [y, z, u]) := by rfl) (hs : swapsWithSole [.Tuple [.Name y px, .Name z py, .Name u pz] kt pt] (.Tuple [e1, e2, e3] k2 pt2) pos.line X.env = pure false := by rfl) :
    DS X G env (.Assign [.Tuple [.Name y px, .Name z py, .Name u pz] kt pt] (.Tuple [e1, e2, e3] k2 pt2) pos) (NX (((env1.set i (some A1)).set j (some A2)).set l (some A3))) := fun T σ H st D d =>
  of_ps (ps_par3 B.calm (B.N_ ▸ B.nd) (B.N_ ▸ hi) (B.N_ ▸ hj) (B.N_ ▸ hl) hij hil hjl (B.sc_ ▸ hy) (B.sc_ ▸ hz) (B.sc_ ▸ hu) cA_pa ((sw_eq B _ _).trans hw) hs) (ha T σ H st _ fun vs H' hl' h' => by
    obtain ⟨v, w, r, rfl⟩ := zip3 hl'
    have h1 : StA G ((v, A1) :: (w, A2) :: (r, A3) :: T) env1 σ H' := h'
    exact ⟨v, w, r, rfl, d.nx _ _ H' rfl (((h1.store hli).store (by simpa using hlj)).store (by simpa using hll))⟩)
end
end DL

set_option maxHeartbeats 4000000
/-! DL10: pop; instances: made, read, stored; own methods. -/
namespace DL
open PySem PySem.Spec PyProof.Rows L2
section
variable {X Y : Cx} {N : List Str} {sc : Scope} {ok : Str → Bool} {G : Reg} {env env1 env2 env3 env' : Ev} {A B S : As} {P R : FP} {e a b : Expr} {es : List Expr} {pos : Pos} {x : Str} {K : PySem.W.Frag} {own : List Nat} {elt : Expr}

/-- the own list of slot i opened, to be changed: its item d leaves it -/
theorem StA.takeL {T : List (V × As)} {σ : St} {H : Hp} {i : Nat} {ds : List PyData} {q : Option V} (h : StA G T env σ H) (hi : env[i]? = some (some ((oL K ds).at q))) :
    ∃ p xs, σ[i]? = some (some (.ref p)) ∧ H p = some (.lst xs) ∧ xs.length = ds.length ∧
      (∀ (k : Nat) (d : PyData) (xs' : List V) (ds' : List PyData), ds[k]? = some d → (∀ HF, DpAll K HF xs ds → DpAll K HF xs' ds') → ∃ v, xs[k]? = some v ∧ StA G ((v, dD K d) :: T) (env.set i (some ((oL K ds').at q))) σ (upd H p (.lst xs'))) := by
  obtain ⟨v, e, h1⟩ := h.take hi
  obtain ⟨HF, o, o1, o2, h2, ⟨hq, p, xs, e1, e2, h3⟩, t, s⟩ := h1.top
  subst e1 e2
  have hp := (h2.own (p, .lst xs) (by simp)).1
  have hl1 : i < env.length := (List.getElem?_eq_some_iff.mp hi).1
  refine ⟨p, xs, e, hp, dpAll_len h3, fun k d xs' ds' hk hd => ?_⟩
  obtain ⟨w, hw, hwd⟩ := dpAll_get h3 hk
  refine ⟨w, hw, ?_⟩
  have k5 := Held.put (u := .lst xs') (o := .lst xs) (by simpa using h2)
  have k6 := (StA.ofTop (o := [(p, .lst xs')]) (o1 := [] ++ o1) (v := .ref p) (A := (oL K ds').at q) (T := (w, dD K d) :: T) (by simpa using k5) ⟨hq, p, xs', rfl, rfl, hd HF h3⟩ (.cons (A := dD K d) ⟨rfl, hwd⟩ t) s).back e (by rw [List.getElem?_set_self hl1])
  rw [List.set_set] at k6
  exact k6
theorem dpAll_dropLast {H : Hp} {xs : List V} {ds : List PyData} (h : DpAll K H xs ds) : DpAll K H xs.dropLast ds.dropLast := by
  rw [List.dropLast_eq_take, List.dropLast_eq_take, dpAll_len h]
  exact dpAll_take _ h
theorem dpAll_eraseIdx {H : Hp} : ∀ {xs : List V} {ds : List PyData} (k : Nat), DpAll K H xs ds → DpAll K H (xs.eraseIdx k) (ds.eraseIdx k)
  | _, _, _, .nil => .nil
  | _, _, 0, .cons _ t => t
  | _, _, k + 1, .cons a t => .cons a (dpAll_eraseIdx k t)
/-- x.pop() -/
theorem de_pop {q : Option V} {ds : List PyData} {d : PyData} {y : Str} {py apos cpos : Pos} (B : Bx κ X N sc ok) (i : Nat) (hd' : ds[ds.length - 1]? = some d) (hi : env[i]? = some (some ((oL X.K ds).at q)) := by rfl) (hN : N[i]? = some y := by rfl)
    (hv : Vis sc y := by first | exact Or.inl rfl | exact Or.inr (Or.inl rfl) | exact Or.inr (Or.inr rfl)) (hd : (y == ("__debug__" : Str)) = false := by decide) (hcd : (y == ("__classdict__" : Str)) = false := by decide)
    (hbase : attributeBase (.Name y py) "pop" X.env (eval (.Name y py) X.env) = eval (.Name y py) X.env := by rfl) (hline : (apos.endLine == cpos.line) = true := by rfl) :
    DE X G env (.Call (.Attribute (.Name y py) "pop" apos) [] [] cpos) (env.set i (some ((oL X.K ds.dropLast).at q))) (dD X.K d) :=
  de_of (pe_bm0 PySem.F.plainAttrs_list PySem.F.slot_list_pop PySem.F.type_list_pop mt_pop (pe_var (B.N_ ▸ hN) (B.sc_ ▸ hv) hd hcd) hbase hline) fun T σ H hs Q qq => by
    obtain ⟨p, xs, e1, h1, hl, k⟩ := hs.takeL hi
    obtain ⟨v, e2, st⟩ := k _ d xs.dropLast ds.dropLast hd' fun HF h => dpAll_dropLast h
    exact ⟨_, e1, .inl ⟨rfl, xs, SqL.of h1⟩, p, xs, v, rfl, rfl, h1, by rw [hl]; exact e2, qq _ _ st⟩
/-- x.pop(m) -/
theorem de_popAt {q : Option V} {ds : List PyData} {d : PyData} {m : Nat} {y : Str} {py apos cpos : Pos} (B : Bx κ X N sc ok) (i : Nat) (he : DE X G env e env1 (dD X.K (.int (m : Int)))) (hd' : ds[m]? = some d) (hz : ds.length ≤ sizeLine) (hi : env1[i]? = some (some ((oL X.K ds).at q)) := by rfl) (hi0 : ∃ ds0 q0, env[i]? = some (some ((oL X.K ds0).at q0)) := by exact ⟨_, _, rfl⟩) (hN : N[i]? = some y := by rfl)
    (hv : Vis sc y := by first | exact Or.inl rfl | exact Or.inr (Or.inl rfl) | exact Or.inr (Or.inr rfl)) (hd : (y == ("__debug__" : Str)) = false := by decide) (hcd : (y == ("__classdict__" : Str)) = false := by decide)
    (hbase : attributeBase (.Name y py) "pop" X.env (eval (.Name y py) X.env) = eval (.Name y py) X.env := by rfl)
    (hfew : ((backTo cpos (starEach [e] X.env)).all (fun x => !x.1) && (backToKw cpos (keywordEach [] X.env)).all (fun x => x.1.isSome) && decide ([e].length + ([] : List Keyword).length + (if ([] : List Keyword).isEmpty then 0 else 1) < 30)) = true := by rfl)
    (hline : (apos.endLine == cpos.line) = true := by rfl) (hs : starEach [e] X.env = (false, eval e X.env) :: starEach [] X.env := by rfl) (hplain : (backTo cpos (starEach [] X.env)).any (·.1) = false := by rfl) :
    DE X G env (.Call (.Attribute (.Name y py) "pop" apos) [e] [] cpos) (env1.set i (some ((oL X.K (ds.eraseIdx m)).at q))) (dD X.K d) :=
  de_of (pe_bm PySem.F.plainAttrs_list PySem.F.slot_list_pop PySem.F.type_list_pop mt_popAt (pe_var (B.N_ ▸ hN) (B.sc_ ▸ hv) hd hcd) (pa_cons cE_pe pa_nil hs) hbase hfew hline hs hplain) fun T σ H hs Q qq => by
    obtain ⟨ds0, q0, hi0⟩ := hi0
    obtain ⟨p, xs, e1, h1, _⟩ := hs.takeL hi0
    refine ⟨_, e1, .inl ⟨rfl, xs, SqL.of h1⟩, he T σ H hs _ fun v H1 k1 => ?_⟩
    obtain ⟨HFv, _, hv⟩ := k1.one
    obtain ⟨p', xs', e2, h2, hl, k⟩ := k1.pop.takeL hi
    rw [e1] at e2; cases e2
    obtain ⟨w, e3, st⟩ := k m d (xs'.eraseIdx m) (ds.eraseIdx m) hd' fun HF h => dpAll_eraseIdx m h
    have hm : m < xs'.length := (List.getElem?_eq_some_iff.mp e3).1
    have hsz := sizeLine_eq
    exact ⟨p, xs', (m : Int), m, w, rfl, by rw [dpI hv], h2, by omega, by omega, by rw [seqIndex_of (by omega) (by omega)]; simp, e3, qq _ _ st⟩

/-! ### instances -/
def isI (C : Addr) (fs : List (Str × FP)) : FP := ⟨fun H v => ∃ a dx vs, v = .ref a ∧ H a = some (.ins C dx ((fs.map Prod.fst).zip vs)) ∧ All2 H vs (fs.map Prod.snd), fun e ⟨a, dx, vs, h1, h2, h3⟩ => ⟨a, dx, vs, h1, e _ _ h2, h3.mono e⟩⟩
def oI (C : Addr) (fs : List (Str × FP)) : As := ⟨fun H v o => ∃ a dx vs, v = .ref a ∧ o = [(a, .ins C dx ((fs.map Prod.fst).zip vs))] ∧ All2 H vs (fs.map Prod.snd), fun e ⟨a, dx, vs, h1, h2, h3⟩ => ⟨a, dx, vs, h1, h2, h3.mono e⟩, isI C fs,
  fun {H H' v o} e k ⟨a, dx, vs, h1, h2, h3⟩ => by
    subst h1 h2
    exact ⟨a, dx, vs, rfl, k (a, HO.ins C dx ((fs.map Prod.fst).zip vs)) (List.mem_singleton.mpr rfl), h3.mono e⟩⟩
def putP (f : Str) (P : FP) : List (Str × FP) → List (Str × FP)
  | [] => [(f, P)]
  | (g, R) :: fs => if g = f then (g, P) :: fs else (g, R) :: putP f P fs
theorem putF_zip {HF : Hp} {f : Str} {v : V} (hv : P.p HF v) : ∀ {fs : List (Str × FP)} {vs : List V}, All2 HF vs (fs.map Prod.snd) → ∃ vs', putF f v ((fs.map Prod.fst).zip vs) = ((putP f P fs).map Prod.fst).zip vs' ∧ All2 HF vs' ((putP f P fs).map Prod.snd)
  | [], [], _ => ⟨[v], rfl, hv, trivial⟩
  | [], _ :: _, h => h.elim
  | _ :: _, [], h => h.elim
  | (g, R) :: fs, w :: vs, h => by
    by_cases hg : g = f
    · refine ⟨v :: vs, ?_, ?_⟩
      · simp only [putP, List.map_cons, List.zip_cons_cons, putF, if_pos hg]
      · simp only [putP, if_pos hg, List.map_cons]; exact ⟨hv, h.2⟩
    · obtain ⟨vs', h1, h2⟩ := putF_zip (f := f) hv (fs := fs) (vs := vs) h.2
      refine ⟨w :: vs', ?_, ?_⟩
      · simp only [putP, List.map_cons, List.zip_cons_cons, putF, if_neg hg, h1]
      · simp only [putP, if_neg hg, List.map_cons]; exact ⟨h.1, h2⟩
theorem lookup_zip {H : Hp} {f : Str} : ∀ {fs : List (Str × FP)} {vs : List V}, All2 H vs (fs.map Prod.snd) → fs.lookup f = some P → ∃ v, ((fs.map Prod.fst).zip vs).lookup f = some v ∧ P.p H v
  | [], _, _, h => by simp at h
  | _ :: _, [], h, _ => h.elim
  | (g, R) :: fs, w :: vs, h, hl => by
    simp only [List.lookup_cons] at hl
    simp only [List.map_cons, List.zip_cons_cons, List.lookup_cons]
    cases hb : f == g with
    | true =>
      rw [hb] at hl
      cases hl
      exact ⟨w, rfl, h.1⟩
    | false =>
      rw [hb] at hl
      exact lookup_zip h.2 hl
theorem lookup_zip_none {H : Hp} {f : Str} : ∀ {fs : List (Str × FP)} {vs : List V}, All2 H vs (fs.map Prod.snd) → fs.lookup f = none → ((fs.map Prod.fst).zip vs).lookup f = none
  | [], [], _, _ => rfl
  | [], _ :: _, h, _ => h.elim
  | _ :: _, [], h, _ => h.elim
  | (g, R) :: fs, w :: vs, h, hl => by
    simp only [List.lookup_cons] at hl
    simp only [List.map_cons, List.zip_cons_cons, List.lookup_cons]
    cases hb : f == g with
    | true => rw [hb] at hl; cases hl
    | false => rw [hb] at hl; exact lookup_zip_none h.2 hl
/-- e.f -/
theorem de_fld {C : Addr} {fs : List (Str × FP)} {f : Str} (h : DE X G env e env1 A) (hc : Cls X.K C) (hn : NoAttr X.K C f) (hA : A.fr = isI C fs := by rfl) (hl : fs.lookup f = some P := by rfl) (hb : attributeBase e f X.env (eval e X.env) = eval e X.env := by rfl) : DE X G env (.Attribute e f pos) env1 (.fz P) :=
  de_of (pe_fld cE_pe hb) fun T σ H hs Q q => h T σ H hs _ fun v H1 h1 => by
    have h2 := h1.freeze
    rw [hA] at h2
    obtain ⟨HF, o1, o2, k1, ⟨a, dx, vs, e1, e2, e3⟩, t, s⟩ := h2.one'
    obtain ⟨w, e4, e5⟩ := lookup_zip e3 hl
    exact ⟨a, C, dx, _, w, e1, k1.inH _ _ e2, hc, hn, e4, q w H1 ⟨HF, [] ++ o1, o2, k1, .cons (A := .fz P) ⟨rfl, e5⟩ t, s⟩⟩
/-- x.f, x a name's own instance -/
theorem de_fldO {C : Addr} {fs : List (Str × FP)} {f : Str} {q : Option V} {y : Str} {py : Pos} (B : Bx κ X N sc ok) (i : Nat) (hc : Cls X.K C) (hn : NoAttr X.K C f) (hi : env[i]? = some (some ((oI C fs).at q)) := by rfl) (hl : fs.lookup f = some P := by rfl) (hN : N[i]? = some y := by rfl)
    (hv : Vis sc y := by first | exact Or.inl rfl | exact Or.inr (Or.inl rfl) | exact Or.inr (Or.inr rfl)) (hd : (y == ("__debug__" : Str)) = false := by decide) (hcd : (y == ("__classdict__" : Str)) = false := by decide)
    (hb : attributeBase (.Name y py) f X.env (eval (.Name y py) X.env) = eval (.Name y py) X.env := by rfl) : DE X G env (.Attribute (.Name y py) f pos) env (.fz P) :=
  de_of (pe_fld (pe_var (B.N_ ▸ hN) (B.sc_ ▸ hv) hd hcd) hb) fun T σ H hs Q qq => by
    obtain ⟨v, e1, h1⟩ := hs.take hi
    obtain ⟨HF, o, o1, o2, h2, ⟨hq, a, dx, vs, f1, f2, f3⟩, t, s⟩ := h1.top
    subst f1 f2
    have hp := (h2.own (a, HO.ins C dx ((fs.map Prod.fst).zip vs)) (by simp)).1
    obtain ⟨w, e4, e5⟩ := lookup_zip f3 hl
    have hl1 : i < env.length := (List.getElem?_eq_some_iff.mp hi).1
    refine ⟨_, e1, a, C, dx, _, w, rfl, hp, hc, hn, e4, qq w H ?_⟩
    have k6 := (StA.ofTop (o := [(a, HO.ins C dx ((fs.map Prod.fst).zip vs))]) (o1 := [] ++ o1) (v := .ref a) (A := (oI C fs).at q) (T := (w, .fz P) :: T) h2 ⟨hq, a, dx, vs, rfl, rfl, f3⟩ (.cons (A := .fz P) ⟨rfl, e5⟩ t) s).back e1 (by rw [List.getElem?_set_self hl1])
    rw [List.set_set] at k6
    have : env.set i (some ((oI C fs).at q)) = env := by
      apply List.ext_getElem?
      intro j
      by_cases hj : i = j
      · subst hj; rw [List.getElem?_set_self hl1, hi]
      · rw [List.getElem?_set_ne hj]
    rw [this] at k6
    exact k6
/-- x.f = e, x a name's own instance -/
theorem ds_fld {C : Addr} {fs : List (Str × FP)} {f : Str} {q : Option V} {y : Str} {py pos' : Pos} (B : Bx κ X N sc ok) (i : Nat) (he : DE X G env e env1 A) (hc : Cls X.K C) (hn : NoAttr X.K C f) (hi : env1[i]? = some (some ((oI C fs).at q)) := by rfl) (hz : fs.length < 1000 := by decide) (hN : N[i]? = some y := by rfl)
    (hv : Vis sc y := by first | exact Or.inl rfl | exact Or.inr (Or.inl rfl) | exact Or.inr (Or.inr rfl)) (hd : (y == ("__debug__" : Str)) = false := by decide) (hcd : (y == ("__classdict__" : Str)) = false := by decide)
    (hs : swapsWith e (some (.Attribute (.Name y py) f pos')) pos.line X.env = pure false := by rfl) : DS X G env (.Assign [.Attribute (.Name y py) f pos'] e pos) (NX (env1.set i (some ((oI C (putP f A.fr fs)).at q)))) :=
  fun T σ H st D d => of_ps (ps_fld (pe_var (B.N_ ▸ hN) (B.sc_ ▸ hv) hd hcd) cE_pe hs) (he T σ H st _ fun v H1 h1 => by
    obtain ⟨w, e1, h2⟩ := h1.freeze.take hi
    obtain ⟨HF, o, o1, o2, h3, ⟨hq, a, dx, vs, f1, f2, f3⟩, t, s⟩ := h2.top
    subst f1 f2
    have hp := (h3.own (a, HO.ins C dx ((fs.map Prod.fst).zip vs)) (by simp)).1
    cases t with
    | @cons _ _ ov os _ bv tt =>
      obtain ⟨rfl, bv⟩ := bv
      obtain ⟨vs', g1, g2⟩ := putF_zip (f := f) bv f3
      have hl1 : i < env1.length := (List.getElem?_eq_some_iff.mp hi).1
      refine ⟨_, e1, a, C, dx, _, rfl, hp, hc, hn, ?_, d.nx _ _ _ rfl ?_⟩
      · have := f3.len
        simp only [List.length_map] at this
        rw [List.length_zip, List.length_map, this]; omega
      · have h4 : Held G HF ((a, HO.ins C dx (((putP f A.fr fs).map Prod.fst).zip vs')) :: (os ++ o2)) (upd H1 a (.ins C dx (((putP f A.fr fs).map Prod.fst).zip vs'))) := Held.put (o := .ins C dx ((fs.map Prod.fst).zip vs)) (by simpa using h3)
        have k6 := (StA.ofTop (o := [(a, HO.ins C dx (((putP f A.fr fs).map Prod.fst).zip vs'))]) (v := .ref a) (A := (oI C (putP f A.fr fs)).at q) h4 ⟨hq, a, dx, vs', rfl, rfl, g2⟩ tt s).back e1 (by rw [List.getElem?_set_self hl1])
        rw [List.set_set] at k6
        rw [g1]
        exact k6)
/-- C(e, ..): what its __init__ leaves -/
theorem cd_make {CX : CXT} {k : Nat} {f C : Addr} {fd : FuncData} {ps : List Str} {ι : Type} {args : ι → List Arg} {ret : ι → As} {fs : List (Str × FP)} {rest : List Arg} (M : Mk X.K C f) (F : FnOk X.prog X.w X.K X.mg X.base CX k f fd ps (spD args ret)) (hr : Room (k + 1) X.A) (hb : Binds X.K fd ps []) {E : XK} (hx : Passes CX X E) (i : ι)
    (hargs : args i = .l (oI C []) (oI C fs) :: rest) (hret : ret i = dD X.K .none) : CallD X (.ref C) (rest.map Arg.pre) (rest.map Arg.aft) ((oI C fs).at none) := by
  refine ⟨by simp, fun vs H Q => ∀ x dx, H x = none → H dx = none → dx ≠ x → spD args ret (.ref x :: vs) (upd (upd H dx (.own x)) x (.ins C dx [])) (fun v H2 => v = .non ∧ Q (.ref x) H2) E, fun pins s σ H vs us Q I r h => run_make M F hr hb .nil hx I r (fun x dx h1 h2 h3 => by rw [List.append_nil]; exact h x dx h1 h2 h3), fun G T env σ H vs hl h Q q x dx hx0 hd0 hne => ?_⟩
  obtain ⟨HF, o1, o2, h1, h2, h3⟩ := h
  obtain ⟨oa, ob, e, h4, h5⟩ := h2.split
  subst e
  rw [List.append_assoc] at h1
  have hf1 : HF dx = none := h1.hf hd0
  have h6 := h1.fresh (o := .own x) hd0
  have hx1 : upd H dx (.own x) x = none := by rw [upd_ne (Ne.symm hne)]; exact hx0
  have h7 := h6.freshO (o := .ins C dx []) hx1
  have ex1 := Ex.new (o := HO.own x) hf1
  have h8 : Held G (upd HF dx (.own x)) (((x, .ins C dx []) :: oa) ++ (ob ++ o2)) (upd (upd H dx (.own x)) x (.ins C dx [])) := h7
  refine ⟨i, upd HF dx (.own x), (x, .ins C dx []) :: oa, ?_, h8.give, ?_, fun v H' HF' p1 p2 k1 kr ka => ?_⟩
  · rw [hargs]; simpa using hl
  · rw [hargs]
    exact Tm.cons (A := (oI C []).at none) (o := [(x, .ins C dx [])]) ⟨fun _ z => (nomatch z), x, dx, [], rfl, rfl, trivial⟩ (h4.mono ex1)
  · rw [hret] at kr
    obtain ⟨rfl, kr⟩ := kr
    refine ⟨dpN kr, q _ H' ?_⟩
    have h9 := h8.after k1
    rw [hargs] at ka
    have ex2 : Ex (upd HF dx (.own x)) HF' := k1.sub
    cases (show Tm HF' p2 ((.ref x, (oI C fs).at none) :: vs.zip (rest.map Arg.aft)) from ka) with
    | @cons _ _ q1 q2 _ b1 b2 =>
      refine StA.ofTop (o := q1) (o1 := q2 ++ ob) (o2 := o2) ?_ b1 (b2.join (h5.mono (ex1.trans ex2))) (h3.mono (ex1.trans ex2))
      simpa only [List.nil_append, List.append_assoc] using h9
/-- o.m(e, ..), the method's call told by values -/
def tMethG (C : Addr) (m : Str) (r : List V → Hp → VK → Prop) (ta : TE) (t : TA) : TE := fun σ H Q => ta σ H fun x H1 => ∃ a dx fs, x = .ref a ∧ H1 a = some (.ins C dx fs) ∧ fs.lookup m = none ∧ t σ H1 fun vs H2 => r (x :: vs) H2 Q
theorem pe_methG {C f : Addr} {m : Str} {o : Expr} {apos : Pos} {ta : TE} {t : TA} {r : List V → Hp → VK → Prop} {pl : Sem Bool} (he : PE X o ta) (c : Cls X.K C) (hm : Meth X.K C m f) (F : CallR X (.ref f) r) (ha : PA X (e :: es) t)
    (hst : starEach (e :: es) X.env = (false, eval e X.env) :: starEach es X.env := by rfl) (hpl : (backTo pos (starEach es X.env)).any Prod.fst = false := by rfl)
    (ht : eval (.Call (.Attribute o m apos) (e :: es) [] pos) X.env = (do
      let ov ← eval o X.env
      standAt apos.atName
      let (f, first) ← holding [ov] (getMethod ov m pl)
      callWith pos f first (backTo pos (starEach (e :: es) X.env)) (backToKw pos (keywordEach [] X.env))) := by rfl) :
    PE X (.Call (.Attribute o m apos) (e :: es) [] pos) (tMethG C m r ta t) := by
  refine ⟨fun pins s σ H Q I h => ?_⟩
  refine PySem.W.methodCall_KW (pl := pl) (thn (he.run pins s σ H _ I h) fun u s1 ⟨x, H1, I1, rx, a, dx, fs, ex, ea, l, q⟩ => ?_) ht
  subst ex
  obtain rfl : u = Value.ref a := rx
  refine getmeth_ok I1 ea c hm l ?_
  refine PySem.W.callWith_K (first := [.ref a]) (h₀ := X.base) I.ok.mod.kin hm.kp (thn (ha.run pos pins s1 σ H1 _ I1 q) fun us s2 ⟨vs, H2, I2, r, q2⟩ => ⟨I2.kIn, ?_⟩) hst hpl
  exact F pins s2 σ H2 (.ref a :: vs) (.ref a :: us) Q I2 (.cons rfl r) q2
theorem pe_methG0 {C f : Addr} {m : Str} {o : Expr} {apos : Pos} {ta : TE} {r : List V → Hp → VK → Prop} {pl : Sem Bool} (he : PE X o ta) (c : Cls X.K C) (hm : Meth X.K C m f) (F : CallR X (.ref f) r)
    (ht : eval (.Call (.Attribute o m apos) [] [] pos) X.env = (do
      let ov ← eval o X.env
      standAt apos.atName
      let (f, first) ← holding [ov] (getMethod ov m pl)
      callWith pos f first (backTo pos (starEach [] X.env)) (backToKw pos (keywordEach [] X.env))) := by rfl) :
    PE X (.Call (.Attribute o m apos) [] [] pos) (tMethG C m r ta tNil) := by
  refine ⟨fun pins s σ H Q I h => ?_⟩
  refine PySem.W.methodCall_KW (pl := pl) (thn (he.run pins s σ H _ I h) fun u s1 ⟨x, H1, I1, rx, a, dx, fs, ex, ea, l, q⟩ => ?_) ht
  subst ex
  obtain rfl : u = Value.ref a := rx
  refine getmeth_ok I1 ea c hm l ?_
  exact PySem.W.callWith_K0 (first := [.ref a]) I1.kIn hm.kp (F pins s1 σ H1 [.ref a] [.ref a] Q I1 (.cons rfl .nil) q)
/-- e.m(), e told an instance -/
theorem de_meth0 {C f : Addr} {fs : List (Str × FP)} {m : Str} {apos : Pos} {aft : List As} {pl : Sem Bool} (h : DE X G env e env1 A) (hc : Cls X.K C) (hm : Meth X.K C m f) (Cd : CallD X (.ref f) [.fz (isI C fs)] aft S) (hA : A.fr = isI C fs := by rfl) (hl : fs.lookup m = none := by rfl)
    (ht : eval (.Call (.Attribute e m apos) [] [] pos) X.env = (do
      let ov ← eval e X.env
      standAt apos.atName
      let (f, first) ← holding [ov] (getMethod ov m pl)
      callWith pos f first (backTo pos (starEach [] X.env)) (backToKw pos (keywordEach [] X.env))) := by rfl) : DE X G env (.Call (.Attribute e m apos) [] [] pos) env1 S := by
  obtain ⟨hl', r, hr, k⟩ := Cd
  refine de_of (pe_methG0 cE_pe hc hm hr ht) fun T σ H hs Q q => h T σ H hs _ fun v H1 h1 => ?_
  have h2 := h1.freeze
  rw [hA] at h2
  obtain ⟨HF, o1, o2, k1, ⟨a, dx, vs, e1, e2, e3⟩, t, s⟩ := h2.one'
  subst e1
  exact ⟨a, dx, _, rfl, k1.inH _ _ e2, lookup_zip_none e3 hl, k G T env1 σ H1 [.ref a] rfl h2 Q fun w H' h' => q w H' (StA.popN1 (vs := [.ref a]) (As' := aft) h')⟩
end
end DL

set_option maxHeartbeats 4000000
/-! DL11: texts walked; enumerate of lists and tuples; signs in texts. -/
namespace DL
open PySem PySem.Spec PyProof.Rows L2

set_option maxHeartbeats 1000000 in
theorem meets_enumerate_newB1 {v : Value} {o : Obj} {H : Heap → Prop} (B : Begins v o H) :
    Meets (Builtin.«enumerate.__new__» ⟨[.type "enumerate", v], []⟩) (fun _ R s => H s.heap ∧
      R (.ok (.ret (.ref (s.heap.push o).objs.size))) { s with heap := (s.heap.push o).push { cls := .type "enumerate", data := .fields #[.none, .bool false, .ref s.heap.objs.size, rawInt 0, .none, .none] } }) :=
  .of_wp fun prog w A R s h => by
    obtain ⟨hp, g, d, tk, os⟩ := s; obtain ⟨h1, h⟩ := h
    have hsub := sub_enumerate
    have q1 : ∀ {A' : Around} {E : Value → Shared → Prop} {Q : Value → Shared → Prop}, Q (.ref hp.objs.size) ⟨hp.push o, g, d, tk, os⟩ → wpAny (model prog w) A' (pyIter v) Q E ⟨hp, g, d, tk, os⟩ :=
      fun q => B.iter prog w _ _ ⟨hp, g, d, tk, os⟩ _ h1 q
    wp_walk using q1
    refine wpAny_stack_any fun st => wpAny_pure ?_
    split
    · rename_i c _ _ _ _ _
      cases (c == Value.type "enumerate")
      · wp_walk using q1
        exact ⟨_, rfl, h⟩
      · wp_walk using q1
        exact ⟨_, rfl, h⟩
    · wp_walk using q1
      exact ⟨_, rfl, h⟩
theorem enum_begins1 {prog : Program} {w : World} {A : Around} {E : Value → Shared → Prop} {s : Shared} {v : Value} {o : Obj} {H : Heap → Prop} {Q : Value → Shared → Prop} (B : Begins v o H) (h1 : H s.heap)
    (h : ∀ h', IsEnum h' (s.heap.objs.size + 1) s.heap.objs.size 0 .none → h'.get? s.heap.objs.size = some o → h'.objs.size = s.heap.objs.size + 2 →
      (∀ b o, s.heap.get? b = some o → h'.get? b = some o) → Q (.ref (s.heap.objs.size + 1)) { s with heap := h' }) :
    wpAny (model prog w) A (call (.type "enumerate") [v]) Q E s := by
  refine callType_new F.called_enumerate (by decide) (F.typeCall_enumerate_1 _) (F.newCall_enumerate_1 _) (fun obj => F.args_object_init_2 obj _) F.entry_enumerate_new
    (meets_enumerate_newB1 B) ⟨h1, ?_⟩
  have hz : (s.heap.push o).objs.size = s.heap.objs.size + 1 := Heap.size_push ..
  show _ ∧ _
  rw [hz]
  have he : IsEnum ((s.heap.push o).push { cls := .type "enumerate", data := .fields #[.none, .bool false, .ref s.heap.objs.size, rawInt 0, .none, .none] }) (s.heap.objs.size + 1) s.heap.objs.size 0 .none := by
    have := Heap.get?_push_size (s.heap.push o) (o := { cls := .type "enumerate", data := .fields #[.none, .bool false, .ref s.heap.objs.size, rawInt 0, .none, .none] }) rfl
    rw [hz] at this; exact this
  refine ⟨⟨_, he, rfl⟩, h _ he (Heap.get?_push_of_some _ (Heap.get?_push_size _ B.free)) (by rw [Heap.size_push, hz]) fun b o x => Heap.get?_push_of_some _ (Heap.get?_push_of_some _ x)⟩

theorem pyNext_enum_endT {prog : Program} {w : World} {A : Around} {E : Value → Shared → Prop} {s : Shared} {e it t : Addr} {n : Nat} {i : Int} {old : Value} {items : Array Value} {Q : Option Value → Shared → Prop} (hh : A.in1.handled = none)
    (he : IsEnum s.heap e it i old) (hit : s.heap.IsTupleIter it t n) (ht : s.heap.IsTuple t items) (hx : items[n]? = none)
    (hQ : ∀ h', Heap.ExtBut it s.heap h' → Q none { s with heap := h' }) : wpAny (model prog w) A (pyNext (.ref e)) Q E s := by
  have hT : s.TypeIs (.ref e) "enumerate" := ⟨_, he, rfl⟩
  unfold pyNext
  refine wpAny_bind (wpAny_attempt (wpAny_callSpecial?_slot (name := Str.ofString "__next__") hT F.slot_enumerate_next
    (wpAny_call_entry F.slot_enumerate_next hT F.entry_enumerate_next ?_ (F.args_enumerate_next_1 _))))
  show wpAny _ _ (field (.ref e) 2 >>= _) _ _ _
  refine wpAny_bind (wpAny_field he rfl (x := .ref it) rfl ?_)
  refine wpAny_bind (wpAny_nextOf_tuple_end hh hit ht hx fun h' x he' hx' => ?_)
  obtain ⟨o, ho, hc⟩ := hx'
  refine wpAny_bind (wpAny_isInstance (T := "StopIteration") (b := true) ⟨o, ho, hc⟩ isSubtype_stop ?_)
  exact wpAny_pure (hQ _ he')
/-- the tuple at a, each item in a new pair -/
def IteT (K : PySem.W.Frag) (a : Addr) : It :=
  ⟨fun i H => ∃ (xs : List V) (x : V), SqT K H a xs ∧ xs[i]? = some x, fun i H v H' => ∃ T x, v = .ref T ∧ H T = none ∧ H' = upd H T (.tup [.int (i : Nat), x]) ∧ ∀ xs, SqT K H a xs → xs[i]? = some x, fun i H => ∃ xs : List V, SqT K H a xs ∧ xs.length ≤ i⟩
theorem turn_enumT {P : Program} {w : World} {K : PySem.W.Frag} {elts : List Expr} {kk : Nat} {tpos : Pos} (a e it : Addr) :
    Turn P w K (.Tuple elts kk tpos) (IteT K a) [e, it] e (fun i h => (∃ old, IsEnum h e it ((i : Nat) : Int) old) ∧ h.IsTupleIter it a i ∧ e ≠ it ∧ a ≠ it) where
  mem := by simp
  obj := fun i h st b hb => by
    obtain ⟨⟨old, he⟩, ⟨o, ho, hc, hd⟩, _⟩ := st
    have e' : b = e ∨ b = it := by simpa using hb
    rcases e' with z | z
    · rw [z]; exact ⟨_, he, fun v q => nomatch q⟩
    · rw [z]; exact ⟨o, ho, fun v q => by rw [hd] at q; cases q⟩
  keep := fun i h h' st k => let ⟨⟨old, he⟩, hi, hne⟩ := st; ⟨⟨old, k e (by simp) _ he⟩, hi.at fun o q => k it (by simp) o q, hne⟩
  item := by
    intro X hP hw hK hc i pins s σ H E I hf st hg
    subst hP hw hK
    obtain ⟨⟨old, he⟩, hit, hne, hna⟩ := st
    obtain ⟨xs, x, hq, hx⟩ := hg
    obtain ⟨its, rv, p, hz⟩ := I.tuple hq
    obtain ⟨u, hu, ru⟩ := rv.get hx
    have hel : e < s.heap.objs.size := Heap.lt_size he
    have hil : it < s.heap.objs.size := by obtain ⟨_, q, _⟩ := hit; exact Heap.lt_size q
    have hD := Draws.tuple (prog := X.prog) (w := X.w) (A := X.A.in1) (I.ok.hd hc) it a hna its.toArray
    have hu' : its.toArray[i]? = some u := by simpa using hu
    have hlt : i < its.toArray.size := (Array.getElem?_eq_some_iff.mp hu').1
    by_cases hea : e = a
    · subst hea
      obtain ⟨o2, q1, q2, _⟩ := p
      have he2 : s.heap.get? e = some _ := he
      rw [he2] at q1
      cases q1
      exact absurd q2 (by simp)
    refine wpAny_pyNext_enum_itemD hD he ⟨hit, p⟩ hlt hne (by simp [hne, hea]) fun y h' tk hy ho st' hT hsz hk => ?_
    rw [hu'] at hy; cases hy
    refine ⟨_, rfl, wpAny_letOwnedTupleGo_enum (s := { s with heap := h', toks := tk + 1 }) ho fun h'' he' sb => ?_⟩
    have hT2 : h''.get? s.heap.objs.size = some { cls := .type "tuple", data := .seq #[.int i tk, u] } := (sb.2 _ (Nat.ne_of_gt hel)).trans hT
    have new : ObjOk X.prog X.w (upd H s.heap.objs.size (.tup [.int (i : Nat), x])) h'' s.heap.objs.size (.tup [.int (i : Nat), x]) :=
      ⟨by show 2 ≤ sizeLine; decide, [.int i tk, u], .cons ⟨_, rfl⟩ (.cons ru .nil), ⟨_, hT2, rfl, _, rfl⟩⟩
    have I1 : Inv X pins σ (upd H s.heap.objs.size (.tup [.int (i : Nat), x])) { s with heap := h'', toks := tk + 1 } :=
      I.turnedNew (ch := [e, it]) (fun b ob hb q => (sb.2 b (fun z => hb (by simp [z]))).trans (hk b ob (fun z => hb (by simp [z])) (fun z => hb (by simp [z])) q)) hf (Nat.le_refl _) new
    refine ⟨.ref s.heap.objs.size, _, I1, rfl, ⟨_, x, rfl, I.hok.fresh (Nat.le_refl _), rfl, fun ys hy => by rw [I.tuple_inj hy hq]; exact hx⟩, ⟨⟨u, ?_⟩, st'.1.at fun o q => (sb.2 it (Ne.symm hne)).trans q, hne, hna⟩, fun b hb => ?_⟩
    · have e1 : ((i + 1 : Nat) : Int) = (i : Int) + 1 := by omega
      rw [e1]; exact he'
    · have hb' : b < s.heap.objs.size := by
        have e' : b = e ∨ b = it := by simpa using hb
        rcases e' with z | z
        · rw [z]; exact hel
        · rw [z]; exact hil
      rw [upd_ne (Nat.ne_of_lt hb')]
      exact (hf b hb).1
  done := by
    intro X hP hw hK hc i pins s σ H E I hf st hg
    subst hP hw hK
    obtain ⟨⟨old, he⟩, hit, hne, hna⟩ := st
    obtain ⟨xs, hq, hx⟩ := hg
    obtain ⟨its, rv, p, hz⟩ := I.tuple hq
    obtain ⟨f0, f1, f2, f3, f4, f5⟩ := hf it (by simp)
    have hl := rv.length
    exact pyNext_enum_endT (I.ok.hd hc) he hit p (by simp; omega) fun h' eb => ⟨rfl, I.turned (t' := s.toks) (fun b o hb q => eb b o hb q) f0 f1 f3 f4 f5⟩
  self := fun A i s Q E st h => let ⟨⟨_, he⟩, _⟩ := st; wpAny_pyIter_enum he h
def iEnumT (K : PySem.W.Frag) (ta : TA) : TI := fun σ H R => ta σ H fun vs H1 => ∃ a xs, vs = [.ref a] ∧ SqT K H1 a xs ∧ R (IteT K a) H1
theorem pi_enumT {X : Cx} {e : Expr} {ta : TA} {p pos tpos : Pos} {elts : List Expr} {kk : Nat} (hg : Gl X "enumerate") (hm : X.mg "enumerate" = none) (ha : PA X [e] ta) (hs : starEach [e] X.env = [(false, eval e X.env)] := by rfl) :
    PI X (.Tuple elts kk tpos) (.Call (.Name "enumerate" p) [e] [] pos) (iEnumT X.K ta) := by
  refine ⟨fun pins s σ H R I h => ?_⟩
  refine Call_ (ld_blt I hg hm boot_enumerate (PyProof.Rows.callWith_type1 (thn (ha.run pos pins s σ H _ I h) fun us s1 ⟨vs, H1, I1, r1, q1⟩ => ?_) hs rfl))
  obtain ⟨a, xs, ex, hq, q⟩ := q1
  subst ex
  cases r1 with
  | cons r rr =>
    cases rr
    cases r
    obtain ⟨its, rv, p', hz⟩ := I1.tuple hq
    refine enum_begins1 (begins_tuple a _) p' fun h' he hit hsz hk => wpAny_pyIter_enum he ?_
    have I2 : Inv X pins σ H1 { s1 with heap := h' } := I1.kept (t' := s1.toks) hk
    have hal : a < s1.heap.objs.size := by obtain ⟨_, q, _⟩ := p'; exact Heap.lt_size q
    refine ⟨s1.heap.objs.size + 1, [s1.heap.objs.size + 1, s1.heap.objs.size], _, _, H1, rfl, I2, turn_enumT a (s1.heap.objs.size + 1) s1.heap.objs.size, ⟨⟨.none, he⟩, ⟨_, hit, rfl, rfl⟩, Nat.succ_ne_self _, Nat.ne_of_lt hal⟩, fun b hb => ?_, q⟩
    have e' : b = s1.heap.objs.size + 1 ∨ b = s1.heap.objs.size := by simpa using hb
    have hle : s1.heap.objs.size ≤ b := by
      rcases e' with z | z
      · rw [z]; exact Nat.le_add_right _ _
      · rw [z]; exact Nat.le_refl _
    exact I1.fpOk hle (I1.hok.fresh hle)
section
variable {X Y : Cx} {N : List Str} {sc : Scope} {ok : Str → Bool} {G : Reg} {env env1 env2 env3 env' : Ev} {A B S : As} {P R : FP} {e a b : Expr} {es : List Expr} {pos : Pos} {x : Str} {K : PySem.W.Frag} {own : List Nat} {elt : Expr}

/-- the pairs of enumerate -/
def enD (ds : List PyData) : List PyData := ds.mapIdx fun i d => .tuple [.int (i : Nat), d]
theorem enD_get {ds : List PyData} {i : Nat} {P : FP} (h : ((enD ds).map (isD K))[i]? = some P) : ∃ d, ds[i]? = some d ∧ P = isD K (.tuple [.int (i : Nat), d]) := by
  simp only [enD, List.getElem?_map, List.getElem?_mapIdx, Option.map_map, Option.map_eq_some_iff] at h
  obtain ⟨d, h1, h2⟩ := h
  exact ⟨d, h1, h2.symm⟩
theorem walks_eT {a : Addr} {ds : List PyData} : Walks X G (IteT X.K a) [(.ref a, dD X.K (.tuple ds))] ((enD ds).map (isD X.K)) := fun i T env σ H hs => by
  obtain ⟨HF, o1, o2, h1, ha, t, s⟩ := StA.one' hs
  obtain ⟨a', xs, e, h2, h3⟩ := dpT ha
  cases e
  have hq := h1.inH.t h2
  refine ⟨fun P hP => ?_, fun hn => ?_⟩
  · obtain ⟨d, hd, rfl⟩ := enD_get hP
    obtain ⟨v, e1, e2⟩ := dpAll_get h3 hd
    refine ⟨⟨xs, v, hq, e1⟩, fun x H' y => ?_⟩
    obtain ⟨T', x', rfl, hT, rfl, y⟩ := y
    have hx := y xs hq
    rw [e1] at hx
    cases hx
    have hs2 : Held G HF ([] ++ ([] ++ o1) ++ o2) H := h1
    have hf := h1.hf hT
    exact ⟨upd HF T' (.tup [.int (i : Nat), v]), [] ++ ([] ++ o1), o2, h1.fresh hT, .cons (A := .fz _) (o := []) ⟨rfl, Dp.tup (.inl (.inl upd_same)) (.cons (.int _) (.cons (dp_mono (Ex.new hf) e2) .nil))⟩ (.cons (A := dD X.K (.tuple ds)) (o := []) ⟨rfl, dp_mono (Ex.new hf) ha⟩ (t.mono (Ex.new hf))), s.mono (Ex.new hf)⟩
  · exact ⟨xs, hq, by rw [dpAll_len h3]; simpa [enD] using hn⟩
theorem di_eT {elts : List Expr} {kk : Nat} {tpos p : Pos} {ds : List PyData} (B : Bx κ X N sc ok) (h : DE X G env e env1 A) (hA : A.fr = isD X.K (.tuple ds)) (hm : X.mg "enumerate" = none) (hg : GlS sc "enumerate" := by rfl) (hs : starEach [e] X.env = [(false, eval e X.env)] := by rfl) :
    DI true X G env (.Tuple elts kk tpos) (.Call (.Name "enumerate" p) [e] [] pos) env1 ((enD ds).map (isD X.K)) :=
  ⟨_, pi_enumT (B.gl hg) hm (pa_cons cE_pe pa_nil hs) hs, fun T σ H hs R r => h T σ H hs _ fun v H1 h1 => by
    have h2 := h1.freeze
    rw [hA] at h2
    obtain ⟨HF, o1, o2, k1, ha, t, s⟩ := h2.one'
    obtain ⟨a', xs, e', k2, k3⟩ := dpT ha
    subst e'
    exact ⟨a', xs, rfl, k1.inH.t k2, r _ H1 [(.ref a', dD X.K (.tuple ds))] h2 walks_eT⟩⟩
theorem walks_eL {a : Addr} {ds : List PyData} : Walks X G (Ite X.K a) [(.ref a, dD X.K (.list ds))] ((enD ds).map (isD X.K)) := fun i T env σ H hs => by
  obtain ⟨HF, o1, o2, h1, ha, t, s⟩ := StA.one' hs
  obtain ⟨a', xs, e, h2, h3⟩ := dpL ha
  cases e
  have hq := h1.inH.l h2
  refine ⟨fun P hP => ?_, fun hn => ⟨xs, hq, by rw [dpAll_len h3]; simpa [enD] using hn⟩⟩
  obtain ⟨d, hd, rfl⟩ := enD_get hP
  obtain ⟨v, e1, e2⟩ := dpAll_get h3 hd
  refine ⟨⟨xs, v, hq, e1⟩, fun x H' y => ?_⟩
  obtain ⟨T', x', rfl, hT, rfl, y⟩ := y
  have hx := y xs hq
  rw [e1] at hx
  cases hx
  have hf := h1.hf hT
  exact ⟨upd HF T' (.tup [.int (i : Nat), v]), [] ++ ([] ++ o1), o2, h1.fresh hT, .cons (A := .fz _) (o := []) ⟨rfl, Dp.tup (.inl (.inl upd_same)) (.cons (.int _) (.cons (dp_mono (Ex.new hf) e2) .nil))⟩ (.cons (A := dD X.K (.list ds)) (o := []) ⟨rfl, dp_mono (Ex.new hf) ha⟩ (t.mono (Ex.new hf))), s.mono (Ex.new hf)⟩
theorem di_eL {elts : List Expr} {kk : Nat} {tpos p : Pos} {ds : List PyData} (B : Bx κ X N sc ok) (h : DE X G env e env1 A) (hA : A.fr = isD X.K (.list ds)) (hm : X.mg "enumerate" = none) (hg : GlS sc "enumerate" := by rfl) (hs : starEach [e] X.env = [(false, eval e X.env)] := by rfl) :
    DI true X G env (.Tuple elts kk tpos) (.Call (.Name "enumerate" p) [e] [] pos) env1 ((enD ds).map (isD X.K)) :=
  ⟨_, pi_enum (B.gl hg) hm (pa_cons cE_pe pa_nil hs) hs, fun T σ H hs R r => h T σ H hs _ fun v H1 h1 => by
    have h2 := h1.freeze
    rw [hA] at h2
    obtain ⟨HF, o1, o2, k1, ha, t, s⟩ := h2.one'
    obtain ⟨a', xs, e', k2, k3⟩ := dpL ha
    subst e'
    exact ⟨a', xs, rfl, k1.inH.l k2, r _ H1 [(.ref a', dD X.K (.list ds))] h2 walks_eL⟩⟩
/-- a text's signs -/
def sgD (z : Str) : List PyData := z.cps.toList.map fun c => .str ⟨#[c]⟩
theorem walks_s {z : Str} : Walks X G (Its z) [] ((sgD z).map (isD X.K)) := fun i T env σ H hs => by
  refine ⟨fun P hP => ?_, fun hn => by
    show z.cps.size ≤ i
    simpa [sgD] using hn⟩
  simp only [sgD, List.map_map, List.getElem?_map, Option.map_eq_some_iff] at hP
  obtain ⟨c, hc, rfl⟩ := hP
  have hc' : z.cps[i]? = some c := by simpa using hc
  refine ⟨(Array.getElem?_eq_some_iff.mp hc').1, fun x H' y => ?_⟩
  obtain ⟨rfl, c', h1, rfl⟩ := y
  rw [hc'] at h1; cases h1
  exact StA.push hs fun HF => Dp.str _
theorem di_s {tg : Expr} {z : Str} (h : DE X G env e env1 (dD X.K (.str z))) : DI true X G env tg e env1 ((sgD z).map (isD X.K)) :=
  ⟨_, pi_str cE_pe, fun T σ H hs R r => h T σ H hs _ fun v H1 h1 => by
    obtain ⟨HF, _, hv⟩ := h1.one
    exact ⟨z, dpS hv, r _ H1 [] h1.pop walks_s⟩⟩
theorem opd_inS (c : Nat) (z : Str) : OpD X (compareOp .In) (isD X.K (.str ⟨#[c]⟩)) (isD X.K (.str z)) (dD X.K (.bool (decide (c ∈ z.cps.toList)))) :=
  opd_sc op_in_sign (.bl (decide (c ∈ z.cps.toList))) isD_bl rfl fun HF H va vb _ ha hb Q q => ⟨c, z, dpS ha, dpS hb, q⟩
end
end DL

set_option maxHeartbeats 4000000
/-! DL12: dicts whose keys are tuples, nested. -/
namespace DL
open PySem PySem.Spec PyProof.Rows L2

abbrev NK := NestedKey
abbrev Rw := List (NK × Addr × V)
abbrev RwRel : Rw → List (NK × Addr × Value) → Prop := Paired fun p q => p.1 = q.1 ∧ p.2.1 = q.2.1 ∧ RelV p.2.2 q.2.2
def dxP (P : Program) (w : World) (a : Addr) (kvs : Rw) (h : Heap) : Prop := kvs.length ≤ sizeLine ∧ (a == sysModules) = false ∧ ∃ xs : List (NK × Addr × Value), RwRel kvs xs ∧
  ∃ o es ep, h.get? a = some o ∧ o.ExactDict ∧ o.data = .dict es ep ∧ es.toList = xs.map (entryOfKey (nestedKind P w)) ∧ (xs.map (·.1)).Nodup
def dxO (P : Program) (w : World) (a : Addr) (kvs : Rw) : HO := .ext (dxP P w a kvs)
theorem dx_ok {P : Program} {w : World} {H : Hp} {h : Heap} {a : Addr} {kvs : Rw} (x : dxP P w a kvs h) : ObjOk P w H h a (dxO P w a kvs) := by
  refine ⟨x, ?_, fun h1 h2 y e => ?_⟩
  · obtain ⟨_, _, _, _, o, _, _, e, _⟩ := x; exact ⟨o, e⟩
  · obtain ⟨z1, z2, xs, r, o, es, ep, e1, e2⟩ := y
    exact ⟨z1, z2, xs, r, o, es, ep, e o e1, e2⟩
mutual
theorem nested_of {X : Cx} {pins : List (Addr × Obj)} {σ : St} {H : Hp} {s : Shared} (I : Inv X pins σ H s) : ∀ {k : NK} {v : V} {u : Value}, Dp X.K H v k.data → RelV v u → NestedIs s.heap k u
  | .none, _, _, d, r => by
    cases (show Dp X.K H _ .none from d)
    obtain rfl : _ = Value.none := r
    exact .none
  | .num i, _, _, d, r => by
    cases (show Dp X.K H _ (.int i) from d)
    obtain ⟨t, rfl⟩ := (show ∃ t, _ = Value.int i t from r)
    exact .int i t
  | .text x, _, _, d, r => by
    cases (show Dp X.K H _ (.str x) from d)
    obtain ⟨t, rfl⟩ := (show ∃ t, _ = Value.str x t from r)
    exact .text x t
  | .tup ks, _, _, d, r => by
    cases (show Dp X.K H _ (.tuple (NestedKey.datas ks)) from d) with
    | @tup a xs _ h1 h2 =>
      obtain rfl : _ = Value.ref a := r
      obtain ⟨its, rv, ⟨o, ho, hc, n, hd⟩, hz⟩ := I.tuple h1
      exact .tup ho hc hd (by simpa using nestedAll_of I h2 rv)
theorem nestedAll_of {X : Cx} {pins : List (Addr × Obj)} {σ : St} {H : Hp} {s : Shared} (I : Inv X pins σ H s) : ∀ {ks : List NK} {vs : List V} {us : List Value}, DpAll X.K H vs (NestedKey.datas ks) → Vals vs us → NestedAll s.heap ks us
  | [], _, _, d, r => by
    cases (show DpAll X.K H _ [] from d)
    cases r
    exact .nil
  | k :: ks, _, _, d, r => by
    cases (show DpAll X.K H _ (k.data :: NestedKey.datas ks) from d) with
    | cons d1 d2 =>
      cases r with
      | cons r1 r2 => exact .cons (nested_of I d1 r1) (nestedAll_of I d2 r2)
end
/-- the keys lie as told -/
def RwOk (K : PySem.W.Frag) (H : Hp) (kvs : Rw) : Prop := ∀ x ∈ kvs, Dp K H (.ref x.2.1) x.1.data ∧ x.1.depth ≤ 8
theorem RwOk.mono {K : PySem.W.Frag} {H H' : Hp} {kvs : Rw} (h : RwOk K H kvs) (e : Ex H H') : RwOk K H' kvs := fun x hx => ⟨dp_mono e (h x hx).1, (h x hx).2⟩
theorem paired_mem {α β : Type} {F : α → β → Prop} : ∀ {l : List α} {m : List β}, Paired F l m → ∀ y ∈ m, ∃ x ∈ l, F x y
  | _, _, .nil, _, h => by cases h
  | _, _, .cons r t, y, h => by
    rcases List.mem_cons.mp h with rfl | h
    · exact ⟨_, List.mem_cons_self, r⟩
    · obtain ⟨x, h1, h2⟩ := paired_mem t y h
      exact ⟨x, List.mem_cons_of_mem _ h1, h2⟩
section
variable {X : Cx} {pins : List (Addr × Obj)} {σ : St} {H : Hp} {s : Shared} {a b : Addr} {kvs : Rw} {k : NK}
theorem dx_dict (I : Inv X pins σ H s) (e : H a = some (dxO X.prog X.w a kvs)) (rk : RwOk X.K H kvs) : kvs.length ≤ sizeLine ∧ (a == sysModules) = false ∧ ∃ xs, RwRel kvs xs ∧ s.heap.DictOfH (nestedKind X.prog X.w) a xs := by
  obtain ⟨⟨z1, z2, xs, r, o, es, ep, e1, e2, e3, e4, e5⟩, _⟩ := (show ObjOk X.prog X.w H s.heap a (dxO X.prog X.w a kvs) from I.hok a _ e)
  refine ⟨z1, z2, xs, r, o, es, ep, e1, e2, e3, e4, fun y hy => ?_, e5⟩
  obtain ⟨x, hx, q1, q2, _⟩ := paired_mem r y hy
  obtain ⟨d1, d2⟩ := rk x hx
  rw [← q1, ← q2]
  exact ⟨nested_of I d1 rfl, d2⟩
def getR (kvs : Rw) (k : NK) : Option V := (kvs.find? fun p => decide (p.1 = k)).map (·.2.2)
def putR (kvs : Rw) (k : NK) (b : Addr) (v : V) : Rw := if (getR kvs k).isSome then kvs.map (fun p => if p.1 = k then (p.1, p.2.1, v) else p) else kvs ++ [(k, b, v)]
theorem RwRel.get {kvs : Rw} {xs : List (NK × Addr × Value)} (r : RwRel kvs xs) (k : NK) : RelO (getR kvs k) ((atKey xs k).map (·.2)) := by
  unfold getR
  induction r with
  | nil => exact True.intro
  | @cons p q ps qs h t ih =>
    obtain ⟨h1, _, h2⟩ := h
    by_cases e : p.1 = k
    · have e' : q.1 = k := h1.symm.trans e
      have b : atKey (q :: qs) k = some q.2 := by simp [atKey, List.find?_cons, e']
      simp only [List.find?_cons, e, decide_true, Option.map_some]
      rw [b]; exact h2
    · have e' : ¬ q.1 = k := fun z => e (h1.trans z)
      have b : atKey (q :: qs) k = atKey qs k := by simp [atKey, List.find?_cons, e']
      simp only [List.find?_cons, e, decide_false]
      rw [b]; exact ih
theorem RwRel.put {kvs : Rw} {xs : List (NK × Addr × Value)} (r : RwRel kvs xs) (k : NK) (b : Addr) {y : V} {u : Value} (ry : RelV y u) : RwRel (putR kvs k b y) (storedH xs k b u) := by
  have e : (getR kvs k).isSome = (atKey xs k).isSome := by
    have := (r.get k).isSome_eq
    rw [this, Option.isSome_map]
  unfold putR storedH
  rw [e]
  by_cases q : (atKey xs k).isSome = true
  · rw [if_pos q, if_pos q]
    clear e q
    induction r with
    | nil => exact .nil
    | @cons p q ps qs h t ih =>
      rw [List.map_cons, List.map_cons]
      refine .cons ?_ ih
      obtain ⟨h1, h2, h3⟩ := h
      unfold putAt
      by_cases e : p.1 = k
      · rw [if_pos e, if_pos (h1.symm.trans e)]; exact ⟨h1, h2, ry⟩
      · rw [if_neg e, if_neg (fun z => e (h1.trans z))]; exact ⟨h1, h2, h3⟩
  · rw [if_neg q, if_neg q]; exact Paired.snoc r ⟨rfl, rfl, ry⟩
theorem putR_ok {K : PySem.W.Frag} {H : Hp} {kvs : Rw} (h : RwOk K H kvs) {k : NK} {b : Addr} {v : V} (hb : Dp K H (.ref b) k.data) (hk : k.depth ≤ 8) : RwOk K H (putR kvs k b v) := fun x hx => by
  unfold putR at hx
  split at hx
  · obtain ⟨y, hy, rfl⟩ := List.mem_map.mp hx
    split
    · exact h y hy
    · exact h y hy
  · rcases List.mem_append.mp hx with hx | hx
    · exact h x hx
    · rw [List.mem_singleton.mp hx]; exact ⟨hb, hk⟩
theorem putR_len (kvs : Rw) (k : NK) (b : Addr) (v : V) : (putR kvs k b v).length ≤ kvs.length + 1 := by
  unfold putR
  split
  · simp
  · simp
theorem room8 {A : Around} (hu : A.units + 100 < cLine) : (nestedKind X.prog X.w).room A.in1 := by
  show A.in1.units + 8 < cLine
  have : A.in1.units = A.units + 1 := rfl
  omega
/-- what such a dict holds -/
def DxG (K : PySem.W.Frag) (P : Program) (w : World) (H : Hp) (x y : V) (o : Option V) : Prop := ∃ a b kvs k, x = .ref a ∧ y = .ref b ∧ H a = some (dxO P w a kvs) ∧ RwOk K H kvs ∧ Dp K H (.ref b) k.data ∧ k.depth ≤ 8 ∧ getR kvs k = o
theorem opx_in (hu : X.A.units + 100 < cLine) : OpR X (compareOp .In) (fun y x H Q => ∃ o, DxG X.K X.prog X.w H x y o ∧ Q (.bl o.isSome) H) := by
  intro pins s σ H y x u v Q I ry rx h
  obtain ⟨o, ⟨a, b, kvs, k, rfl, rfl, e, rk, d, hk, l⟩, q⟩ := h
  obtain rfl : u = Value.ref b := ry
  obtain rfl : v = Value.ref a := rx
  obtain ⟨z, hd, xs, rel, dd⟩ := dx_dict I e rk
  refine wpAny_in_heap (room8 hu) ⟨nested_of I d rfl, hk⟩ hd dd ?_
  have q2 := (rel.get k).isSome_eq
  rw [Option.isSome_map] at q2
  rw [← q2, l]
  exact ⟨.bl o.isSome, H, I.tok _, rfl, q⟩
theorem opx_notIn (hu : X.A.units + 100 < cLine) : OpR X (compareOp .NotIn) (fun y x H Q => ∃ o, DxG X.K X.prog X.w H x y o ∧ Q (.bl (!o.isSome)) H) := by
  intro pins s σ H y x u v Q I ry rx h
  obtain ⟨o, ⟨a, b, kvs, k, rfl, rfl, e, rk, d, hk, l⟩, q⟩ := h
  obtain rfl : u = Value.ref b := ry
  obtain rfl : v = Value.ref a := rx
  obtain ⟨z, hd, xs, rel, dd⟩ := dx_dict I e rk
  refine wpAny_notIn_heap (room8 hu) ⟨nested_of I d rfl, hk⟩ hd dd ?_
  have q2 := (rel.get k).isSome_eq
  rw [Option.isSome_map] at q2
  rw [← q2, l]
  exact ⟨.bl (!o.isSome), H, I.tok _, rfl, q⟩
theorem dx_typ (I : Inv X pins σ H s) (e : H a = some (dxO X.prog X.w a kvs)) : ∃ o, s.heap.get? a = some o ∧ o.ExactDict := by
  obtain ⟨⟨z1, z2, xs, r, o, es, ep, e1, e2, _⟩, _⟩ := (show ObjOk X.prog X.w H s.heap a (dxO X.prog X.w a kvs) from I.hok a _ e)
  exact ⟨o, e1, e2⟩
/-- d[y] -/
theorem pex_get {e1 e2 : Expr} {te ty : TE} {pos : Pos} (hu : X.A.units + 100 < cLine) (he : PE X e1 te) (hy : PE X e2 ty) (hs : NoSl e2) : PE X (.Subscript e1 e2 pos) (fun σ H Q => te σ H fun x H1 => ty σ H1 fun y H2 => ∃ v, DxG X.K X.prog X.w H2 x y (some v) ∧ Q v H2) := by
  refine ⟨fun pins s σ H Q I h => ?_⟩
  refine subD_of (T := "dict") (id := "dict.__getitem__") F.slot_dict_getitem.lookup hs (thn (he.run pins s σ H _ I h) fun u s1 ⟨x, H1, I1, rx, q1⟩ => thn (hy.run pins s1 σ H1 _ I1 q1) fun u2 s2 ⟨y, H2, I2, ry, v, ⟨a, b, kvs, k, ex, ey, e, rk, d, hk, l⟩, q⟩ => ?_)
  subst ex ey
  obtain rfl : u = Value.ref a := rx
  obtain rfl : u2 = Value.ref b := ry
  obtain ⟨z, hd, xs, rel, dd⟩ := dx_dict I2 e rk
  refine ⟨dd.typeIs, ?_⟩
  obtain ⟨w', hw, rw'⟩ := RelO.some_of (v := v) (o := (atKey xs k).map (·.2)) (by rw [← l]; exact rel.get k)
  obtain ⟨p, hp, hp2⟩ := Option.map_eq_some_iff.mp hw
  refine wpAny_getItem_heap (room8 hu) ⟨nested_of I2 d rfl, hk⟩ dd hp ?_
  rw [hp2]
  exact ⟨v, H2, I2.tok _, rw', q⟩
/-- d[y] = v -/
theorem set_dx (hu : X.A.units + 100 < cLine) : PSet X (fun o i v H Q => ∃ a b kvs k, o = .ref a ∧ i = .ref b ∧ H a = some (dxO X.prog X.w a kvs) ∧ RwOk X.K H kvs ∧ Dp X.K H (.ref b) k.data ∧ k.depth ≤ 8 ∧ kvs.length < sizeLine ∧ Q (upd H a (dxO X.prog X.w a (putR kvs k b v)))) := by
  intro pins s σ H o i v ov iv u Q I ro ri rv h
  obtain ⟨a, b, kvs, k, rfl, rfl, e, rk, d, hk, hl, q⟩ := h
  obtain rfl : ov = Value.ref a := ro
  obtain rfl : iv = Value.ref b := ri
  obtain ⟨z, hd, xs, rel, dd⟩ := dx_dict I e rk
  have hz : xs.length ≤ sizeLine := by rw [← Paired.length rel]; exact z
  refine wpAny_setItem_heap (hsz := hz) (room8 hu) ⟨nested_of I d rfl, hk⟩ dd fun h' dd' hs => ⟨_, ?_, q⟩
  have hlen := putR_len kvs k b v
  obtain ⟨o', es, ep, hq, h2, h3, h4, _, h5⟩ := dd'
  exact d_write I (by rw [e]; exact True.intro) hs ⟨o', hq⟩ (dx_ok ⟨by omega, hd, _, rel.put k b rv, o', es, ep, hq, h2, h3, h4, h5⟩)
/-- {} -/
theorem pex_new {pos : Pos} : PE X (.Dict [] [] pos) (fun _ H Q => ∀ p, H p = none → Q (.ref p) (upd H p (dxO X.prog X.w p []))) := ⟨fun pins s σ H Q I h =>
  wpAny_Dict_empty ⟨.ref s.heap.objs.size, _, I.laid (a := s.heap.objs.size) (t' := s.toks) (fun _ _ q => Heap.get?_push_of_some _ q) (Nat.le_refl _)
    (dx_ok ⟨Nat.zero_le _, beq_eq_false_iff_ne.mpr (Ne.symm (Nat.ne_of_lt I.big)), [], .nil, _, #[], 0, Heap.get?_push_size _ rfl, ⟨rfl, rfl, rfl⟩, rfl, rfl, List.nodup_nil⟩), rfl, h _ (I.hok.fresh (Nat.le_refl _))⟩⟩
end
end DL

set_option maxHeartbeats 4000000
/-! DL13: sorted and min of data; rules for dicts of tuple keys. -/
namespace DL
open PySem PySem.Spec PyProof.Rows L2

def sortD (ds : List PyData) : List PyData := ds.mergeSort (PySem.W.dataLe false id)
section
variable {X : Cx} {pins : List (Addr × Obj)} {σ : St} {H : Hp} {s : Shared}
theorem each_reads (I : Inv X pins σ H s) : ∀ {xs : List V} {us : List Value} {ds : List PyData}, Vals xs us → DpAll X.K H xs ds → PySem.W.EachIs (fun v b => ∃ as, Reads s.heap v (id b) as) us ds
  | _, _, _, .nil, .nil => .nil
  | _, _, _, .cons r rs, .cons d t => .cons (L2.Dp.reads I _ _ _ (toDp d) r) (each_reads I rs t)
theorem each_rel {K : PySem.W.Frag} : ∀ {xs : List V} {us : List Value} {ds : List PyData}, Vals xs us → DpAll K H xs ds → PySem.W.EachIs (fun v d => ∃ x : V, RelV x v ∧ Dp K H x d) us ds
  | _, _, _, .nil, .nil => .nil
  | _, _, _, .cons r rs, .cons d t => .cons ⟨_, r, d⟩ (each_rel rs t)
theorem rel_each {K : PySem.W.Frag} : ∀ {us : List Value} {ds : List PyData}, PySem.W.EachIs (fun v d => ∃ x : V, RelV x v ∧ Dp K H x d) us ds → ∃ xs, Vals xs us ∧ DpAll K H xs ds
  | _, _, .nil => ⟨[], .nil, .nil⟩
  | _, _, .cons ⟨x, r, d⟩ t => by
    obtain ⟨xs, h1, h2⟩ := rel_each t
    exact ⟨x :: xs, .cons r h1, .cons d h2⟩
theorem readsAll_of (I : Inv X pins σ H s) : ∀ {xs : List V} {us : List Value} {ds : List PyData}, Vals xs us → DpAll X.K H xs ds → ∃ as, ReadsAll s.heap us ds as
  | _, _, _, .nil, .nil => ⟨[], .nil⟩
  | _, _, _, .cons r rs, .cons d t => by
    obtain ⟨as, h1⟩ := L2.Dp.reads I _ _ _ (toDp d) r
    obtain ⟨bs, h2⟩ := readsAll_of I rs t
    exact ⟨_, .cons h1 h2⟩
theorem cr_sorted (hu : X.A.units + 100 < cLine) : CallR X (.builtin "sorted") (fun xs H Q => ∃ a ys ds HF, Ex HF H ∧ xs = [.ref a] ∧ SqL X.K H a ys ∧ DpAll X.K HF ys ds ∧ PySem.W.AllAlike ds ∧ PySem.W.Sortable ds ∧ (∀ d ∈ ds, d.depth ≤ 50) ∧
    ∀ p zs, H p = none → DpAll X.K HF zs (sortD ds) → Q (.ref p) (upd H p (.lst zs))) := by
  intro pins s σ H xs us Q I r h
  obtain ⟨a, ys, ds, HF, ex, rfl, hq, hd, hal, hk, hdep, q⟩ := h
  obtain ⟨u, rfl, rx⟩ := vals1 r
  cases rx
  obtain ⟨its, rv, pl, hz⟩ := I.list hq
  have hl : its.length = ds.length := by rw [← dpAll_len hd, rv.length]
  have hlen : ds.length ≤ sizeLine := by rw [← dpAll_len hd]; exact hz
  refine PySem.W.sorted_data (enc := id) pl.isList (each_rel (K := X.K) (H := HF) rv hd) (each_reads I rv (dpAll_mono ex hd)) (by rw [List.map_id]; exact hal) (by rw [List.map_id]; exact hk) hlen (fun b hb => by have := hdep b hb; show X.A.units + 2 + b.depth < cLine; omega) fun out hol he => ?_
  obtain ⟨zs, z1, z2⟩ := rel_each he
  obtain ⟨e, he2⟩ := sortedAll_at s.heap its out.toArray
  have hfr : H (s.heap.objs.size + 1) = none := I.hok.fresh (Nat.le_succ _)
  refine ⟨.ref (s.heap.objs.size + 1), upd H (s.heap.objs.size + 1) (.lst zs), I.laid (t' := s.toks) (fun b o e => sortedAll_old e) (Nat.le_succ _) ?_, rfl, q _ zs hfr z2⟩
  refine (show ObjOk X.prog X.w _ _ _ (.lst zs) from ⟨?_, out, e, z1, he2⟩)
  rw [z1.length, hol]; exact hlen
theorem cr_min (hc : X.calm = true) (hu : X.A.units + 100 < cLine) : CallR X (.builtin "min") (fun xs H Q => ∃ a ys d ds HF, Ex HF H ∧ xs = [.ref a] ∧ SqL X.K H a ys ∧ DpAll X.K HF ys (d :: ds) ∧ PySem.W.AlikeAll (d :: ds) ∧ PyData.depthAll (d :: ds) ≤ 50 ∧
    ∀ y, Dp X.K HF y (PySem.W.minD d ds) → Q y H) := by
  intro pins s σ H xs us Q I r h
  obtain ⟨a, ys, d, ds, HF, ex, rfl, hq, hd, hal, hdep, q⟩ := h
  obtain ⟨u, rfl, rx⟩ := vals1 r
  cases rx
  obtain ⟨its, rv, pl, hz⟩ := I.list hq
  obtain ⟨as, hr⟩ := readsAll_of I rv (dpAll_mono ex hd)
  refine PySem.W.min_list_data (I.ok.hd hc) pl.isList (by simpa using hr) hal (by omega) fun i v h' tk bs hv hrd hk => ?_
  have hv' : its[i]? = some v := by simpa using hv
  have hlt : i < (d :: ds).length := by
    rw [← dpAll_len hd, rv.length]
    exact (List.getElem?_eq_some_iff.mp hv').1
  obtain ⟨y, hy, hyd⟩ := dpAll_get hd (List.getElem?_eq_getElem hlt)
  obtain ⟨u, hu', ru⟩ := rv.get hy
  rw [hv'] at hu'; cases hu'
  have I' : Inv X pins σ H { s with heap := h', toks := tk } := I.kept hk
  obtain ⟨cs, hr2⟩ := L2.Dp.reads I' _ _ _ (toDp (dp_mono ex hyd)) ru
  have hmem : (d :: ds)[i] ∈ d :: ds := List.getElem_mem hlt
  have hmin : PySem.W.minD d ds ∈ d :: ds := by
    have go : ∀ (l : List PyData) (x : PyData), l.foldl (fun a y => if PySem.W.dataLt y a then y else a) x ∈ x :: l := by
      intro l
      induction l with
      | nil => intro x; simp
      | cons y l ih =>
        intro x
        simp only [List.foldl_cons]
        have := ih (if PySem.W.dataLt y x = true then y else x)
        split at this
        · rename_i h; rw [if_pos h]; exact List.mem_cons_of_mem _ this
        · rename_i h; rw [if_neg h]
          rcases List.mem_cons.mp this with e | e
          · rw [e]; exact List.mem_cons_self
          · exact List.mem_cons_of_mem _ (List.mem_cons_of_mem _ e)
    exact go ds d
  have e := PySem.W.alike_unique _ _ _ _ _ (hal.1 _ hmem _ hmin) hr2 hrd
  rw [e] at hyd
  exact ⟨y, H, I', ru, q y hyd⟩
end
section
variable {X Y : Cx} {N : List Str} {sc : Scope} {ok : Str → Bool} {G : Reg} {env env1 env2 env3 env' : Ev} {A B S : As} {P R : FP} {e a b : Expr} {es : List Expr} {pos : Pos} {x : Str} {K : PySem.W.Frag} {own : List Nat} {elt : Expr} {R' : As}
theorem cd_sorted {ds : List PyData} (hu : X.A.units + 100 < cLine) (hal : PySem.W.AllAlike ds) (hk : PySem.W.Sortable ds) (hdep : ∀ d ∈ ds, d.depth ≤ 50) : CallD X (.builtin "sorted") [dD X.K (.list ds)] [dD X.K (.list ds)] (oLn X.K (sortD ds)) :=
  ⟨rfl, _, cr_sorted hu, fun G T env σ H vs hl hs Q q => by
    obtain ⟨v, rfl⟩ := zip1 hl
    have hs2 : StA G ((v, dD X.K (.list ds)) :: (v, dD X.K (.list ds)) :: T) env σ H := StA.dup hs
    obtain ⟨HF, o1, o2, h1, ha, t, s⟩ := hs2.one'
    obtain ⟨p, xs, e, h2, h3⟩ := dpLt ha
    exact ⟨p, xs, ds, HF, h1.inH, by rw [e], SqL.of (h1.inH _ _ h2), h3, hal, hk, hdep, fun p' zs hp hz => q _ _ (StA.newO h1 t s hp ⟨fun _ z => (nomatch z), p', zs, rfl, rfl, hz⟩)⟩⟩
theorem cd_min {d : PyData} {ds : List PyData} (hc : X.calm = true) (hu : X.A.units + 100 < cLine) (hal : PySem.W.AlikeAll (d :: ds)) (hdep : PyData.depthAll (d :: ds) ≤ 50) : CallD X (.builtin "min") [dD X.K (.list (d :: ds))] [dD X.K (.list (d :: ds))] (dD X.K (PySem.W.minD d ds)) :=
  ⟨rfl, _, cr_min hc hu, fun G T env σ H vs hl hs Q q => by
    obtain ⟨v, rfl⟩ := zip1 hl
    have hs2 : StA G ((v, dD X.K (.list (d :: ds))) :: (v, dD X.K (.list (d :: ds))) :: T) env σ H := StA.dup hs
    obtain ⟨HF, o1, o2, h1, ha, t, s⟩ := hs2.one'
    obtain ⟨p, xs, e, h2, h3⟩ := dpLt ha
    exact ⟨p, xs, d, ds, HF, h1.inH, by rw [e], SqL.of (h1.inH _ _ h2), h3, hal, hdep, fun y hy => q _ _ ⟨HF, [] ++ o1, o2, h1, .cons (A := dD X.K _) ⟨rfl, hy⟩ t, s⟩⟩⟩

/-! ### dicts of tuple keys -/
abbrev Tb := List (NK × PyData)
abbrev RowsD (K : PySem.W.Frag) (H : Hp) : Rw → Tb → Prop := Paired fun x l => x.1 = l.1 ∧ Dp K H x.2.2 l.2
theorem RowsD.mono {K : PySem.W.Frag} {H H' : Hp} {kvs : Rw} {L : Tb} (h : RowsD K H kvs L) (e : Ex H H') : RowsD K H' kvs L := Paired.mapP h fun _ _ z => ⟨z.1, dp_mono e z.2⟩
def isX (P : Program) (w : World) (K : PySem.W.Frag) (L : Tb) : FP := ⟨fun H v => ∃ a kvs, v = .ref a ∧ H a = some (dxO P w a kvs) ∧ RwOk K H kvs ∧ RowsD K H kvs L, fun e ⟨a, kvs, h1, h2, h3, h4⟩ => ⟨a, kvs, h1, e _ _ h2, h3.mono e, h4.mono e⟩⟩
def oDc (P : Program) (w : World) (K : PySem.W.Frag) (L : Tb) : As := ⟨fun H v o => ∃ a kvs, v = .ref a ∧ o = [(a, dxO P w a kvs)] ∧ RwOk K H kvs ∧ RowsD K H kvs L, fun e ⟨a, kvs, h1, h2, h3, h4⟩ => ⟨a, kvs, h1, h2, h3.mono e, h4.mono e⟩, isX P w K L,
  fun {H H' v o} e k ⟨a, kvs, h1, h2, h3, h4⟩ => by
    subst h1 h2
    exact ⟨a, kvs, rfl, k (a, dxO P w a kvs) (List.mem_singleton.mpr rfl), h3.mono e, h4.mono e⟩⟩
def getL (L : Tb) (k : NK) : Option PyData := (L.find? fun p => decide (p.1 = k)).map (·.2)
def putL (L : Tb) (k : NK) (d : PyData) : Tb := if (getL L k).isSome then L.map (fun p => if p.1 = k then (p.1, d) else p) else L ++ [(k, d)]
theorem rowsD_get {H : Hp} {kvs : Rw} {L : Tb} (r : RowsD K H kvs L) (k : NK) : (getR kvs k = none ∧ getL L k = none) ∨ ∃ v d, getR kvs k = some v ∧ getL L k = some d ∧ Dp K H v d := by
  unfold getR getL
  induction r with
  | nil => exact .inl ⟨rfl, rfl⟩
  | @cons p q ps qs h t ih =>
    obtain ⟨h1, h2⟩ := h
    by_cases e : p.1 = k
    · have e' : q.1 = k := h1.symm.trans e
      exact .inr ⟨p.2.2, q.2, by simp [List.find?_cons, e], by simp [List.find?_cons, e'], h2⟩
    · have e' : ¬ q.1 = k := fun z => e (h1.trans z)
      simp only [List.find?_cons, e, e', decide_false]
      exact ih
theorem rowsD_some {H : Hp} {kvs : Rw} {L : Tb} (r : RowsD K H kvs L) (k : NK) : (getR kvs k).isSome = (getL L k).isSome := by
  rcases rowsD_get r k with ⟨h1, h2⟩ | ⟨v, d, h1, h2, _⟩
  · rw [h1, h2]; rfl
  · rw [h1, h2]; rfl
theorem rowsD_put {H : Hp} {kvs : Rw} {L : Tb} (r : RowsD K H kvs L) (k : NK) (b : Addr) {v : V} {d : PyData} (hv : Dp K H v d) : RowsD K H (putR kvs k b v) (putL L k d) := by
  unfold putR putL
  rw [rowsD_some r k]
  by_cases q : (getL L k).isSome = true
  · rw [if_pos q, if_pos q]
    clear q
    induction r with
    | nil => exact .nil
    | @cons p q ps qs h t ih =>
      rw [List.map_cons, List.map_cons]
      refine .cons ?_ ih
      obtain ⟨h1, h2⟩ := h
      by_cases e : p.1 = k
      · rw [if_pos e, if_pos (h1.symm.trans e)]; exact ⟨h1, hv⟩
      · rw [if_neg e, if_neg (fun z => e (h1.trans z))]; exact ⟨h1, h2⟩
  · rw [if_neg q, if_neg q]; exact Paired.snoc r ⟨rfl, hv⟩
theorem opd_inX {L : Tb} {ks : List NK} (hu : X.A.units + 100 < cLine) (hk : (NestedKey.tup ks).depth ≤ 8) : OpD X (compareOp .In) (isD X.K (.tuple (NestedKey.datas ks))) (isX X.prog X.w X.K L) (dD X.K (.bool (getL L (.tup ks)).isSome)) :=
  opd_sc (opx_in hu) (.bl (getL L (.tup ks)).isSome) isD_bl rfl fun HF H va vb ex ha hb Q q => by
    obtain ⟨a, kvs, rfl, h2, h3, h4⟩ := hb
    obtain ⟨p, xs, rfl, h5, h6⟩ := dpT ha
    exact ⟨_, ⟨a, p, kvs, .tup ks, rfl, rfl, ex _ _ h2, h3.mono ex, dp_mono ex (show Dp X.K HF (.ref p) (.tuple _) from ha), hk, rfl⟩, by rw [rowsD_some h4]; exact q⟩
theorem opd_notInX {L : Tb} {ks : List NK} (hu : X.A.units + 100 < cLine) (hk : (NestedKey.tup ks).depth ≤ 8) : OpD X (compareOp .NotIn) (isD X.K (.tuple (NestedKey.datas ks))) (isX X.prog X.w X.K L) (dD X.K (.bool (!(getL L (.tup ks)).isSome))) :=
  opd_sc (opx_notIn hu) (.bl (!(getL L (.tup ks)).isSome)) isD_bl rfl fun HF H va vb ex ha hb Q q => by
    obtain ⟨a, kvs, rfl, h2, h3, h4⟩ := hb
    obtain ⟨p, xs, rfl, h5, h6⟩ := dpT ha
    exact ⟨_, ⟨a, p, kvs, .tup ks, rfl, rfl, ex _ _ h2, h3.mono ex, dp_mono ex (show Dp X.K HF (.ref p) (.tuple _) from ha), hk, rfl⟩, by rw [rowsD_some h4]; exact q⟩
/-- d[k] -/
theorem de_getX {L : Tb} {ks : List NK} {d : PyData} (ha : DE X G env a env1 A) (hA : A.fr = isX X.prog X.w X.K L) (hb : DE X G env1 b env2 B) (hB : B.fr = isD X.K (.tuple (NestedKey.datas ks))) (hu : X.A.units + 100 < cLine) (hk : (NestedKey.tup ks).depth ≤ 8) (hd : getL L (.tup ks) = some d) (hs : NoSl b := by exact fun _ _ => rfl) : DE X G env (.Subscript a b pos) env2 (dD X.K d) :=
  de_of (pex_get hu cE_pe cE_pe hs) fun T σ H hs Q q => ha T σ H hs _ fun va H1 h1 => hb _ σ H1 h1.freeze _ fun vb H2 h2 => by
    have h3 := h2.freeze
    rw [hA, hB] at h3
    obtain ⟨HF, o1, o2, k1, ⟨a', kvs, rfl, k2, k3, k4⟩, k5, t, s⟩ := h3.two'
    obtain ⟨p, xs, rfl, k6, k7⟩ := dpT k5
    rcases rowsD_get k4 (.tup ks) with ⟨g1, g2⟩ | ⟨v, d', g1, g2, g3⟩
    · rw [g2] at hd; cases hd
    · rw [g2] at hd; cases hd
      have ex := k1.inH
      exact ⟨v, ⟨a', p, kvs, .tup ks, rfl, rfl, ex _ _ k2, k3.mono ex, dp_mono ex (show Dp X.K HF (.ref p) (.tuple _) from k5), hk, g1⟩, q v H2 ⟨HF, [] ++ o1, o2, k1, .cons (A := dD X.K d) ⟨rfl, g3⟩ t, s⟩⟩
theorem de_newX : DE X G env (.Dict [] [] pos) env ((oDc X.prog X.w X.K []).at none) :=
  de_of pex_new fun T σ H hs Q q p hp => by
    obtain ⟨HF, o1, o2, h1, t, s⟩ := hs
    exact q _ _ (StA.newO h1 t s hp ⟨fun _ z => (nomatch z), p, [], rfl, rfl, fun _ z => (by cases z), .nil⟩)
/-- x[k] = v, x a name's own dict -/
theorem dg_setX {q : Option V} {L : Tb} {ks : List NK} {d : PyData} {y : Str} {py : Pos} {ix : Expr} (B : Bx κ X N sc ok) (i : Nat) (hA : A.fr = isD X.K d) (hx : DE X G env ix env R') (hR : R'.fr = isD X.K (.tuple (NestedKey.datas ks))) (hk : (NestedKey.tup ks).depth ≤ 8) (hz : L.length < sizeLine) (hu : X.A.units + 100 < cLine) (hi : env[i]? = some (some ((oDc X.prog X.w X.K L).at q)) := by rfl) (hN : N[i]? = some y := by rfl)
    (hv : Vis sc y := by first | exact Or.inl rfl | exact Or.inr (Or.inl rfl) | exact Or.inr (Or.inr rfl)) (hd : (y == ("__debug__" : Str)) = false := by decide) (hcd : (y == ("__classdict__" : Str)) = false := by decide)
    (ha : ∀ v, assign (.Subscript (.Name y py) ix pos) X.env v = (do
      let ov ← holding [v] (eval (.Name y py) X.env)
      let iv ← holding [v, ov] (eval ix X.env)
      standAt pos
      holding [v, ov, iv] (setItem ov iv v)
      release [v, ov, iv] []) := by intro _; rfl) : DGt X G env A (.Subscript (.Name y py) ix pos) [] (env.set i (some ((oDc X.prog X.w X.K (putL L (.tup ks) d)).at q))) :=
  fun T v σ H st Q qq => of_pg (pg_sub (pe_var (B.N_ ▸ hN) (B.sc_ ▸ hv) hd hcd) cE_pe (set_dx hu) ha) (by
    have st1 := st.freeze
    rw [hA] at st1
    obtain ⟨w0, e1, _⟩ := st1.take hi
    refine ⟨w0, e1, hx _ σ H st1 _ fun iv H1 h1 => ?_⟩
    have h1' := h1.freeze
    rw [hR] at h1'
    obtain ⟨w, e3, k3⟩ := h1'.take hi
    rw [e1] at e3; cases e3
    obtain ⟨HF, o, o1, o2, m1, ⟨hq, p2, kvs, f1, f2, m2, m2'⟩, m3, m4⟩ := k3.top
    subst f1 f2
    have hp2 := (m1.own (p2, dxO X.prog X.w p2 kvs) (by simp)).1
    cases m3 with
    | @cons _ _ ok os _ bk tt =>
      obtain ⟨rfl, bk⟩ := bk
      cases tt with
      | @cons _ _ ov os2 _ bv tt =>
        obtain ⟨rfl, bv⟩ := bv
        obtain ⟨pk, xk, rfl, h5, h6⟩ := dpT bk
        have ex := m1.inH
        have hl1 : i < env.length := (List.getElem?_eq_some_iff.mp hi).1
        refine ⟨p2, pk, kvs, .tup ks, rfl, rfl, hp2, m2.mono ex, dp_mono ex (show Dp X.K HF (.ref pk) (.tuple _) from bk), hk, by rw [Paired.length m2']; exact hz, ?_⟩
        have m5 : Held G HF ((p2, dxO X.prog X.w p2 (putR kvs (.tup ks) pk v)) :: (os2 ++ o2)) (upd H1 p2 (dxO X.prog X.w p2 (putR kvs (.tup ks) pk v))) := Held.put (o := dxO X.prog X.w p2 kvs) (by simpa using m1)
        have m6 := (StA.ofTop (o := [(p2, dxO X.prog X.w p2 (putR kvs (.tup ks) pk v))]) (v := .ref p2) (A := (oDc X.prog X.w X.K (putL L (.tup ks) d)).at q) m5 ⟨hq, p2, _, rfl, rfl, putR_ok m2 (show Dp X.K HF (.ref pk) (.tuple _) from bk) hk, rowsD_put m2' _ _ bv⟩ tt m4).back e1 (by rw [List.getElem?_set_self hl1])
        rw [List.set_set] at m6
        exact qq _ _ (fun _ _ => rfl) rfl m6)
end
end DL

set_option maxHeartbeats 4000000
/-! DL14: dict(..) of pairs, sorted of a dict, {k: v}, d.get(k), keys being tuples. -/
namespace DL
open PySem PySem.Spec PyProof.Rows L2

def putAllR (kvs ps : Rw) : Rw := ps.foldl (fun a p => putR a p.1 p.2.1 p.2.2) kvs
def putAllL (L M : Tb) : Tb := M.foldl (fun a p => putL a p.1 p.2) L
def pairD (p : NK × PyData) : PyData := .tuple [p.1.data, p.2]
def tupK : NK → Bool
  | .tup _ => true
  | _ => false
theorem putAllR_len : ∀ (ps kvs : Rw), (putAllR kvs ps).length ≤ kvs.length + ps.length
  | [], kvs => by simp [putAllR]
  | p :: ps, kvs => by
    have h1 := putAllR_len ps (putR kvs p.1 p.2.1 p.2.2)
    have h2 := putR_len kvs p.1 p.2.1 p.2.2
    have e : putAllR kvs (p :: ps) = putAllR (putR kvs p.1 p.2.1 p.2.2) ps := rfl
    rw [e, List.length_cons]; omega
theorem RwRel.putAll : ∀ {ps : Rw} {qs : List (NK × Addr × Value)}, RwRel ps qs → ∀ {kvs : Rw} {xs : List (NK × Addr × Value)}, RwRel kvs xs → RwRel (putAllR kvs ps) (storedAllH xs qs)
  | _, _, .nil, _, _, h => h
  | _, _, .cons (a := p) (b := q) r t, kvs, xs, h => by
    have e : RwRel (putR kvs p.1 p.2.1 p.2.2) (storedH xs q.1 q.2.1 q.2.2) := by
      rw [← r.1, ← r.2.1]; exact h.put p.1 p.2.1 r.2.2
    exact RwRel.putAll t e
theorem putAllR_ok {K : PySem.W.Frag} {H : Hp} : ∀ {ps kvs : Rw}, RwOk K H kvs → RwOk K H ps → RwOk K H (putAllR kvs ps)
  | [], _, h, _ => h
  | p :: ps, kvs, h, hp => by
    have h1 := hp p List.mem_cons_self
    have e : putAllR kvs (p :: ps) = putAllR (putR kvs p.1 p.2.1 p.2.2) ps := rfl
    rw [e]
    exact putAllR_ok (ps := ps) (putR_ok h h1.1 h1.2) fun x hx => hp x (List.mem_cons_of_mem _ hx)
theorem rowsD_putAll {K : PySem.W.Frag} {H : Hp} : ∀ {ps : Rw} {M : Tb}, RowsD K H ps M → ∀ {kvs : Rw} {L : Tb}, RowsD K H kvs L → RowsD K H (putAllR kvs ps) (putAllL L M)
  | _, _, .nil, _, _, h => h
  | _, _, .cons (a := p) (b := q) r t, kvs, L, h => by
    have e : RowsD K H (putR kvs p.1 p.2.1 p.2.2) (putL L q.1 q.2) := by rw [← r.1]; exact rowsD_put h _ _ r.2
    exact rowsD_putAll t e
/-- the rows of a list of pairs -/
theorem rows_of {K : PySem.W.Frag} {H : Hp} : ∀ {xs : List V} {M : Tb}, DpAll K H xs (M.map pairD) → (∀ p ∈ M, tupK p.1 = true ∧ p.1.depth ≤ 8) → ∃ (kvs : Rw) (Ts : List Addr), xs = Ts.map V.ref ∧ RowsD K H kvs M ∧ RwOk K H kvs ∧ Paired (fun T x => SqT K H T [.ref x.2.1, x.2.2]) Ts kvs
  | _, [], .nil, _ => ⟨[], [], rfl, .nil, fun _ z => (by cases z), .nil⟩
  | _, p :: M, .cons d t, h => by
    obtain ⟨kvs, Ts, rfl, h1, h2, h3⟩ := rows_of t fun q hq => h q (List.mem_cons_of_mem _ hq)
    obtain ⟨k, v⟩ := p
    have hp := h (k, v) List.mem_cons_self
    cases (show Dp K H _ (.tuple [k.data, v]) from d) with
    | @tup T ys _ e1 e2 =>
      cases e2 with
      | cons a1 a2 =>
        cases a2 with
        | cons b1 b2 =>
          cases b2
          cases k with
          | tup ks =>
            cases (show Dp K H _ (.tuple (NestedKey.datas ks)) from a1) with
            | @tup b zs _ c1 c2 =>
              refine ⟨(.tup ks, b, _) :: kvs, T :: Ts, rfl, .cons ⟨rfl, b1⟩ h1, fun x hx => ?_, .cons e1 h3⟩
              rcases List.mem_cons.mp hx with rfl | hx
              · exact ⟨a1, hp.2⟩
              · exact h2 x hx
          | none => exact absurd hp.1 (by simp [tupK])
          | num i => exact absurd hp.1 (by simp [tupK])
          | text x => exact absurd hp.1 (by simp [tupK])
theorem paired_at {α β : Type} {F : α → β → Prop} : ∀ {l : List α} {m : List β} {j : Nat} {b : β}, Paired F l m → m[j]? = some b → ∃ a, l[j]? = some a ∧ F a b
  | _, _, _, _, .nil, h => by simp at h
  | _, _, 0, _, .cons r _, h => by simp at h; subst h; exact ⟨_, rfl, r⟩
  | _, _, j + 1, _, .cons _ t, h => by
    obtain ⟨a, h1, h2⟩ := paired_at (j := j) t (by simpa using h)
    exact ⟨a, by simpa using h1, h2⟩
mutual
theorem data_depth : ∀ k : NK, k.data.depth = k.depth
  | .none => rfl
  | .num _ => rfl
  | .text _ => rfl
  | .tup ks => by
    show PyData.depthAll (NestedKey.datas ks) + 1 = NestedKey.depthAll ks + 1
    rw [datas_depth ks]
theorem datas_depth : ∀ ks : List NK, PyData.depthAll (NestedKey.datas ks) = NestedKey.depthAll ks
  | [] => rfl
  | k :: ks => by
    show max k.data.depth (PyData.depthAll (NestedKey.datas ks)) = max k.depth (NestedKey.depthAll ks)
    rw [data_depth k, datas_depth ks]
end
theorem storedAllH_len {K : Type} [DecidableEq K] (ps : List (K × Addr × Value)) (xs : List (K × Addr × Value)) : (storedAllH xs ps).length ≤ xs.length + ps.length := storedAllH_length ps xs
section
variable {X : Cx} {pins : List (Addr × Obj)} {σ : St} {H : Hp} {s : Shared}
/-- the pairs as values -/
theorem vals_rows (I : Inv X pins σ H s) : ∀ {Ts : List Addr} {kvs : Rw}, Paired (fun T x => SqT X.K H T [.ref x.2.1, x.2.2]) Ts kvs → ∃ qs : List (NK × Addr × Value), RwRel kvs qs ∧ qs.length = Ts.length ∧ ∀ (j : Nat) (k v : Value), (qs.map fun q => (Value.ref q.2.1, q.2.2))[j]? = some (k, v) → ∃ T : Addr, Ts[j]? = some T ∧ s.heap.IsTuple T #[k, v]
  | _, _, .nil => ⟨[], .nil, rfl, fun j k v h => by simp at h⟩
  | _, _, .cons (a := T) (b := x) r t => by
    obtain ⟨qs, h1, h2, h3⟩ := vals_rows I t
    obtain ⟨its, rv, p, _⟩ := I.tuple r
    cases rv with
    | cons r1 rv =>
      cases rv with
      | cons r2 rv =>
        cases rv
        rename_i u1 u2
        obtain rfl : u1 = Value.ref x.2.1 := r1
        refine ⟨(x.1, x.2.1, u2) :: qs, .cons ⟨rfl, rfl, r2⟩ h1, by simp [h2], fun j k v h => ?_⟩
        cases j with
        | zero =>
          simp only [List.map_cons, List.getElem?_cons_zero, Option.some.injEq, Prod.mk.injEq] at h
          obtain ⟨rfl, rfl⟩ := h
          exact ⟨T, rfl, p⟩
        | succ j =>
          obtain ⟨T', q1, q2⟩ := h3 j k v (by simpa using h)
          exact ⟨T', by simpa using q1, q2⟩
theorem cr_dictX (hc : X.calm = true) (hu : X.A.units + 100 < cLine) : CallR X (.type "dict") (fun xs H Q => ∃ a kvs Ts, xs = [.ref a] ∧ SqL X.K H a (Ts.map V.ref) ∧ RwOk X.K H kvs ∧ Paired (fun T x => SqT X.K H T [.ref x.2.1, x.2.2]) Ts kvs ∧
    ∀ p, H p = none → Q (.ref p) (upd H p (dxO X.prog X.w p (putAllR [] kvs)))) := by
  intro pins s σ H xs us Q I r h
  obtain ⟨a, kvs, Ts, rfl, hq, hk, hp, q⟩ := h
  obtain ⟨u, rfl, rx⟩ := vals1 r
  cases rx
  obtain ⟨its, rv, pl, hz⟩ := I.list hq
  have ei := refs_at rv
  subst ei
  rw [List.length_map] at hz
  obtain ⟨qs, rel, hl, hT⟩ := vals_rows I hp
  obtain ⟨o, n, ho, hc', hd, hdat⟩ := pl
  have hkl : kvs.length = Ts.length := (Paired.length hp).symm
  refine call_dict_pairsH (knd := nestedKind X.prog X.w) (ps := qs) (PairArg.list a (Ts.map Value.ref).toArray (fun j => Ts.getD j 0) (qs.map fun q => (Value.ref q.2.1, q.2.2))) (I.ok.hd hc) (room8' hu) ⟨⟨o, n, ho, hc', hd, hdat⟩, by simp [hl], fun j k v hj => ?_⟩ ⟨by simp, fun i key v hj => ?_⟩ (fun h' hk' x hx => ?_) (by simp [hl]; exact hz) fun h' tk dd hkeep => ?_
  · obtain ⟨T, q1, q2⟩ := hT j k v hj
    exact ⟨by simp [q1, List.getD], .inl (by simpa [List.getD, q1] using q2)⟩
  · have hj' : (qs.map fun q => (Value.ref q.2.1, q.2.2))[i]? = some (key, v) := hj
    rw [List.getElem?_map, Option.map_eq_some_iff] at hj'
    obtain ⟨⟨k, b, v'⟩, h1, h2⟩ := hj'
    cases h2
    exact ⟨k, b, h1, rfl⟩
  · obtain ⟨y, hy, e1, e2, _⟩ := paired_mem rel x hx
    obtain ⟨d1, d2⟩ := hk y hy
    rw [← e1, ← e2]
    refine ⟨NestedIs.at (fun b ob vs m hb hd' => hk' b ob (fun z => ?_) (by simp) hb) _ _ (nested_of I d1 rfl), d2⟩
    exact absurd (Heap.lt_size hb) (by rw [z]; exact Nat.lt_irrefl _)
  · have hm : (s.heap.objs.size == sysModules) = false := beq_eq_false_iff_ne.mpr (Nat.ne_of_gt I.big)
    obtain ⟨o', es, ep, g1, g2, g3, g4, _, g5⟩ := dd
    refine ⟨.ref s.heap.objs.size, _, I.laid (a := s.heap.objs.size) (t' := tk) (fun b o e => hkeep b o (by simp) e) (Nat.le_refl _) (dx_ok ⟨?_, hm, _, RwRel.putAll rel .nil, o', es, ep, g1, g2, g3, g4, g5⟩), rfl, q _ (I.hok.fresh (Nat.le_refl _))⟩
    have := putAllR_len kvs []
    simp only [List.length_nil] at this
    omega
where
  room8' {X : Cx} (hu : X.A.units + 100 < cLine) : (nestedKind X.prog X.w).room X.A.in1.in1 := by
    show X.A.in1.in1.units + 8 < cLine
    have : X.A.in1.in1.units = X.A.units + 2 := rfl
    omega
theorem cr_sortedX (hc : X.calm = true) (hu : X.A.units + 100 < cLine) : CallR X (.builtin "sorted") (fun xs H Q => ∃ a kvs HF, Ex HF H ∧ xs = [.ref a] ∧ H a = some (dxO X.prog X.w a kvs) ∧ RwOk X.K HF kvs ∧ PySem.W.AllAlike (kvs.map (·.1.data)) ∧ PySem.W.Sortable (kvs.map (·.1.data)) ∧
    ∀ p zs, H p = none → DpAll X.K HF zs (sortD (kvs.map (·.1.data))) → Q (.ref p) (upd H p (.lst zs))) := by
  intro pins s σ H xs us Q I r h
  obtain ⟨a, kvs, HF, ex, rfl, e, rk, hal, hso, q⟩ := h
  obtain ⟨u, rfl, rx⟩ := vals1 r
  cases rx
  obtain ⟨⟨z1, z2, rws, rel, o, es, ep, e1, e2, e3, e4, e5⟩, _⟩ := (show ObjOk X.prog X.w H s.heap a (dxO X.prog X.w a kvs) from I.hok a _ e)
  have l1 : es.size = rws.length := size_of_entries e4
  have l2 : kvs.length = rws.length := Paired.length rel
  refine Calls.call_function_entry PyProof.Rows.kind_sorted PyProof.Rows.plain_sorted PyProof.Rows.entry_sorted (PyProof.Rows.args_sorted1 _) ?_
  unfold Builtin.«sorted»
  refine wpAny_bind (m := checkCount "sorted" 1 1 _) (wpAny_pure ?_)
  refine wpAny_bind (PySem.W.kdu_collect (A := X.A.in1) (kdl_raw z2 e2 e3) (I.ok.hd hc) e1 (by omega) fun h' tk acc hk hacc => ?_)
  have ea : acc.toList = kvs.map fun x => Value.ref x.2.1 := by
    have hl : acc.toList.length = kvs.length := by rw [Array.length_toList, hacc.1]; omega
    apply List.ext_getElem?
    intro j
    rw [List.getElem?_map]
    cases hj : acc.toList[j]? with
    | none =>
      have h1 := List.getElem?_eq_none_iff.mp hj
      rw [List.getElem?_eq_none (by omega)]
      rfl
    | some v =>
      obtain ⟨en, hen, hv⟩ := hacc.2 j v (by rw [← Array.getElem?_toList]; exact hj)
      have qe := entry_at e4 j
      rw [hen] at qe
      cases hb : rws[j]? with
      | none => rw [hb] at qe; cases qe
      | some b =>
        rw [hb] at qe
        have e6 : en = entryOfKey (nestedKind X.prog X.w) b := Option.some.inj qe
        obtain ⟨x, hx, g1, g2, g3⟩ := paired_at rel hb
        rw [hx, hv, e6]
        show some (Value.ref b.2.1) = some (Value.ref x.2.1)
        rw [g2]
  have I1 : Inv X pins σ H { s with heap := h', toks := tk } := I.kept hk
  have hds : DpAll X.K HF (kvs.map fun x => V.ref x.2.1) (kvs.map (·.1.data)) := by
    have go : ∀ l : Rw, (∀ x ∈ l, x ∈ kvs) → DpAll X.K HF (l.map fun x => V.ref x.2.1) (l.map (·.1.data)) := by
      intro l
      induction l with
      | nil => intro _; exact .nil
      | cons x l ih => intro hm; exact .cons (rk x (hm x List.mem_cons_self)).1 (ih fun y hy => hm y (List.mem_cons_of_mem _ hy))
    exact go kvs fun _ h => h
  have hvs : Vals (kvs.map fun x => V.ref x.2.1) acc.toList := by
    rw [ea]
    have go : ∀ l : Rw, Vals (l.map fun x => V.ref x.2.1) (l.map fun x => Value.ref x.2.1) := by
      intro l
      induction l with
      | nil => exact .nil
      | cons x l ih => exact .cons rfl ih
    exact go kvs
  have hal' : acc.toList.length = kvs.length := by rw [ea, List.length_map]
  refine wpAny_bind (wpAny_newList ?_ (by rw [hal']; exact z1))
  have hoL : (h'.push (seqObj "list" acc.toList.toArray 0)).get? h'.objs.size = some (seqObj "list" acc.toList.toArray 0) := Heap.get?_push_size _ rfl
  show wpAny _ _ _ _ _ { s with heap := h'.push (seqObj "list" acc.toList.toArray 0), toks := tk }
  have hkeep : ∀ b o, h'.get? b = some o → (PySem.W.sortingHeap (h'.push (seqObj "list" acc.toList.toArray 0)) h'.objs.size acc.toList).get? b = some o := fun b o e => PySem.W.sortingHeap_old (Nat.ne_of_lt (Heap.lt_size e)) (Heap.get?_push_of_some _ e)
  have er := (each_reads I1 hvs (dpAll_mono ex hds)).mono (R' := fun v b => ∃ as, Reads (PySem.W.sortingHeap (h'.push (seqObj "list" acc.toList.toArray 0)) h'.objs.size acc.toList) v (id b) as) fun _ _ ⟨as, r⟩ => ⟨as, PyProof.Rows.Reads.keeps hkeep r⟩
  have hS := PySem.W.SortsAt.data (prog := X.prog) (w := X.w) (A := X.A.in1.in1) (s := { s with heap := PySem.W.sortingHeap (h'.push (seqObj "list" acc.toList.toArray 0)) h'.objs.size acc.toList, toks := tk }) er hal hso (fun d hd => by
    obtain ⟨x, hx, rfl⟩ := List.mem_map.mp hd
    have h8 := (rk x hx).2
    have h9 : ∀ k : NK, k.data.depth = k.depth := data_depth
    rw [h9]
    show X.A.in1.in1.units + _ < _
    have : X.A.in1.in1.units = X.A.units + 2 := rfl
    omega)
  refine wpAny_bind (wpAny_holding (wpAny_call_entry PyProof.Rows.slot_list_sort ⟨_, hoL, rfl⟩ PyProof.Rows.entry_list_sort
    (PySem.W.list_sort_vals (s := { s with heap := h'.push (seqObj "list" acc.toList.toArray 0), toks := tk }) hoL hS (by rw [hal']; exact z1) ⟨_, rfl, ?_⟩)
    (PyProof.Rows.args_list_sort _)))
  have he := PySem.W.sortVals_data (enc := id) false (each_rel (K := X.K) (H := HF) hvs hds) er (by rw [List.map_id]; exact hal)
  rw [List.map_id] at he
  obtain ⟨zs, y1, y2⟩ := rel_each he
  obtain ⟨n', hn'⟩ := sortedHeap_at (out := (PySem.W.sortVals (PySem.W.dataKind (PySem.W.sortingHeap (h'.push (seqObj "list" acc.toList.toArray 0)) h'.objs.size acc.toList) (kvs.map (·.1.data))) false acc.toList acc.toList).toArray) (vs := acc.toList) hoL
  have hf := I1.hok.fresh (Nat.le_refl h'.objs.size)
  refine wpAny_pure ⟨_, rfl, ?_⟩
  refine ⟨.ref h'.objs.size, upd H h'.objs.size (.lst zs), I1.laid (t' := tk) (fun b o e => ?_) (Nat.le_refl _) ?_, rfl, q _ zs hf y2⟩
  · have hlt := Heap.lt_size e
    refine (sortedHeap_old (Nat.ne_of_lt hlt) ?_).trans (Heap.get?_push_of_some _ e)
    rw [Heap.size_push]; exact Nat.lt_succ_of_lt hlt
  · refine (show ObjOk X.prog X.w _ _ _ (.lst zs) from ⟨?_, _, n', y1, hn'⟩)
    have hlz : zs.length = kvs.length := by rw [dpAll_len y2, List.length_mergeSort, List.length_map]
    rw [hlz]; exact z1
end
section
variable {X Y : Cx} {N : List Str} {sc : Scope} {ok : Str → Bool} {G : Reg} {env env1 env2 env3 env' : Ev} {A B S : As} {P R : FP} {e a b : Expr} {es : List Expr} {pos : Pos} {x : Str} {K : PySem.W.Frag} {own : List Nat} {elt : Expr}
theorem cd_dictX {M : Tb} (hc : X.calm = true) (hu : X.A.units + 100 < cLine) (hM : ∀ p ∈ M, tupK p.1 = true ∧ p.1.depth ≤ 8) : CallD X (.type "dict") [dD X.K (.list (M.map pairD))] [dD X.K (.list (M.map pairD))] ((oDc X.prog X.w X.K (putAllL [] M)).at none) :=
  ⟨rfl, _, cr_dictX hc hu, fun G T env σ H vs hl hs Q q => by
    obtain ⟨v, rfl⟩ := zip1 hl
    have hs2 : StA G ((v, dD X.K (.list (M.map pairD))) :: (v, dD X.K (.list (M.map pairD))) :: T) env σ H := StA.dup hs
    obtain ⟨HF, o1, o2, h1, ha, t, s⟩ := hs2.one'
    obtain ⟨p, xs, e, h2, h3⟩ := dpLt ha
    obtain ⟨kvs, Ts, rfl, h4, h5, h6⟩ := rows_of h3 hM
    have ex := h1.inH
    exact ⟨p, kvs, Ts, by rw [e], SqL.of (ex _ _ h2), h5.mono ex, Paired.mapP h6 fun _ _ z => ex.t z, fun p' hp => q _ _ (StA.newO h1 t s hp ⟨fun _ z => (nomatch z), p', _, rfl, rfl, putAllR_ok (fun _ z => (by cases z)) h5, rowsD_putAll h4 .nil⟩)⟩⟩
theorem rowsD_keys {H : Hp} : ∀ {kvs : Rw} {L : Tb}, RowsD K H kvs L → kvs.map (·.1.data) = L.map (·.1.data)
  | _, _, .nil => rfl
  | _, _, .cons r t => by rw [List.map_cons, List.map_cons, rowsD_keys t, r.1]
theorem cd_sortedX {L : Tb} (hc : X.calm = true) (hu : X.A.units + 100 < cLine) (hal : PySem.W.AllAlike (L.map (·.1.data))) (hk : PySem.W.Sortable (L.map (·.1.data))) : CallD X (.builtin "sorted") [.fz (isX X.prog X.w X.K L)] [.fz (isX X.prog X.w X.K L)] (oLn X.K (sortD (L.map (·.1.data)))) :=
  ⟨rfl, _, cr_sortedX hc hu, fun G T env σ H vs hl hs Q q => by
    obtain ⟨v, rfl⟩ := zip1 hl
    have hs2 : StA G ((v, .fz (isX X.prog X.w X.K L)) :: (v, .fz (isX X.prog X.w X.K L)) :: T) env σ H := StA.dup hs
    obtain ⟨HF, o1, o2, h1, ⟨a', kvs, e, h2, h3, h4⟩, t, s⟩ := hs2.one'
    rw [← rowsD_keys h4] at hal hk q
    exact ⟨a', kvs, HF, h1.inH, by rw [e], h1.inH _ _ h2, h3, hal, hk, fun p' zs hp hz => q _ _ (StA.newO h1 t s hp ⟨fun _ z => (nomatch z), p', zs, rfl, rfl, hz⟩)⟩⟩
end
end DL

set_option maxHeartbeats 4000000
/-! DL15: tuples that are asked by methods, dicts of texts, star displays, index, extend, insert. -/
namespace DL
open PySem PySem.Spec PyProof.Rows L2

/-- a tuple without attributes of its own, known to the object -/
def isT0 (K : PySem.W.Frag) (ds : List PyData) : FP := ⟨fun H v => ∃ a xs o, v = .ref a ∧ H a = some (.frz o (.tup xs)) ∧ o.dict = none ∧ o.cls = .type "tuple" ∧ DpAll K H xs ds, fun e ⟨a, xs, o, h1, h2, h3, h4, h5⟩ => ⟨a, xs, o, h1, e _ _ h2, h3, h4, dpAll_mono e h5⟩⟩
theorem isT0_t {K : PySem.W.Frag} {ds : List PyData} {HF : Hp} {v : V} (h : (isT0 K ds).p HF v) : (isD K (.tuple ds)).p HF v := by
  obtain ⟨a, xs, o, rfl, h2, _, _, h5⟩ := h
  exact Dp.tup (.inl (.inr ⟨o, h2⟩)) h5
section
variable {X Y : Cx} {N : List Str} {sc : Scope} {ok : Str → Bool} {G : Reg} {env env1 env2 env3 env' : Ev} {A B S R' : As} {P R : FP} {e a b : Expr} {es : List Expr} {pos : Pos} {x : Str} {K : PySem.W.Frag} {own : List Nat} {elt : Expr}
theorem de_t0 {ds : List PyData} (h : DE X G env e env1 A) (hA : A.fr = isT0 X.K ds) : DE X G env e env1 (dD X.K (.tuple ds)) :=
  de_say (de_frz h) fun HF v o hp => by
    rw [hA] at hp
    exact ⟨hp.1, isT0_t hp.2⟩
theorem cr_tuple0 : CallR X (.type "tuple") (fun xs H Q => ∃ p ys, xs = [.ref p] ∧ SqL X.K H p ys ∧ ∀ l o, H l = none → o.dict = none → o.cls = .type "tuple" → Q (.ref l) (upd H l (.frz o (.tup ys)))) := by
  intro pins s σ H xs us Q I r h
  obtain ⟨p, ys, rfl, hq, q⟩ := h
  obtain ⟨u, rfl, rx⟩ := vals1 r
  cases rx
  obtain ⟨its, r', pl, hz⟩ := I.list hq
  have hlen := r'.length
  refine call_tuple_list pl.isList (fun h' kp => ?_) (by simp only [List.size_toArray]; omega)
  have I1 : Inv X pins σ H { s with heap := h' } := I.kept (t' := s.toks) kp
  refine ⟨.ref h'.objs.size, _, I1.laid (a := h'.objs.size) (o := .frz { cls := .type "tuple", data := .seq its.toArray } (.tup ys)) (t' := s.toks) (fun _ _ e => Heap.get?_push_of_some _ e) (Nat.le_refl _) ?_, rfl, q _ _ (I1.hok.fresh (Nat.le_refl _)) rfl rfl⟩
  have e := Heap.get?_push_size h' (o := { cls := .type "tuple", data := .seq its.toArray }) rfl
  exact ⟨e, hz, its, r', _, e, rfl, _, rfl⟩
theorem cd_tuple0 {ds : List PyData} : CallD X (.type "tuple") [dD X.K (.list ds)] [dD X.K (.list ds)] (.fz (isT0 X.K ds)) :=
  ⟨rfl, _, cr_tuple0, fun G T env σ H vs hl hs Q q => by
    obtain ⟨v, rfl⟩ := zip1 hl
    have hs2 : StA G ((v, dD X.K (.list ds)) :: (v, dD X.K (.list ds)) :: T) env σ H := StA.dup hs
    obtain ⟨HF, o1, o2, h1, ha, t, s⟩ := hs2.one'
    obtain ⟨p, xs, e, h2, h3⟩ := dpLt ha
    exact ⟨p, xs, by rw [e], SqL.of (h1.inH _ _ h2), fun l o hl0 ho hcl => q _ _ (StA.newF h1 t s hl0 ⟨l, xs, o, rfl, upd_same, ho, hcl, dpAll_mono (Ex.new (h1.hf hl0)) h3⟩)⟩⟩
/-- t.index(z), z a text, t such a tuple of texts -/
theorem pe_tindex {o : Expr} {to : TE} {t : TA} {apos cpos : Pos} (ho : PE X o to) (ha : PA X [e] t) (hbase : attributeBase o "index" X.env (eval o X.env) = eval o X.env) (hfew : ((backTo cpos (starEach [e] X.env)).all (fun x => !x.1) && (backToKw cpos (keywordEach [] X.env)).all (fun x => x.1.isSome)
      && decide ([e].length + ([] : List Keyword).length + (if ([] : List Keyword).isEmpty then 0 else 1) < 30)) = true)
    (hline : (apos.endLine == cpos.line) = true) (hs : starEach [e] X.env = (false, eval e X.env) :: starEach [] X.env) (hplain : (backTo cpos (starEach [] X.env)).any (·.1) = false) :
    PE X (.Call (.Attribute o "index" apos) [e] [] cpos) (fun σ H Q => to σ H fun x H1 => (∃ p ob xs, x = .ref p ∧ H1 p = some (.frz ob (.tup xs)) ∧ ob.dict = none ∧ ob.cls = .type "tuple") ∧ t σ H1 fun xs H2 => ∃ p, ∃ ys : List Str, ∃ z j, x = .ref p ∧ xs = [.str z] ∧ SqT X.K H2 p (ys.map V.str) ∧ ys[j]? = some z ∧ (∀ m, m < j → ys[m]? ≠ some z) ∧ Q (.int (j : Nat)) H2) := by
  refine ⟨fun pins s σ H Q I h => ?_⟩
  refine wpAny_Call_method_late hbase hfew hline rfl (thn (ho.run pins s σ H _ I h) fun v s1 ⟨x, H1, I1, r1, ⟨p, ob, xs, ex, hp, hd, hc⟩, q1⟩ => ?_)
  subst ex
  obtain rfl : v = Value.ref p := r1
  obtain ⟨g1, _⟩ := (show ObjOk X.prog X.w H1 s1.heap p (.frz ob (.tup xs)) from I1.hok p _ hp)
  refine ⟨"tuple", "tuple.index", PySem.F.plainAttrs_tuple, PySem.F.slot_tuple_index, PySem.F.type_tuple_index, ⟨ob, g1, hc⟩, fun a e => by cases e; exact ⟨ob, g1, hd⟩, ?_⟩
  have hA := ha.run cpos pins s1 σ H1 _ I1 q1
  rw [hs] at hA ⊢
  refine Calls.callWith_builtin (by show (false || (backTo cpos (starEach [] X.env)).any (·.1)) = false; rw [hplain]; rfl) (Calls.evalArgs_plain ?_)
  exact thn hA fun us s2 ⟨vs, H2, I2, r2, q2⟩ => mt_tup_index pins s2 σ H2 (.ref p) vs (.ref p) us Q I2 rfl r2 q2
theorem dpAll_strs' {H : Hp} {xs : List V} {zs : List Str} (h : DpAll K H xs (zs.map .str)) : xs = zs.map V.str := dpAll_strs h
theorem de_indexT {zs : List Str} {z : Str} {j : Nat} {apos cpos : Pos} (ha : DE X G env a env1 A) (hA : A.fr = isT0 X.K (zs.map .str)) (hb : DE X G env1 b env2 (dD X.K (.str z))) (hj : zs[j]? = some z) (hn : ∀ m, m < j → zs[m]? ≠ some z)
    (hbase : attributeBase a "index" X.env (eval a X.env) = eval a X.env := by rfl) (hfew : ((backTo cpos (starEach [b] X.env)).all (fun x => !x.1) && (backToKw cpos (keywordEach [] X.env)).all (fun x => x.1.isSome)
      && decide ([b].length + ([] : List Keyword).length + (if ([] : List Keyword).isEmpty then 0 else 1) < 30)) = true := by rfl)
    (hline : (apos.endLine == cpos.line) = true := by rfl) (hs : starEach [b] X.env = (false, eval b X.env) :: starEach [] X.env := by rfl) (hplain : (backTo cpos (starEach [] X.env)).any (·.1) = false := by rfl) :
    DE X G env (.Call (.Attribute a "index" apos) [b] [] cpos) env2 (dD X.K (.int (j : Nat))) :=
  de_of (pe_tindex cE_pe (pa_cons cE_pe pa_nil hs) hbase hfew hline hs hplain) fun T σ H hs' Q q => ha T σ H hs' _ fun va H1 h1 => by
    have h2 := h1.freeze
    rw [hA] at h2
    obtain ⟨HF, ex, p, xs, o, rfl, g2, g3, g4, g5⟩ := h2.one
    refine ⟨⟨p, o, xs, rfl, ex _ _ g2, g3, g4⟩, ?_⟩
    refine hb _ σ H1 h2 _ fun vb H2 h3 => ?_
    obtain ⟨HF2, ex2, k1, k2⟩ := h3.two
    obtain ⟨p', xs', o', e', g2', g3', g4', g5'⟩ := k1
    cases e'
    rw [dpAll_strs g5'] at g2'
    exact ⟨p, zs, z, j, rfl, by rw [dpS k2], .inl (.inr ⟨o', ex2 _ _ g2'⟩), hj, hn, q _ H2 (h3.pop.pop.push isD_int)⟩

/-! ### locked dicts of texts -/
def isS (kvs : List (Key × V)) : FP := ⟨fun H v => ∃ a od, v = .ref a ∧ H a = some (.frz od (.dK kvs)), fun e ⟨a, od, h1, h2⟩ => ⟨a, od, h1, e _ _ h2⟩⟩
theorem cr_dictS (hc : X.calm = true) : CallR X (.type "dict") (fun xs H Q => ∃ (a : Addr) (ps : List Addr) (kvs : List (Key × V)), xs = [.ref a] ∧ SqL X.K H a (ps.map V.ref) ∧ Paired (fun p kv => SqT X.K H p [kV kv.1, kv.2]) ps kvs ∧
    ∀ p od, H p = none → Q (.ref p) (upd H p (.frz od (.dK (mergeK [] kvs))))) := by
  intro pins s σ H xs us Q I r h
  obtain ⟨a, ps, kvs, h1, h2, h3, q⟩ := h
  refine thn (call_dictP hc pins s σ H xs us (fun v H' => ∃ p, v = .ref p ∧ H p = none ∧ H' = upd H p (.dK (mergeK [] kvs))) I r ⟨a, ps, kvs, h1, h2, h3, fun p hp => ⟨p, rfl, hp, rfl⟩⟩) fun u s' ⟨v, H', I', ru, p, ev, hp, eH⟩ => ?_
  subst ev eH
  obtain ⟨od, I2⟩ := I'.lock upd_same (by trivial)
  rw [upd_upd] at I2
  exact ⟨_, _, I2, ru, q p od hp⟩
def pairS (p : Str × Str) : PyData := .tuple [.str p.1, .str p.2]
def kvS (p : Str × Str) : Key × V := (.inr p.1, .str p.2)
theorem prs_of {H : Hp} : ∀ {xs : List V} {L : List (Str × Str)}, DpAll K H xs (L.map pairS) → ∃ ps : List Addr, xs = ps.map V.ref ∧ Paired (fun p kv => SqT K H p [kV kv.1, kv.2]) ps (L.map kvS)
  | _, [], .nil => ⟨[], rfl, .nil⟩
  | _, p :: L, .cons d t => by
    obtain ⟨ps, rfl, h1⟩ := prs_of t
    cases (show Dp K H _ (.tuple [.str p.1, .str p.2]) from d) with
    | @tup T ys _ e1 e2 =>
      cases e2 with
      | cons a1 a2 =>
        cases a2 with
        | cons b1 b2 =>
          cases b2
          cases a1
          cases b1
          exact ⟨T :: ps, rfl, .cons e1 h1⟩
theorem cd_dictS {L : List (Str × Str)} (hc : X.calm = true) : CallD X (.type "dict") [dD X.K (.list (L.map pairS))] [dD X.K (.list (L.map pairS))] (.fz (isS (mergeK [] (L.map kvS)))) :=
  ⟨rfl, _, cr_dictS hc, fun G T env σ H vs hl hs Q q => by
    obtain ⟨v, rfl⟩ := zip1 hl
    have hs2 : StA G ((v, dD X.K (.list (L.map pairS))) :: (v, dD X.K (.list (L.map pairS))) :: T) env σ H := StA.dup hs
    obtain ⟨HF, o1, o2, h1, ha, t, s⟩ := hs2.one'
    obtain ⟨p, xs, e, h2, h3⟩ := dpLt ha
    obtain ⟨ps, rfl, h4⟩ := prs_of h3
    have ex := h1.inH
    exact ⟨p, ps, L.map kvS, by rw [e], SqL.of (ex _ _ h2), Paired.mapP h4 fun _ _ z => ex.t z, fun p' od hp => q _ _ (StA.newF h1 t s hp ⟨p', od, rfl, upd_same⟩)⟩⟩
theorem cr_lenS : CallR X (.builtin "len") (fun xs H Q => ∃ a kvs, xs = [.ref a] ∧ Rd H a (.dK kvs) ∧ Q (.int kvs.length) H) := by
  intro pins s σ H xs us Q I r h
  obtain ⟨a, kvs, rfl, e, q⟩ := h
  obtain ⟨u, rfl, rx⟩ := vals1 r
  cases rx
  exact d_len I e fun t s' I' => ⟨.int kvs.length, H, I', ⟨t, rfl⟩, q⟩
theorem cd_lenDS {kvs : List (Key × V)} : CallD X (.builtin "len") [.fz (isS kvs)] [.fz (isS kvs)] (dD X.K (.int kvs.length)) :=
  cd_one cr_lenS (.int kvs.length) isD_int fun HF H va ex ⟨a, od, e, h⟩ Q q => ⟨a, kvs, by rw [e], .inr ⟨od, ex _ _ h⟩, q⟩
/-- d[z] -/
theorem de_getS {kvs : List (Key × V)} {z y : Str} (ha : DE X G env a env1 A) (hA : A.fr = isS kvs) (hb : DE X G env1 b env2 (dD X.K (.str z))) (hv : valV kvs (.inr z) = some (.str y)) (hu : X.A.units + 1 < cLine) (hs : NoSl b := by exact fun _ _ => rfl) : DE X G env (.Subscript a b pos) env2 (dD X.K (.str y)) :=
  de_of (pe_dget hu cE_pe cE_pe hs) fun T σ H hs Q q => ha T σ H hs _ fun va H1 h1 => hb _ σ H1 h1.freeze _ fun vb H2 h2 => by
    rw [hA] at h2
    obtain ⟨HF, ex, ⟨p, od, e1, e2⟩, k2⟩ := h2.two
    exact ⟨p, .str y, e1, .inl ⟨kvs, .inr z, .inr ⟨od, ex _ _ e2⟩, dpS k2, hv.symm⟩, q _ H2 (h2.pop.pop.push isD_str)⟩
theorem de_getMS {kvs : List (Key × V)} {z y : Str} {apos cpos : Pos} (ha : DE X G env a env1 A) (hA : A.fr = isS kvs) (hb : DE X G env1 b env2 (dD X.K (.str z))) (hv : valV kvs (.inr z) = some (.str y)) (hu : X.A.units + 1 < cLine) (hbase : attributeBase a "get" X.env (eval a X.env) = eval a X.env := by rfl)
    (hfew : ((backTo cpos (starEach [b] X.env)).all (fun x => !x.1) && (backToKw cpos (keywordEach [] X.env)).all (fun x => x.1.isSome) && decide (([b] : List Expr).length + ([] : List Keyword).length + (if ([] : List Keyword).isEmpty then 0 else 1) < 30)) = true := by rfl)
    (hline : (apos.endLine == cpos.line) = true := by rfl) (htr : backTo cpos (starEach [b] X.env) = [(false, eval b X.env)] := by rfl) : DE X G env (.Call (.Attribute a "get" apos) [b] [] cpos) env2 (dD X.K (.str y)) :=
  de_of (pe_dget1 hu cE_pe cE_pe ⟨hbase, hfew, hline, htr⟩) fun T σ H hs Q q => ha T σ H hs _ fun va H1 h1 => by
    have h1' := h1.freeze
    rw [hA] at h1'
    obtain ⟨HF1, ex1, p1, od1, e1, e2⟩ := h1'.one
    refine ⟨p1, e1, .inl ⟨kvs, .inr ⟨od1, ex1 _ _ e2⟩⟩, hb _ σ H1 h1' _ fun vb H2 h2 => ?_⟩
    obtain ⟨HF, ex, ⟨p, od, e1', e2⟩, k2⟩ := h2.two
    rw [e1] at e1'; cases e1'
    refine ⟨some (.str y), .inl ⟨kvs, .inr z, .inr ⟨od, ex _ _ e2⟩, dpS k2, hv.symm⟩, q _ H2 (h2.pop.pop.push isD_str)⟩
def keyD : Key → PyData
  | .inl i => .int i
  | .inr z => .str z
theorem keyD_p {HF : Hp} : ∀ k : Key, (isD K (keyD k)).p HF (kV k)
  | .inl _ => Dp.int _
  | .inr _ => Dp.str _
def isSo (d : Addr) (od : Obj) (kvs : List (Key × V)) : FP := ⟨fun H v => v = .ref d ∧ H d = some (.frz od (.dK kvs)), fun e h => ⟨h.1, e _ _ h.2⟩⟩
theorem walks_kS {d : Addr} {od : Obj} {kvs : List (Key × V)} : Walks X G (Itk d od kvs) [(.ref d, .fz (isSo d od kvs))] (kvs.map fun p => isD X.K (keyD p.1)) := fun i T env σ H hs => by
  obtain ⟨HF, ex, _, h2⟩ := StA.one hs
  have hd := ex _ _ h2
  refine ⟨fun P hP => ?_, fun hn => ⟨hd, by simpa using hn⟩⟩
  rw [List.getElem?_map, Option.map_eq_some_iff] at hP
  obtain ⟨⟨k, v⟩, hk, rfl⟩ := hP
  refine ⟨⟨hd, (List.getElem?_eq_some_iff.mp hk).1⟩, fun x H' y => ?_⟩
  obtain ⟨rfl, k', v', h3, rfl⟩ := y
  rw [hk] at h3; cases h3
  exact StA.push hs fun HF => keyD_p k
theorem di_keysS {kvs : List (Key × V)} {tg : Expr} (h : DE X G env e env1 A) (hA : A.fr = isS kvs) : DI true X G env tg e env1 (kvs.map fun p => isD X.K (keyD p.1)) :=
  ⟨_, pi_keys cE_pe, fun T σ H hs R r => h T σ H hs _ fun v H1 h1 => by
    have h2 := h1.freeze
    rw [hA] at h2
    obtain ⟨HF, o1, o2, k1, ⟨d, od, e1, e2⟩, t, s⟩ := h2.one'
    refine ⟨d, od, e1, .inl ⟨kvs, k1.inH _ _ e2, r _ H1 [(.ref d, .fz (isSo d od kvs))] ?_ walks_kS⟩⟩
    subst e1
    exact ⟨HF, [] ++ o1, o2, k1, .cons (A := .fz (isSo d od kvs)) ⟨rfl, rfl, e2⟩ t, s⟩⟩

/-! ### star displays -/
def isXs (xs : List V) (ds : List PyData) (K : PySem.W.Frag) : FP := ⟨fun H _ => DpAll K H xs ds, fun e h => dpAll_mono e h⟩
theorem tm_datas {HF : Hp} : ∀ {xs : List V} {ds : List PyData}, DpAll K HF xs ds → Tm HF [] (xs.zip (ds.map (dD K)))
  | _, _, .nil => .nil
  | _, _, .cons d t => Tm.cons (A := dD K _) (o := []) (os := []) ⟨rfl, d⟩ (tm_datas t)
theorem dad_star {ds0 ds : List PyData} {sp : Pos} (h : DE X G env e env1 A) (hA : A.fr = isD X.K (.list ds0)) (hr : DAD X G env1 es env2 ds) (hst : starEach (.Starred e sp :: es) X.env = (true, eval e X.env) :: starEach es X.env := by rfl) : DAD X G env (.Starred e sp :: es) env2 (ds0 ++ ds) :=
  fun T σ H hs Q q => of_pa (StX.pa_star cE_pe cA_pa hst) (h T σ H hs _ fun v H1 h1 => by
    have h2 := h1.freeze
    rw [hA] at h2
    obtain ⟨HF, o1, o2, k1, ha, t, s⟩ := h2.one'
    obtain ⟨p, xs, rfl, h3, h4⟩ := dpL ha
    have h2' : StA G ((.ref p, .fz (isXs xs ds0 X.K)) :: T) env1 σ H1 := ⟨HF, [] ++ o1, o2, k1, .cons (A := .fz (isXs xs ds0 X.K)) ⟨rfl, h4⟩ t, s⟩
    refine ⟨p, xs, rfl, .inr (k1.inH.l h3), hr _ σ H1 h2' _ fun vs H2 hl h5 => q (xs ++ vs) H2 ?_ ?_⟩
    · have := dpAll_len h4
      simp only [List.length_append, List.map_append, List.length_map] at hl ⊢
      omega
    · obtain ⟨HF2, o1, o2, k1, kt, ks⟩ := h5
      obtain ⟨oa, ob, rfl, k2, k3⟩ := kt.split
      cases k3 with
      | @cons _ _ oc od _ ac tt =>
        obtain ⟨rfl, ac⟩ := ac
        have ac' : DpAll X.K HF2 xs ds0 := ac
        have hlen := dpAll_len ac'
        refine ⟨HF2, [] ++ (oa ++ od), o2, by simpa using k1, ?_, ks⟩
        rw [List.map_append, List.zip_append (by simpa using hlen), List.append_assoc]
        exact (tm_datas ac').join (k2.join tt))
end
end DL

set_option maxHeartbeats 4000000
/-! DL16: more. -/
namespace DL
open PySem PySem.Spec PyProof.Rows L2
section
variable {X Y : Cx} {N : List Str} {sc : Scope} {ok : Str → Bool} {G : Reg} {env env1 env2 env3 env' : Ev} {A B S R' : As} {P R : FP} {e a b : Expr} {es : List Expr} {pos : Pos} {x : Str} {K : PySem.W.Frag} {own : List Nat} {elt : Expr}
theorem dt_chain {op op' : CmpOp} {c : Expr} {k1 k2 : Bool} {C : As} (ha : DE X G env a env1 A) (hb : DE X G env1 b env2 (.fz P)) (ho : OpD X (compareOp op) A.fr P (dD X.K (.bool k1))) (hc : DE X G env2 c env2 C) (ho' : OpD X (compareOp op') P C.fr (dD X.K (.bool k2)))
    (hm : lastMarks [op, op'] [b, c] = false := by with_unfolding_all rfl) : DT X G env (.Compare a [op, op'] [b, c] pos) env2 (k1 && k2) := by
  obtain ⟨r, hr, k⟩ := ho
  obtain ⟨r', hr', k'⟩ := ho'
  intro T σ H hs Q q
  refine of_pt (pt_chain hr hr' cE_pe cE_pe cE_pe hm) (ha T σ H hs _ fun va H1 h1 => hb _ σ H1 h1.freeze _ fun vb H2 h2 => ?_)
  refine k G ((vb, .fz P) :: T) env2 σ H2 va vb (h2.dup.perm (.cons _ (.swap _ _ _))) _ fun v H' h' => ?_
  cases h'.bl
  cases k1 with
  | true => exact ⟨true, rfl, hc _ σ H' h'.pop _ fun vc H3 h3 => k' G T env2 σ H3 vb vc h3.freeze _ fun v4 H4 h4 => ⟨k2, h4.bl, q H4 h4.pop⟩⟩
  | false => exact ⟨false, rfl, false, rfl, q H' h'.pop.pop⟩
theorem isL_d {HF : Hp} {v : V} {ds : List PyData} (h : (isL (ds.map (isD K))).p HF v) : (isD K (.list ds)).p HF v := by
  obtain ⟨a, xs, rfl, h2, h3⟩ := h
  exact Dp.lst h2 (all2_dp h3)
theorem de_isL {ds : List PyData} (h : DE X G env e env1 A) (hA : A.fr = isL (ds.map (isD X.K))) : DE X G env e env1 (dD X.K (.list ds)) :=
  de_say (de_frz h) fun HF v o hp => by
    rw [hA] at hp
    exact ⟨hp.1, isL_d hp.2⟩
/-- a matrix of one's own, read -/
theorem oM_fr (rows : List (List PyData)) : ((oM K rows).at none).fr = isL ((rows.map .list).map (isD K)) := by
  show isL ((rows.map fun r => (oL K r).at none).map As.fr) = _
  rw [List.map_map, List.map_map]
  rfl
end
end DL

set_option maxHeartbeats 4000000
/-! DL17: comprehensions of one clause, ready to hand. -/
namespace DL
open PySem PySem.Spec PyProof.Rows L2
section
variable {X Y : Cx} {N : List Str} {sc : Scope} {ok : Str → Bool} {G : Reg} {env env1 env2 env3 env' : Ev} {A B S R' : As} {P R : FP} {e a b : Expr} {es : List Expr} {pos : Pos} {x : Str} {K : PySem.W.Frag} {own : List Nat} {elt : Expr}
variable {α : Type}
theorem di_ldm {tg : Expr} (xs : List α) (g : α → PyData) (h : DE X G env e env1 A) (hA : A.fr = isD X.K (.list (xs.map g))) : DI true X G env tg e env1 (xs.map fun a => isD X.K (g a)) := by
  have := di_ld (tg := tg) h hA
  rwa [List.map_map] at this
theorem di_tdm {tg : Expr} (xs : List α) (g : α → PyData) (h : DE X G env e env1 A) (hA : A.fr = isD X.K (.tuple (xs.map g))) : DI κ X G env tg e env1 (xs.map fun a => isD X.K (g a)) := by
  have := di_td (κ := κ) (tg := tg) h hA
  rwa [List.map_map] at this
theorem di_rn {tg : Expr} {n : Nat} {p pos : Pos} (B : Bx κ X N sc ok) (h : DE X G env a env1 (dD X.K (.int (n : Nat)))) (hm : X.mg "range" = none) (hn : n < 2 ^ 62) (hg : GlS sc "range" := by rfl) (hs : starEach [a] X.env = [(false, eval a X.env)] := by rfl) :
    DI κ X G env tg (.Call (.Name "range" p) [a] [] pos) env1 ((List.range n).map fun i => isD X.K (.int (i : Nat))) := by
  have := di_r1 (tg := tg) (p := p) (pos := pos) B h hm ⟨by omega, by omega⟩ hg hs
  have e : (rgD 0 ((n : Nat) : Int).toNat).map (isD X.K) = (List.range n).map fun i => isD X.K (.int (i : Nat)) := by
    simp [rgD, List.map_map, Function.comp_def]
  rwa [e] at this
theorem enD_map (ds : List PyData) : (ds.mapIdx fun i d => PyData.tuple [.int (i : Nat), d]).map (isD K) = (ds.mapIdx fun i d => (i, d)).map fun q => isD K (.tuple [.int (q.1 : Nat), q.2]) := by
  apply List.ext_getElem?
  intro i
  simp only [List.getElem?_map, List.getElem?_mapIdx, Option.map_map]
  rfl
/-- the pairs of enumerate, by their numbers -/
theorem di_eTm {elts : List Expr} {kk : Nat} {tpos p : Pos} {ds : List PyData} (B : Bx κ X N sc ok) (h : DE X G env e env1 A) (hA : A.fr = isD X.K (.tuple ds)) (hm : X.mg "enumerate" = none) (hg : GlS sc "enumerate" := by rfl) (hs : starEach [e] X.env = [(false, eval e X.env)] := by rfl) :
    DI true X G env (.Tuple elts kk tpos) (.Call (.Name "enumerate" p) [e] [] pos) env1 ((ds.mapIdx fun i d => (i, d)).map fun q => isD X.K (.tuple [.int (q.1 : Nat), q.2])) := by
  have := di_eT (elts := elts) (kk := kk) (tpos := tpos) (p := p) (pos := pos) B h hA hm hg hs
  rw [enD] at this
  rwa [enD_map] at this
theorem di_eLm {elts : List Expr} {kk : Nat} {tpos p : Pos} {ds : List PyData} (B : Bx κ X N sc ok) (h : DE X G env e env1 A) (hA : A.fr = isD X.K (.list ds)) (hm : X.mg "enumerate" = none) (hg : GlS sc "enumerate" := by rfl) (hs : starEach [e] X.env = [(false, eval e X.env)] := by rfl) :
    DI true X G env (.Tuple elts kk tpos) (.Call (.Name "enumerate" p) [e] [] pos) env1 ((ds.mapIdx fun i d => (i, d)).map fun q => isD X.K (.tuple [.int (q.1 : Nat), q.2])) := by
  have := di_eL (elts := elts) (kk := kk) (tpos := tpos) (p := p) (pos := pos) B h hA hm hg hs
  rw [enD] at this
  rwa [enD_map] at this
/-- [elt for tg in iter if ..], what is gathered told by f -/
theorem de_lcA {g : Comprehension} {scope : Scope} (ownp : List (Str × Nat)) (xs : List α) (gd : α → FP) (c : α → Bool) (f : α → As) (e2 : α → Ev) (ws : List Nat) (B : Bx κ X N sc ok) (bl : BlkOk N sc scope ownp)
    (hI : DI κ X G env g.target g.iter env1 (xs.map gd)) (hz : xs.length ≤ sizeLine) (ho : ∀ p ∈ ownp, ∀ A, env1[p.2]? ≠ some (some A)) (hws : ∀ j ∈ ws, j ∈ ownp.map (·.2)) (hwk : ∀ a ∈ xs, Wk (e2 a) env1)
    (turn : ∀ s0 H0 C cl fp, Bx κ (BY X s0 H0 scope C cl fp) N (relS scope sc) (okB scope) → ∀ a ∈ xs, DGt (BY X s0 H0 scope C cl fp) G env1 (.fz (gd a)) g.target ws (e2 a) ∧ DTs (BY X s0 H0 scope C cl fp) G (e2 a) g.ifs (e2 a) (c a) ∧
      (c a = true → DE (BY X s0 H0 scope C cl fp) G (e2 a) elt (e2 a) (f a)))
    (ha : g.is_async = 0 := by rfl) (hs : ∀ x, foldedSetIterable g.iter X.env x = pure x := by intro _; rfl) : LCR X G env elt g [] scope pos env1 ((oA ((xs.filter c).map f)).at none) := by
  have e : (xs.filter c).flatMap (fun a => [f a]) = (xs.filter c).map f := by
    induction xs.filter c with
    | nil => rfl
    | cons a l ih => simp only [List.flatMap_cons, List.map_cons, ih]; rfl
  have := lcr_p (gs := []) (elt := elt) (pos := pos) ownp xs gd c (fun a => [f a]) e2 ws B bl hI (by rw [e, List.length_map]; exact Nat.le_trans (List.length_filter_le _ _) hz) ho hws hwk (fun s0 H0 C cl fp BYx a ha => by
    obtain ⟨t1, t2, t3⟩ := turn s0 H0 C cl fp BYx a ha
    exact ⟨t1, t2, fun hc L hL => lcb_nil (t3 hc) (by simpa using hL)⟩) ha hs
  rwa [e] at this
theorem oA_dataM {xs : List α} {f : α → PyData} (h : LCR X G env elt g gs scope pos env1 ((oA (xs.map fun a => dD X.K (f a))).at none)) : LCR X G env elt g gs scope pos env1 (oLn X.K (xs.map f)) :=
  lcr_data h (by rw [List.map_map]; rfl)
/-- one name -/
theorem lc1A {iter : Expr} {ifs : List Expr} {scope : Scope} {y : Str} {yp : Pos} (j : Nat) (xs : List α) (gd : α → FP) (c : α → Bool) (f : α → As) (B : Bx κ X N sc ok) (bl : BlkOk N sc scope [(y, j)])
    (hI : DI κ X G env (.Name y yp) iter env1 (xs.map gd)) (hz : xs.length ≤ sizeLine) (hj : env1[j]? = some none)
    (turn : ∀ s0 H0 C cl fp, Bx κ (BY X s0 H0 scope C cl fp) N (relS scope sc) (okB scope) → ∀ a ∈ xs, DTs (BY X s0 H0 scope C cl fp) G (env1.set j (some (.fz (gd a)))) ifs (env1.set j (some (.fz (gd a)))) (c a) ∧
      (c a = true → DE (BY X s0 H0 scope C cl fp) G (env1.set j (some (.fz (gd a)))) elt (env1.set j (some (.fz (gd a)))) (f a)))
    (hN : N[j]? = some y := by rfl) (hx : Loc (relS scope sc) y := by first | exact Or.inl rfl | exact Or.inr rfl) (hok : okB scope y = true := by rfl) (hs : ∀ x, foldedSetIterable iter X.env x = pure x := by intro _; rfl) :
    LCR X G env elt ⟨.Name y yp, iter, ifs, 0⟩ [] scope pos env1 ((oA ((xs.filter c).map f)).at none) :=
  de_lcA [(y, j)] xs gd c f (fun a => env1.set j (some (.fz (gd a)))) [j] B bl hI hz (fun p hp A => by
    simp only [List.mem_singleton] at hp
    subst hp
    rw [hj]
    intro z
    cases z) (by simp) (fun a _ => Wk.un hj) (fun s0 H0 C cl fp BYx a ha => ⟨dg_name BYx j hN hx (List.getElem?_eq_some_iff.mp hj).1 hok, turn s0 H0 C cl fp BYx a ha⟩) rfl hs
theorem lc1 {iter : Expr} {ifs : List Expr} {scope : Scope} {y : Str} {yp : Pos} (j : Nat) (xs : List α) (gd : α → FP) (c : α → Bool) (f : α → PyData) (B : Bx κ X N sc ok) (bl : BlkOk N sc scope [(y, j)])
    (hI : DI κ X G env (.Name y yp) iter env1 (xs.map gd)) (hz : xs.length ≤ sizeLine) (hj : env1[j]? = some none)
    (turn : ∀ s0 H0 C cl fp, Bx κ (BY X s0 H0 scope C cl fp) N (relS scope sc) (okB scope) → ∀ a ∈ xs, DTs (BY X s0 H0 scope C cl fp) G (env1.set j (some (.fz (gd a)))) ifs (env1.set j (some (.fz (gd a)))) (c a) ∧
      (c a = true → ∃ A, A.fr = isD X.K (f a) ∧ DE (BY X s0 H0 scope C cl fp) G (env1.set j (some (.fz (gd a)))) elt (env1.set j (some (.fz (gd a)))) A))
    (hN : N[j]? = some y := by rfl) (hx : Loc (relS scope sc) y := by first | exact Or.inl rfl | exact Or.inr rfl) (hok : okB scope y = true := by rfl) (hs : ∀ x, foldedSetIterable iter X.env x = pure x := by intro _; rfl) :
    LCR X G env elt ⟨.Name y yp, iter, ifs, 0⟩ [] scope pos env1 (oLn X.K ((xs.filter c).map f)) :=
  oA_dataM (lc1A j xs gd c (fun a => dD X.K (f a)) B bl hI hz hj (fun s0 H0 C cl fp BYx a ha => ⟨(turn s0 H0 C cl fp BYx a ha).1, fun hc => by
    obtain ⟨A, hA, h⟩ := (turn s0 H0 C cl fp BYx a ha).2 hc
    have h2 := de_frz h
    rw [hA] at h2
    exact h2⟩) hN hx hok hs)
/-- .. without a test -/
theorem lc1n {iter : Expr} {scope : Scope} {y : Str} {yp : Pos} (j : Nat) (xs : List α) (gd : α → FP) (f : α → PyData) (B : Bx κ X N sc ok) (bl : BlkOk N sc scope [(y, j)])
    (hI : DI κ X G env (.Name y yp) iter env1 (xs.map gd)) (hz : xs.length ≤ sizeLine) (hj : env1[j]? = some none)
    (turn : ∀ s0 H0 C cl fp, Bx κ (BY X s0 H0 scope C cl fp) N (relS scope sc) (okB scope) → ∀ a ∈ xs, ∃ A, A.fr = isD X.K (f a) ∧ DE (BY X s0 H0 scope C cl fp) G (env1.set j (some (.fz (gd a)))) elt (env1.set j (some (.fz (gd a)))) A)
    (hN : N[j]? = some y := by rfl) (hx : Loc (relS scope sc) y := by first | exact Or.inl rfl | exact Or.inr rfl) (hok : okB scope y = true := by rfl) (hs : ∀ x, foldedSetIterable iter X.env x = pure x := by intro _; rfl) :
    LCR X G env elt ⟨.Name y yp, iter, [], 0⟩ [] scope pos env1 (oLn X.K (xs.map f)) := by
  have := lc1 (elt := elt) (ifs := []) (pos := pos) (yp := yp) j xs gd (fun _ => true) f B bl hI hz hj (fun s0 H0 C cl fp BYx a ha => ⟨dts_nil, fun _ => turn s0 H0 C cl fp BYx a ha⟩) hN hx hok hs
  rwa [List.filter_eq_self.mpr (fun _ _ => rfl)] at this
theorem lc1An {iter : Expr} {scope : Scope} {y : Str} {yp : Pos} (j : Nat) (xs : List α) (gd : α → FP) (f : α → As) (B : Bx κ X N sc ok) (bl : BlkOk N sc scope [(y, j)])
    (hI : DI κ X G env (.Name y yp) iter env1 (xs.map gd)) (hz : xs.length ≤ sizeLine) (hj : env1[j]? = some none)
    (turn : ∀ s0 H0 C cl fp, Bx κ (BY X s0 H0 scope C cl fp) N (relS scope sc) (okB scope) → ∀ a ∈ xs, DE (BY X s0 H0 scope C cl fp) G (env1.set j (some (.fz (gd a)))) elt (env1.set j (some (.fz (gd a)))) (f a))
    (hN : N[j]? = some y := by rfl) (hx : Loc (relS scope sc) y := by first | exact Or.inl rfl | exact Or.inr rfl) (hok : okB scope y = true := by rfl) (hs : ∀ x, foldedSetIterable iter X.env x = pure x := by intro _; rfl) :
    LCR X G env elt ⟨.Name y yp, iter, [], 0⟩ [] scope pos env1 ((oA (xs.map f)).at none) := by
  have := lc1A (elt := elt) (ifs := []) (pos := pos) (yp := yp) j xs gd (fun _ => true) f B bl hI hz hj (fun s0 H0 C cl fp BYx a ha => ⟨dts_nil, fun _ => turn s0 H0 C cl fp BYx a ha⟩) hN hx hok hs
  rwa [List.filter_eq_self.mpr (fun _ _ => rfl)] at this
/-- two names, of pairs; no test -/
theorem lc2n {iter : Expr} {scope : Scope} {y z : Str} {yp zp tp : Pos} {kt : Nat} (j l : Nat) (xs : List α) (g1 g2 : α → PyData) (f : α → PyData) (B : Bx true X N sc ok) (bl : BlkOk N sc scope [(y, j), (z, l)])
    (hI : DI true X G env (.Tuple [.Name y yp, .Name z zp] kt tp) iter env1 (xs.map fun a => isD X.K (.tuple [g1 a, g2 a]))) (hz : xs.length ≤ sizeLine) (hj : env1[j]? = some none) (hl : env1[l]? = some none) (hjl : j ≠ l)
    (turn : ∀ s0 H0 C cl fp, Bx true (BY X s0 H0 scope C cl fp) N (relS scope sc) (okB scope) → ∀ a ∈ xs, ∃ A, A.fr = isD X.K (f a) ∧ DE (BY X s0 H0 scope C cl fp) G ((env1.set j (some (dD X.K (g1 a)))).set l (some (dD X.K (g2 a)))) elt ((env1.set j (some (dD X.K (g1 a)))).set l (some (dD X.K (g2 a)))) A)
    (hN : N[j]? = some y := by rfl) (hN2 : N[l]? = some z := by rfl) (hx : Loc (relS scope sc) y := by first | exact Or.inl rfl | exact Or.inr rfl) (hx2 : Loc (relS scope sc) z := by first | exact Or.inl rfl | exact Or.inr rfl) (hok : okB scope y = true := by rfl) (hok2 : okB scope z = true := by rfl)
    (hs : ∀ x, foldedSetIterable iter X.env x = pure x := by intro _; rfl)
    (hn : ∀ s0 H0 C cl fp, (assignEach [.Name y yp, .Name z zp] (BY X s0 H0 scope C cl fp).env).length = 2 := by intros; rfl) (hst : ∀ s0 H0 C cl fp, (assignEach [.Name y yp, .Name z zp] (BY X s0 H0 scope C cl fp).env).findIdx? (·.1) = none := by intros; rfl)
    (h1 : ∀ s0 H0 C cl fp, (assignEach [.Name y yp, .Name z zp] (BY X s0 H0 scope C cl fp).env).map (·.2) = assign (.Name y yp) (BY X s0 H0 scope C cl fp).env :: (assignEach [.Name z zp] (BY X s0 H0 scope C cl fp).env).map (·.2) := by intros; rfl)
    (h2 : ∀ s0 H0 C cl fp, (assignEach [.Name z zp] (BY X s0 H0 scope C cl fp).env).map (·.2) = assign (.Name z zp) (BY X s0 H0 scope C cl fp).env :: (assignEach [] (BY X s0 H0 scope C cl fp).env).map (·.2) := by intros; rfl) :
    LCR X G env elt ⟨.Tuple [.Name y yp, .Name z zp] kt tp, iter, [], 0⟩ [] scope pos env1 (oLn X.K (xs.map f)) := by
  have hll : l < env1.length := (List.getElem?_eq_some_iff.mp hl).1
  have hjl' : j < env1.length := (List.getElem?_eq_some_iff.mp hj).1
  have := de_lcA (elt := elt) (g := ⟨.Tuple [.Name y yp, .Name z zp] kt tp, iter, [], 0⟩) (pos := pos) [(y, j), (z, l)] xs (fun a => isD X.K (.tuple [g1 a, g2 a])) (fun _ => true) (fun a => dD X.K (f a)) (fun a => (env1.set j (some (dD X.K (g1 a)))).set l (some (dD X.K (g2 a)))) [j, l] B bl hI hz (fun p hp A => by
    simp only [List.mem_cons, List.not_mem_nil, or_false] at hp
    rcases hp with rfl | rfl
    · rw [hj]; intro z; cases z
    · rw [hl]; intro z; cases z) (by simp) (fun a _ => (Wk.un (by rw [List.getElem?_set_ne hjl]; exact hl)).trans (Wk.un hj)) (fun s0 H0 C cl fp BYx a ha => ⟨dg_tup BYx (dgs_cons (dg_name BYx j hN hx hjl' hok) (dgs_cons (dg_name BYx l hN2 hx2 (by simpa using hll) hok2) dgs_nil (h2 ..)) (h1 ..)) (hn ..) (hst ..), dts_nil, fun _ => by
      obtain ⟨A, hA, h⟩ := turn s0 H0 C cl fp BYx a ha
      have h2 := de_frz h
      rw [hA] at h2
      exact h2⟩) rfl hs
  rw [List.filter_eq_self.mpr (fun _ _ => rfl)] at this
  exact oA_dataM this
end
end DL

set_option maxHeartbeats 4000000
/-! DL18: == and != by an own __eq__, len by an own __len__, calls with keywords. -/
namespace DL
open PySem PySem.Spec PyProof.Rows L2
/-- what a def asks of the state -/
theorem spD_of {ι : Type} {args : ι → List Arg} {ret : ι → As} {G : Reg} {T : List (V × As)} {env : Ev} {σ : St} {H : Hp} {vs : List V} (i : ι) (hl : vs.length = (args i).length) (h : StA G (vs.zip ((args i).map Arg.pre) ++ T) env σ H) {Q : VK} {E : XK}
    (q : ∀ v H', StA G ((v, ret i) :: (vs.zip ((args i).map Arg.aft) ++ T)) env σ H' → Q v H') : spD args ret vs H Q E := by
  obtain ⟨HF, o1, o2, h1, h2, h3⟩ := h
  obtain ⟨oa, ob, e, h4, h5⟩ := h2.split
  subst e
  rw [List.append_assoc] at h1
  refine ⟨i, HF, oa, hl, h1.give, h4, fun v H' HF' p1 p2 k1 kr ka => q v H' ?_⟩
  have h6 := h1.after k1
  have ex : Ex HF HF' := k1.sub
  rw [List.append_assoc] at h6
  exact StA.ofTop (o := p1) (o1 := p2 ++ ob) (o2 := o2) (by rw [List.append_assoc]; exact h6) kr (ka.join (h5.mono ex)) (h3.mono ex)
def IsIns (C : Addr) (P : FP) : Prop := ∀ HF v, P.p HF v → ∃ a dx fs, v = .ref a ∧ HF a = some (.ins C dx fs)
theorem isIns_I {C : Addr} {fs : List (Str × FP)} : IsIns C (isI C fs) := fun HF v ⟨a, dx, vs, h1, h2, _⟩ => ⟨a, dx, _, h1, h2⟩
section
variable {X : Cx} {n : Nat} {C f : Addr} {fd : FuncData} {ps : List Str} {sp : Sp}
/-- f called, somewhere below the body that runs -/
theorem below_call {A : Around} {pins : List (Addr × Obj)} {s : Shared} {σ : St} {H : Hp} {vs : List V} {us : List Value} {Q : VK} (F : FnOk X.prog X.w X.K X.mg X.base CX0 n f fd ps sp) (hb : Binds X.K fd ps []) (hr : Room n A) (hfr : A.frames = X.A.frames) (I : Inv X pins σ H s) (r : Vals vs us) (hsp : sp vs H Q E0) :
    wpAny (model X.prog X.w) A (call (.ref f) us) (fun v s' => ∃ z H', Inv X pins σ H' s' ∧ RelV z v ∧ Q z H') X.xe s := by
  have e0 : Env0 X.prog X.w X.K X.mg X.base A X.stack s H := by
    have e := I.env0
    exact ⟨by rw [hfr]; exact e.frames, e.mod, e.bs, e.bsz, e.funs, e.frf, e.hok, e.bare⟩
  have hl := F.len _ _ _ _ hsp
  refine wpAny_call (codeAny_mono (F.run A X.stack s H ⟨us, []⟩ us vs _ E0 hr e0 (by
    have := hb s us I.kIn (by simp [← r.length, hl])
    simpa using this) r hsp) fun rr s' hq => ?_)
  cases rr with
  | error e => exact (pass0 (X := X)) pins σ H s e s' I hq
  | ok fl =>
    cases fl with
    | ret w =>
      obtain ⟨z, H', I', rz, q⟩ := I.after hq
      exact ⟨z, H', I', rz, q⟩
    | next => exact False.elim hq
    | brk => exact False.elim hq
    | cont => exact False.elim hq
def rOwn (C : Addr) (sp : Sp) (g : Bool → Bool) : R2 := fun x y H Q => ∃ a c dx fs dy gs, x = .ref a ∧ y = .ref c ∧ H a = some (.ins C dx fs) ∧ H c = some (.ins C dy gs) ∧ sp [x, y] H (fun v H' => ∃ k, v = .bl k ∧ Q (.bl (g k)) H') E0
theorem op_eqO (F : FnOk X.prog X.w X.K X.mg X.base CX0 n f fd ps sp) (hs : PySem.W.findIn X.K (.ref C) "__eq__" = some (some (.ref f))) (hf : PySem.W.isFn X.K (.ref f) = true) (hb : Binds X.K fd ps []) (hr : Room n X.A) : OpR X (compareOp .Eq) (rOwn C sp id) := by
  intro pins s σ H x y v u Q I rx ry h
  obtain ⟨a, c, dx, fs, dy, gs, rfl, rfl, ha, hc, hsp⟩ := h
  cases rx
  cases ry
  obtain ⟨mA, J, _⟩ := ins_get I.hok ha
  obtain ⟨mB, J', _⟩ := ins_get I.hok hc
  obtain ⟨od, J, _⟩ := J.look
  obtain ⟨od', J', _⟩ := J'.look
  obtain ⟨m, hF⟩ := I.fr
  show wpAny _ _ (richCompare .Eq (.ref a) (.ref c)) _ _ _
  refine PySem.W.cmp_K (op := .Eq) (tb := .ref C) hr.units0 hF I.ok.mod.kin J J'.type (by simp [PySem.W.notFirst]) hs hf ?_
  refine wpAny_mono (below_call (vs := [V.ref a, V.ref c]) F hb hr rfl I (.cons rfl (.cons rfl .nil)) hsp) (fun v s' hv => ?_) fun _ _ x => x
  obtain ⟨z, H', I', rz, k, rfl, q⟩ := hv
  cases rz
  exact ⟨.bl k, H', I', rfl, q⟩
theorem ifBound_ne {M : Model} {A : Around} {E : Value → Shared → Prop} {s : Shared} {K : PySem.W.Frag} {x : Addr} {ox : Obj} {od : Option Obj} {args : List Value} {Q : Option Value → Shared → Prop} (X : K.In s.heap) (I : PySem.W.InstAt s.heap x ox C od) (hs : PySem.W.findIn K (.ref C) "__ne__" = some (some (.builtin "object.__ne__")))
    (h : wpAny M A (call (.builtin "object.__ne__") (.ref x :: args)) (fun v => Q (some v)) E s) : wpAny M A (callSpecialIfBound? (.ref x) "__ne__" args) Q E s := by
  simp only [callSpecialIfBound?, bindSpecialIfBound?]
  refine wpAny_holding (wpAny_bind (wpAny_bind (wpAny_bind (I.type.here ((PySem.W.looks_findIn X hs).here ?_)))))
  refine wpAny_bind (wpAny_askSetting (wpAny_ite ?_))
  have fin : wpAny M A (call (.builtin "object.__ne__") ([.ref x] ++ args) >>= fun v => pure (some v)) Q E s := wpAny_bind (wpAny_mono h (fun v s' h' => wpAny_pure h') fun _ _ h' => h')
  split
  · exact wpAny_bind (wpAny_of_eq (PySem.F.cmp_object.ne.bind _) (wpAny_pure (by exact fin)))
  · exact wpAny_tryCatch (wpAny_bind (wpAny_of_eq (PySem.F.cmp_object.ne.bind _) (wpAny_pure (by exact fin))))
theorem op_neO (F : FnOk X.prog X.w X.K X.mg X.base CX0 n f fd ps sp) (hs : PySem.W.findIn X.K (.ref C) "__eq__" = some (some (.ref f))) (hf : PySem.W.isFn X.K (.ref f) = true) (hn : PySem.W.findIn X.K (.ref C) "__ne__" = some (some (.builtin "object.__ne__"))) (hm : PySem.W.mroIn X.K C (.type "object") = some true) (hb : Binds X.K fd ps []) (hr : Room (n + 1) X.A) : OpR X (compareOp .NotEq) (rOwn C sp (fun b => !b)) := by
  intro pins s σ H x y v u Q I rx ry h
  obtain ⟨a, c, dx, fs, dy, gs, rfl, rfl, ha, hc, hsp⟩ := h
  cases rx
  cases ry
  obtain ⟨mA, J, _⟩ := ins_get I.hok ha
  obtain ⟨mB, J', _⟩ := ins_get I.hok hc
  obtain ⟨od, J, _⟩ := J.look
  obtain ⟨od', J', _⟩ := J'.look
  show wpAny _ _ (richCompare .NotEq (.ref a) (.ref c)) _ _ _
  have hu : X.A.units < cLine := hr.units0
  have hu1 : X.A.in1.units < cLine := (hr.in1).units0
  have ent : wpAny (model X.prog X.w) X.A.in1 (Builtin.«object.__ne__» ⟨[.ref a, .ref c], []⟩) (fun fin s' => ∃ v, fin = .done (.ret v) ∧ ∃ k, v = .bool k ∧ EP X pins σ Q (.bool k) s') X.xe s := by
    unfold Builtin.«object.__ne__»
    repeat (first
      | with_reducible refine wpAny_cRoomFor hu1 ?_
      | (refine wpAny_bind (m := callSpecialIfBound? (.ref a) (Str.ofString "__eq__") [.ref c]) (PySem.W.ifBound_K I.kIn J hs hf (wpAny_mono (below_call (vs := [V.ref a, V.ref c]) F hb hr.in1 rfl I (.cons rfl (.cons rfl .nil)) hsp) (fun v s' hv => by
          obtain ⟨z, H', I', rz, k, rfl, q⟩ := hv
          cases rz
          have fin : ∃ v, PySem.Fin.done (.ret (.bool (!k))) = .done (.ret v) ∧ ∃ k, v = Value.bool k ∧ EP X pins σ Q (.bool k) s' := ⟨_, rfl, _, rfl, .bl (!k), H', I', rfl, q⟩
          repeat (first | exact fin | exact wpAny_pure fin | exact wpAny_truthy_bool fin | (refine wpAny_bind (m := truthy (.bool _)) (wpAny_truthy_bool ?_)) | wp_step)) fun _ _ e => e)))
      | wp_step)
  have one : wpAny (model X.prog X.w) X.A (tryCompare (.ref a) "__ne__" (.ref c)) (fun r s' => ∃ k, r = some (.bool k) ∧ EP X pins σ Q (.bool k) s') X.xe s := by
    unfold tryCompare
    refine wpAny_bind (ifBound_ne I.kIn J hn (wpAny_call (codeAny_call_builtin PySem.F.cmp_object.ne.plain PySem.F.cmpEntry_ne (PySem.W.check_slot PySem.F.cmpKind_ne PySem.F.cmpSplit_ne (J.type.andThen (PySem.W.looks_mroIn I.kIn hm)) (PySem.F.cmpArgs_ne _ _) (wpAny_mono ent (fun fin s' z => ?_) fun _ _ x => x)))))
    obtain ⟨v, rfl, k, rfl, e⟩ := z
    exact wpAny_pure ⟨k, rfl, e⟩
  simp only [richCompare, cmpInfo_NotEq, oneThing_ref]
  refine wpAny_holding (wpAny_bind (wpAny_cRoomFor hu ?_))
  refine wpAny_bind (J.type.here (wpAny_bind (J'.type.here ?_)))
  rw [show (Value.ref C != Value.ref C) = false from by simp]
  simp only [Bool.false_eq_true, if_false]
  refine wpAny_bind (wpAny_pure ?_)
  simp only [Bool.false_eq_true, if_false]
  refine wpAny_bind (wpAny_mono one (fun r s' z => ?_) fun _ _ x => x)
  obtain ⟨k, rfl, e⟩ := z
  exact wpAny_pure e
end
section
variable {X Y : Cx} {N : List Str} {sc : Scope} {ok : Str → Bool} {G : Reg} {env env1 env2 env3 env' : Ev} {A B S R' : As} {P R : FP} {e a b : Expr} {es : List Expr} {pos : Pos} {x : Str} {K : PySem.W.Frag} {own : List Nat} {elt : Expr}
variable {n : Nat} {C f : Addr} {fd : FuncData} {ps : List Str} {ι : Type} {args : ι → List Arg} {ret : ι → As}
theorem opd_own {g : Bool → Bool} {op : Value → Value → Sem Value} {c : Bool} (ho : OpR X op (rOwn C (spD args ret) g)) (i : ι) (hargs : args i = [.z P, .z R]) (hret : ret i = dD X.K (.bool c)) (hP : IsIns C P) (hR : IsIns C R) : OpD X op P R (dD X.K (.bool (g c))) :=
  ⟨_, ho, fun G T env σ H va vb hs Q q => by
    obtain ⟨HF, ex, h1, h2⟩ := hs.two
    obtain ⟨a, dx, fs, rfl, ha⟩ := hP _ _ h1
    obtain ⟨c', dy, gs, rfl, hc⟩ := hR _ _ h2
    refine ⟨a, c', dx, fs, dy, gs, rfl, rfl, ex _ _ ha, ex _ _ hc, spD_of (T := T) (vs := [.ref a, .ref c']) i (by rw [hargs]; rfl) (by rw [hargs]; exact hs.swap) fun v H' h' => ?_⟩
    rw [hret, hargs] at h'
    have h3 : StA G ((v, dD X.K (.bool c)) :: (.ref a, .fz P) :: (.ref c', .fz R) :: T) env σ H' := h'
    have e := h3.bl
    subst e
    exact ⟨c, rfl, q _ H' (h3.pop.pop.pop.push isD_bl)⟩⟩
theorem cr_lenO {sp : Sp} (F : FnOk X.prog X.w X.K X.mg X.base CX0 n f fd ps sp) (hs : PySem.W.findIn X.K (.ref C) "__len__" = some (some (.ref f))) (hf : PySem.W.isFn X.K (.ref f) = true) (hb : Binds X.K fd ps []) (hr : Room (n + 1) X.A) :
    CallR X (.builtin "len") (fun xs H Q => ∃ a dx fs, xs = [.ref a] ∧ H a = some (.ins C dx fs) ∧ sp [.ref a] H (fun v H' => ∃ k : Nat, v = .int k ∧ k < 2 ^ 62 ∧ Q (.int k) H') E0) := by
  intro pins s σ H xs us Q I r h
  obtain ⟨a, dx, fs, rfl, ha, hsp⟩ := h
  obtain ⟨u, rfl, rx⟩ := vals1 r
  cases rx
  obtain ⟨mA, J, _⟩ := ins_get I.hok ha
  obtain ⟨od, J, _⟩ := J.look
  obtain ⟨m, hF⟩ := I.fr
  refine PySem.W.len_K hF I.ok.mod.kin J hs hf (wpAny_mono (below_call (vs := [V.ref a]) F hb hr.in1 rfl I (.cons rfl .nil) hsp) (fun v s' hv => ?_) fun _ _ x => x)
  obtain ⟨z, H', I', rz, k, rfl, hk, q⟩ := hv
  obtain ⟨t, rfl⟩ := (show ∃ t, v = Value.int k t from rz)
  exact ⟨⟨by omega, by omega⟩, .int k, H', I'.tok _, ⟨_, rfl⟩, q⟩
theorem cd_lenO {m : Nat} (F : FnOk X.prog X.w X.K X.mg X.base CX0 n f fd ps (spD args ret)) (hs : PySem.W.findIn X.K (.ref C) "__len__" = some (some (.ref f))) (hf : PySem.W.isFn X.K (.ref f) = true) (hb : Binds X.K fd ps []) (hr : Room (n + 1) X.A) (i : ι) (hargs : args i = [.z P]) (hret : ret i = dD X.K (.int m)) (hP : IsIns C P) (hm : m < 2 ^ 62) :
    CallD X (.builtin "len") [.fz P] [.fz P] (dD X.K (.int m)) :=
  ⟨rfl, _, cr_lenO F hs hf hb hr, fun G T env σ H vs hl h Q q => by
    obtain ⟨v, rfl⟩ := zip1 hl
    have h0 : StA G ((v, .fz P) :: T) env σ H := h
    obtain ⟨HF, ex, h1⟩ := h0.one
    obtain ⟨a, dx, fs, rfl, ha⟩ := hP _ _ h1
    refine ⟨a, dx, fs, rfl, ex _ _ ha, spD_of (T := T) (vs := [.ref a]) i (by rw [hargs]; rfl) (by rw [hargs]; exact h0) fun v H' h' => ?_⟩
    rw [hret, hargs] at h'
    have h3 : StA G ((v, dD X.K (.int m)) :: (.ref a, .fz P) :: T) env σ H' := h'
    obtain ⟨HF2, _, hv⟩ := h3.one
    exact ⟨m, dpI hv, hm, q _ H' (h3.pop.push isD_int)⟩⟩

/-! ### keywords alone -/
def kg1 {α : Type} : List α → List α → List α
  | [], [a] => [a]
  | _, _ => []
def kg2 {α : Type} : List α → List α → List α
  | [], [a, b] => [b, a]
  | _, _ => []
theorem kg1_rel {vs : List V} {us : List Value} {zs : List V} {ws : List Value} (h : Vals vs us) (k : Vals zs ws) : Vals (kg1 vs zs) (kg1 us ws) := by
  cases h with
  | cons _ _ => cases k <;> exact .nil
  | nil =>
    cases k with
    | nil => exact .nil
    | cons r t =>
      cases t with
      | nil => exact .cons r .nil
      | cons _ _ => exact .nil
theorem kg2_rel {vs : List V} {us : List Value} {zs : List V} {ws : List Value} (h : Vals vs us) (k : Vals zs ws) : Vals (kg2 vs zs) (kg2 us ws) := by
  cases h with
  | cons _ _ => cases k <;> exact .nil
  | nil =>
    cases k with
    | nil => exact .nil
    | cons r t =>
      cases t with
      | nil => exact .nil
      | cons r2 t2 =>
        cases t2 with
        | nil => exact .cons r2 (.cons r .nil)
        | cons _ _ => exact .nil
theorem kbinds1 {qual k1 : Str} {params : Arguments} {body : List Stmt} {scope : Scope} (F : FunD K x qual params body scope [] [] f fd) (h : ∀ (kV doc pm : Value) (an : Option Addr) (cdv ct : Value) (u : Value), bindArgs (PySem.W.fnOf x qual params body scope .none kV doc pm an cdv ct) ⟨[], [(k1, u)]⟩ = pure [(k1, u)]) : KBinds K fd [k1] [k1] kg1 kg1 := by
  obtain ⟨oc, od, dV, kV, doc, pm, an, cdv, ct, osl, rfl, lk, hcd, hD, hK⟩ := F.ex
  rcases hD with ⟨_, rfl⟩ | ⟨e, _⟩
  · refine ⟨fun s us ws X hl => ?_, kg1_rel⟩
    match us, ws, hl with
    | [], [u], _ => exact .of_eq (h kV doc pm an cdv ct u)
  · exact absurd rfl e
theorem kbinds2 {qual k1 k2 : Str} {params : Arguments} {body : List Stmt} {scope : Scope} (F : FunD K x qual params body scope [] [] f fd) (h : ∀ (kV doc pm : Value) (an : Option Addr) (cdv ct : Value) (u v : Value), bindArgs (PySem.W.fnOf x qual params body scope .none kV doc pm an cdv ct) ⟨[], [(k2, u), (k1, v)]⟩ = pure [(k1, v), (k2, u)]) : KBinds K fd [k1, k2] [k2, k1] kg2 kg2 := by
  obtain ⟨oc, od, dV, kV, doc, pm, an, cdv, ct, osl, rfl, lk, hcd, hD, hK⟩ := F.ex
  rcases hD with ⟨_, rfl⟩ | ⟨e, _⟩
  · refine ⟨fun s us ws X hl => ?_, kg2_rel⟩
    match us, ws, hl with
    | [], [u, v], _ => exact .of_eq (h kV doc pm an cdv ct u v)
  · exact absurd rfl e
theorem pe_callK0 {k : Nat} {ks : List Str} {sp : Sp} {kws : List Keyword} {tk : TA} {p : Pos} {g : List Value → List Value → List Value} {gV : List V → List V → List V} (F : FnOk X.prog X.w X.K X.mg X.base CX0 k f fd ps sp) (hr : Room k X.A) (hg : Gl X x) (hm : X.mg x = some (.ref f)) (hk : PySem.W.keepIn X.K (.ref f) = true) (hb : KBinds X.K fd ps ks g gV)
    (hkw : PK X kws tk) (hall : (backToKw pos (keywordEach kws X.env)).all (·.1.isSome) = true := by rfl) (hks : (backToKw pos (keywordEach kws X.env)).filterMap (·.1) = ks := by rfl) (hdb : (x == ("__debug__" : Str)) = false := by decide)
    (hpl : ((backTo pos (starEach [] X.env)).any (·.1) || (backToKw pos (keywordEach kws X.env)).any (·.1.isNone)) = false := by rfl) :
    PE X (.Call (.Name x p) [] kws pos) (fun σ H Q => tk σ H fun zs H2 => sp (gV [] zs) H2 Q E0) := by
  refine ⟨fun pins s σ H Q I h => ?_⟩
  refine wpAny_Call_Name_kw (ld_glob I hg hm ?_ hdb)
  refine PySem.W.callWith_KW0 (h₀ := X.base) I.ok.mod.kin hk hall (thn (hkw.run pos pins s σ H _ I h) fun ws s2 ⟨zs, H2, I2, rz, q2⟩ => ⟨I2.kIn, ?_⟩) hpl
  rw [hks]
  exact run_fnk F hr hb (pass0 (X := X)) I2 .nil rz q2
theorem de_kw1 {k : Nat} {k1 : Str} {p kp : Pos} (B : Bx κ X N sc ok) (F : FnOk X.prog X.w X.K X.mg X.base CX0 k f fd [k1] (spD args ret)) (hr : Room k X.A) (hm : X.mg x = some (.ref f)) (hk : PySem.W.keepIn X.K (.ref f) = true) (hb : KBinds X.K fd [k1] [k1] kg1 kg1) (i : ι) (h : DE X G env e env1 A) (hA : A.fr = P) (hargs : args i = [.z P])
    (hg : GlS sc x := by rfl) (hall : (backToKw pos (keywordEach [⟨some k1, e, kp⟩] X.env)).all (·.1.isSome) = true := by rfl) (hks : (backToKw pos (keywordEach [⟨some k1, e, kp⟩] X.env)).filterMap (·.1) = [k1] := by rfl) (hdb : (x == ("__debug__" : Str)) = false := by decide)
    (hpl : ((backTo pos (starEach [] X.env)).any (·.1) || (backToKw pos (keywordEach [⟨some k1, e, kp⟩] X.env)).any (·.1.isNone)) = false := by rfl) : DE X G env (.Call (.Name x p) [] [⟨some k1, e, kp⟩] pos) env1 (ret i) :=
  de_of (pe_callK0 F hr (B.gl hg) hm hk hb (pk_cons cE_pe pk_nil) hall hks hdb hpl) fun T σ H hs Q q => h T σ H hs _ fun v H1 h1 => by
    have h2 := h1.freeze
    rw [hA] at h2
    show spD args ret [v] H1 Q E0
    exact spD_of (T := T) (vs := [v]) i (by rw [hargs]; rfl) (by rw [hargs]; exact h2) fun w H' h' => q w H' (StA.popN1 (vs := [v]) h')
theorem de_kw2 {k : Nat} {k1 k2 : Str} {e1 e2 : Expr} {A1 A2 : As} {P1 P2 : FP} {p kp kp2 : Pos} (B : Bx κ X N sc ok) (F : FnOk X.prog X.w X.K X.mg X.base CX0 k f fd [k1, k2] (spD args ret)) (hr : Room k X.A) (hm : X.mg x = some (.ref f)) (hk : PySem.W.keepIn X.K (.ref f) = true) (hb : KBinds X.K fd [k1, k2] [k2, k1] kg2 kg2) (i : ι) (h : DE X G env e1 env1 A1) (h' : DE X G env1 e2 env2 A2) (hA1 : A1.fr = P1) (hA2 : A2.fr = P2) (hargs : args i = [.z P2, .z P1])
    (hg : GlS sc x := by rfl) (hall : (backToKw pos (keywordEach [⟨some k2, e1, kp⟩, ⟨some k1, e2, kp2⟩] X.env)).all (·.1.isSome) = true := by rfl) (hks : (backToKw pos (keywordEach [⟨some k2, e1, kp⟩, ⟨some k1, e2, kp2⟩] X.env)).filterMap (·.1) = [k2, k1] := by rfl) (hdb : (x == ("__debug__" : Str)) = false := by decide)
    (hpl : ((backTo pos (starEach [] X.env)).any (·.1) || (backToKw pos (keywordEach [⟨some k2, e1, kp⟩, ⟨some k1, e2, kp2⟩] X.env)).any (·.1.isNone)) = false := by rfl) : DE X G env (.Call (.Name x p) [] [⟨some k2, e1, kp⟩, ⟨some k1, e2, kp2⟩] pos) env2 (ret i) :=
  de_of (pe_callK0 F hr (B.gl hg) hm hk hb (pk_cons cE_pe (pk_cons cE_pe pk_nil)) hall hks hdb hpl) fun T σ H hs Q q => h T σ H hs _ fun v H1 h1 => by
    have h2 := h1.freeze
    rw [hA1] at h2
    refine h' _ σ H1 h2 _ fun w H2 h3 => ?_
    have h4 := h3.freeze
    rw [hA2] at h4
    show spD args ret [w, v] H2 Q E0
    exact spD_of (T := T) (vs := [w, v]) i (by rw [hargs]; rfl) (by rw [hargs]; exact h4) fun z H' h5 => q z H' (StA.popN1 (vs := [w, v]) h5)
end
end DL

set_option maxHeartbeats 4000000
/-! DL19: texts compared; dict displays; extend, insert; d.get(k). -/
namespace DL
open PySem PySem.Spec PyProof.Rows L2
section
variable {X Y : Cx} {N : List Str} {sc : Scope} {ok : Str → Bool} {G : Reg} {env env1 env2 env3 env' : Ev} {A B S R' : As} {P R : FP} {e a b : Expr} {es : List Expr} {pos : Pos} {x : Str} {K : PySem.W.Frag} {own : List Nat} {elt : Expr}
theorem scal_str (y z : Str) : scal (.str y) (.str z) = true := rfl
theorem opd_eqS (y z : Str) : OpD X (compareOp .Eq) (isD X.K (.str y)) (isD X.K (.str z)) (dD X.K (.bool (decide (y = z)))) :=
  opd_sc op_eq (.bl (decide (y = z))) isD_bl rfl fun HF H va vb ex ha hb Q q => by
    rw [dpS ha, dpS hb]
    refine ⟨rfl, ?_⟩
    rw [show decide (V.str y = V.str z) = decide (y = z) by simp]
    exact q
theorem opd_neS (y z : Str) : OpD X (compareOp .NotEq) (isD X.K (.str y)) (isD X.K (.str z)) (dD X.K (.bool (!decide (y = z)))) :=
  opd_sc op_ne (.bl (!decide (y = z))) isD_bl rfl fun HF H va vb ex ha hb Q q => by
    rw [dpS ha, dpS hb]
    refine ⟨rfl, ?_⟩
    rw [show decide (V.str y = V.str z) = decide (y = z) by simp]
    exact q
theorem opd_eqB (y z : Bool) : OpD X (compareOp .Eq) (isD X.K (.bool y)) (isD X.K (.bool z)) (dD X.K (.bool (decide (y = z)))) :=
  opd_sc op_eq (.bl (decide (y = z))) isD_bl rfl fun HF H va vb ex ha hb Q q => by
    rw [dpB ha, dpB hb]
    refine ⟨rfl, ?_⟩
    rw [show decide (V.bl y = V.bl z) = decide (y = z) by simp]
    exact q
theorem opd_neB (y z : Bool) : OpD X (compareOp .NotEq) (isD X.K (.bool y)) (isD X.K (.bool z)) (dD X.K (.bool (!decide (y = z)))) :=
  opd_sc op_ne (.bl (!decide (y = z))) isD_bl rfl fun HF H va vb ex ha hb Q q => by
    rw [dpB ha, dpB hb]
    refine ⟨rfl, ?_⟩
    rw [show decide (V.bl y = V.bl z) = decide (y = z) by simp]
    exact q

/-! ### {'k': e, ..} -/
/-- a dict with text keys, its values told -/
def isW (L : List (Str × FP)) : FP := ⟨fun H v => ∃ a vs, v = .ref a ∧ H a = some (.dK ((L.map fun p => Sum.inr p.1).zip vs)) ∧ All2 H vs (L.map Prod.snd), fun e ⟨a, vs, h1, h2, h3⟩ => ⟨a, vs, h1, e _ _ h2, h3.mono e⟩⟩
/-- the pairs of a display, evaluated from the left -/
def DPs (X : Cx) (G : Reg) (pos : Pos) (env : Ev) (keys : List (Option Expr)) (vals : List Expr) (env' : Ev) (L : List (Str × FP)) : Prop :=
  ∃ trs, PPs X pos keys vals trs ∧ ∀ (T : List (V × As)) (σ : St) (H : Hp), StA G T env σ H → ∀ Q : List (V × V) → Hp → Prop, (∀ vs H', vs.length = L.length → StA G (vs.zip (L.map fun p => As.fz p.2) ++ T) env' σ H' → Q ((L.map fun p => V.str p.1).zip vs) H') → tPairs trs σ H Q
theorem dps_nil : DPs X G pos env [] [] env [] := ⟨[], pps_nil, fun T σ H hs Q q => q [] H rfl hs⟩
theorem dps_cons {ks : List (Option Expr)} {vs : List Expr} {L : List (Str × FP)} {z : Str} {j : Nat} {kp : Pos} (h : DE X G env e env1 A) (hA : A.fr = P) (hr : DPs X G pos env1 ks vs env2 L) : DPs X G pos env (some (.Constant (.str z) j kp) :: ks) (e :: vs) env2 ((z, P) :: L) := by
  obtain ⟨trs, h1, h2⟩ := hr
  refine ⟨(tC (.str z), cE X e) :: trs, pps_cons pe_str cE_pe h1, fun T σ H hs Q q => ?_⟩
  show cE X e σ H _
  refine h T σ H hs _ fun v H1 k1 => ?_
  have k2 := k1.freeze
  rw [hA] at k2
  refine h2 _ σ H1 k2 _ fun ws H2 hl k3 => ?_
  have := q (v :: ws) H2 (by simp [hl]) (k3.perm (by
    show (ws.zip (L.map fun p => As.fz p.2) ++ (v, As.fz P) :: T).Perm ((v, As.fz P) :: (ws.zip (L.map fun p => As.fz p.2) ++ T))
    exact List.perm_middle))
  exact this
/-- an own dict that stands empty -/
def oK0 : As := ⟨fun _ v o => ∃ a, v = .ref a ∧ o = [(a, .dK [])], fun _ h => h, isAny, fun _ _ _ => trivial⟩
theorem zip_map_kV : ∀ (L : List (Str × FP)) (vs : List V), ((L.map fun p => V.str p.1).zip vs) = (((L.map fun p => (Sum.inr p.1 : Key)).zip vs).map fun kv => (kV kv.1, kv.2))
  | [], vs => by simp
  | p :: L, [] => by simp
  | p :: L, v :: vs => by simp only [List.map_cons, List.zip_cons_cons, zip_map_kV L vs]; rfl
theorem mergeK_zip {ks : List Key} (h : ks.Nodup) (vs : List V) : mergeK [] (ks.zip vs) = ks.zip vs := by
  have go : ∀ (M acc : List (Key × V)), ((acc ++ M).map (·.1)).Nodup → mergeK acc M = acc ++ M := by
    intro M
    induction M with
    | nil => intro acc _; simp [mergeK]
    | cons p M ih =>
      intro acc h
      have hn : valV acc p.1 = none := by
        cases q : valV acc p.1 with
        | none => rfl
        | some x =>
          exfalso
          simp only [valV, Option.map_eq_some_iff] at q
          obtain ⟨r, hr, _⟩ := q
          have h1 := List.find?_some hr
          have h2 := List.mem_of_find?_eq_some hr
          simp only [decide_eq_true_eq] at h1
          rw [List.map_append, List.nodup_append] at h
          exact h.2.2 r.1 (List.mem_map.mpr ⟨r, h2, rfl⟩) p.1 (by simp) h1
      show mergeK (putK acc p.1 p.2) M = _
      rw [putK_new _ hn, ih _ (by simpa using h)]
      simp
  refine (go _ [] ?_).trans (by simp)
  rw [List.nil_append]
  have go2 : ∀ (ks : List Key) (vs : List V), List.Sublist ((ks.zip vs).map (·.1)) ks := by
    intro ks
    induction ks with
    | nil => intro vs; simp
    | cons k ks ih =>
      intro vs
      cases vs with
      | nil => simp
      | cons v vs => simp only [List.zip_cons_cons, List.map_cons]; exact (ih vs).cons₂ _
  exact h.sublist (go2 ks vs)
theorem de_dispW {keys : List (Option Expr)} {vals : List Expr} {L : List (Str × FP)} (h : DPs X G pos env keys vals env1 L) (hn : (L.map (·.1)).Nodup := by decide) (hL : L.length ≤ 15 := by decide) (hall : keys.all (·.isSome) = true := by rfl) (hl : keys.length = vals.length := by rfl) (h0 : keys ≠ [] := by simp) (h15 : keys.length ≤ 15 := by decide) :
    DE X G env (.Dict keys vals pos) env1 (.fz (isW L)) := by
  obtain ⟨trs, h1, h2⟩ := h
  refine de_of (pe_disp h1 hall hl h0 h15) fun T σ H hs Q q p hp => ?_
  obtain ⟨HF, o1, o2, k1, k2, k3⟩ := hs
  have st : StA G ((.ref p, oK0) :: T) env σ (upd H p (.dK [])) := StA.newO k1 k2 k3 hp ⟨p, rfl, rfl⟩
  refine h2 _ σ _ st _ fun vs H2 hlen st2 => ?_
  have st3 := st2.perm (List.perm_middle (l₁ := vs.zip (L.map fun p => As.fz p.2)) (a := (V.ref p, oK0)) (l₂ := T))
  obtain ⟨HF2, o, p1, p2, m1, ⟨a, e1, e2⟩, m3, m4⟩ := st3.top
  cases e1
  subst e2
  have hp2 := (m1.own (p, .dK []) (by simp)).1
  refine ⟨hp2, (L.map fun p => (Sum.inr p.1 : Key)).zip vs, zip_map_kV L vs, by rw [List.length_zip, List.length_map, hlen]; omega, ?_⟩
  have hnd : (L.map fun p => (Sum.inr p.1 : Key)).Nodup := by
    have : (L.map fun p => (Sum.inr p.1 : Key)) = (L.map (·.1)).map Sum.inr := by rw [List.map_map]; rfl
    rw [this]
    exact List.Pairwise.map _ (fun a b hab h => hab (Sum.inr.inj h)) hn
  rw [mergeK_zip hnd]
  have m5 := m1.put (u := .dK ((L.map fun p => (Sum.inr p.1 : Key)).zip vs))
  have m6 : Held G HF2 ([(p, .dK ((L.map fun p => (Sum.inr p.1 : Key)).zip vs))] ++ (p1 ++ p2)) (upd H2 p (.dK ((L.map fun p => (Sum.inr p.1 : Key)).zip vs))) := m5
  obtain ⟨n1, n2, n3⟩ := m6.freeze
  obtain ⟨oa, ob, rfl, t1, t2⟩ := m3.split
  have hall2 : All2 HF2 vs (L.map Prod.snd) ∧ oa = [] := by
    clear m1 m5 m6 n1 n2 n3 st2 st3 q st h2 h1 hL hnd hn
    have go : ∀ (vs : List V) (L : List (Str × FP)) (oa : Own), vs.length = L.length → Tm HF2 oa (vs.zip (L.map fun p => As.fz p.2)) → All2 HF2 vs (L.map Prod.snd) ∧ oa = [] := by
      intro vs
      induction vs with
      | nil => intro L oa hl t; cases L with | nil => cases t; exact ⟨trivial, rfl⟩ | cons _ _ => cases hl
      | cons v vs ih =>
        intro L oa hl t
        cases L with
        | nil => cases hl
        | cons p L =>
          cases t with
          | cons a t =>
            obtain ⟨rfl, a⟩ := a
            obtain ⟨i1, rfl⟩ := ih L _ (by simpa using hl) t
            exact ⟨⟨a, i1⟩, rfl⟩
    exact go vs L oa hlen t1
  obtain ⟨hA2, rfl⟩ := hall2
  exact q _ _ ⟨_, [] ++ ob, p2, by simpa using n1, .cons (A := .fz (isW L)) ⟨rfl, p, vs, rfl, n3 (p, .dK _) (List.mem_singleton.mpr rfl), hA2.mono n2⟩ (t2.mono n2), m4.mono n2⟩
/-- d['k'] -/
theorem de_getW {L : List (Str × FP)} {z : Str} {j : Nat} {kp : Pos} (ha : DE X G env a env1 A) (hA : A.fr = isW L) (hu : X.A.units + 1 < cLine) (hl : L.lookup z = some P := by rfl) : DE X G env (.Subscript a (.Constant (.str z) j kp) pos) env1 (.fz P) :=
  de_of (pe_dget hu cE_pe pe_str (fun _ _ => rfl)) fun T σ H hs Q q => ha T σ H hs _ fun va H1 h1 => by
    have h2 := h1.freeze
    rw [hA] at h2
    obtain ⟨HF, o1, o2, k1, ⟨p, vs, e1, e2, e3⟩, t, s⟩ := h2.one'
    have go : ∀ (L : List (Str × FP)) (vs : List V), All2 HF vs (L.map Prod.snd) → L.lookup z = some P → ∃ v, valV ((L.map fun p => (Sum.inr p.1 : Key)).zip vs) (.inr z) = some v ∧ P.p HF v := by
      intro L
      induction L with
      | nil => intro vs _ h; simp at h
      | cons p L ih =>
        intro vs h3 hl
        cases vs with
        | nil => exact h3.elim
        | cons v vs =>
          obtain ⟨g, R⟩ := p
          rw [List.lookup_cons] at hl
          cases hb : z == g with
          | true =>
            rw [hb] at hl; cases hl
            have ez : z = g := by simpa using hb
            exact ⟨v, valV_pos (p := (Sum.inr g, v)) (by rw [ez]), h3.1⟩
          | false =>
            rw [hb] at hl
            have ez : ¬ z = g := by simpa using hb
            obtain ⟨w, g1, g2⟩ := ih vs h3.2 hl
            refine ⟨w, ?_, g2⟩
            simp only [List.map_cons, List.zip_cons_cons]
            rw [valV_neg (p := ((Sum.inr g : Key), v)) (fun h => ez (Sum.inr.inj h).symm)]
            exact g1
    obtain ⟨v, g1, g2⟩ := go L vs e3 hl
    exact ⟨p, v, e1, .inl ⟨_, .inr z, .inl (k1.inH _ _ e2), rfl, g1.symm⟩, q v H1 ⟨HF, [] ++ o1, o2, k1, .cons (A := .fz P) ⟨rfl, g2⟩ t, s⟩⟩
end
end DL

set_option maxHeartbeats 4000000
/-! DL20: slots dropped at once; loops with the slots told turn by turn; extend, insert; {e: v}; d.get(k). -/
namespace DL
open PySem PySem.Spec PyProof.Rows L2
/-- some slots are forgotten -/
inductive Drop : Ev → Ev → Prop
  | nil : Drop [] []
  | keep {x : Option As} {e e' : Ev} : Drop e e' → Drop (x :: e) (x :: e')
  | skip {x : Option As} {e e' : Ev} : Drop e e' → Drop (x :: e) (none :: e')
theorem Drop.refl : ∀ e : Ev, Drop e e
  | [] => .nil
  | x :: e => .keep (Drop.refl e)
theorem Sl.drop {HF : Hp} : ∀ {env env' : Ev}, Drop env env' → ∀ {os : Own} {σ : St}, Sl HF os σ env → ∃ d os', os.Perm (d ++ os') ∧ Sl HF os' σ env'
  | _, _, .nil, _, _, h => ⟨[], _, List.Perm.refl _, h⟩
  | _, _, .keep r, _, _, .skip s => by
    obtain ⟨d, os', p, q⟩ := Sl.drop r s
    exact ⟨d, os', p, .skip q⟩
  | _, _, .keep r, _, _, .cons (o := o) a s => by
    obtain ⟨d, os', p, q⟩ := Sl.drop r s
    exact ⟨d, o ++ os', (List.Perm.append_left o p).trans (perm_mid _ _ _), .cons a q⟩
  | _, _, .skip r, _, _, .skip s => by
    obtain ⟨d, os', p, q⟩ := Sl.drop r s
    exact ⟨d, os', p, .skip q⟩
  | _, _, .skip r, _, _, .cons (o := o) a s => by
    obtain ⟨d, os', p, q⟩ := Sl.drop r s
    exact ⟨o ++ d, os', by rw [List.append_assoc]; exact List.Perm.append_left o p, .skip q⟩
theorem Drop.wk {env env' : Ev} (h : Drop env env') : Wk env env' := fun G T σ H st => by
  obtain ⟨HF, o1, o2, h1, h2, h3⟩ := st
  obtain ⟨d, os', p, q⟩ := h3.drop h
  refine ⟨HF, o1, os', ?_, h2, q⟩
  exact (h1.perm ((List.Perm.append_left o1 p).trans (perm_mid _ _ _))).drop
section
variable {X Y : Cx} {N : List Str} {sc : Scope} {ok : Str → Bool} {G : Reg} {env env1 env2 env3 env' : Ev} {A B S R' : As} {P R : FP} {e a b : Expr} {es : List Expr} {pos : Pos} {x : Str} {K : PySem.W.Frag} {own : List Nat} {elt : Expr} {Pt : Out → Prop}
/-- how a turn ends, E' the slots then -/
def LpW (E' : Ev) (Pt : Out → Prop) : Out → Prop
  | .nx env => Wk env E'
  | .ct env => Wk env E'
  | .bk env => Pt (.nx env)
  | .rt env A => Pt (.rt env A)
theorem ds_forN {tg iter : Expr} {body : List Stmt} {its : List FP} (B : Bx true X N sc ok) (hI : DI true X G env tg iter env1 its) (E : Nat → Ev) (h0 : Wk env1 (E 0))
    (step : ∀ i P, its[i]? = some P → ∃ ws env2, DGt X G (E i) (.fz P) tg ws env2 ∧ DSs X G env2 body (LpW (E (i + 1)) Pt)) (done : Pt (.nx (E its.length)))
    (hs : ∀ x, foldedSetIterable iter X.env x = pure x := by intro _; rfl) : DS X G env (.For tg iter body [] pos) Pt := by
  have hI' : DI true X G env tg iter (E 0) its := by
    obtain ⟨wi, h1, h2⟩ := hI
    exact ⟨wi, h1, fun T σ H hs R r => h2 T σ H hs R fun J H' tmp st wk => r J H' tmp (h0 _ _ _ _ st) wk⟩
  refine ds_for B hI' (fun i env' => env' = E i) rfl (fun i P env' hP he => ?_) (fun env' he => by rw [he]; exact done) hs
  subst he
  obtain ⟨ws, env2, hg, hb⟩ := step i P hP
  refine ⟨ws, env2, hg, fun T σ H st D d => hb T σ H st D ⟨fun env σ' H' p h => d.nx (E (i + 1)) σ' H' rfl (p _ _ _ _ h), fun env A v σ' H' p h => d.rt env A v σ' H' p h, fun env σ' H' p h => d.bk env σ' H' p h, fun env σ' H' p h => d.ct (E (i + 1)) σ' H' rfl (p _ _ _ _ h)⟩⟩
theorem ds_whileN {c : Expr} {body : List Stmt} {α : Type} (B : Bx κ X N sc ok) (m : α → Nat) (E : α → Ev) (I : α → Prop) (a0 : α) (i0 : I a0) (h0 : Wk env (E a0))
    (step : ∀ a, I a → ∃ k env2, DT X G (E a) c env2 k ∧ (k = true → ∃ a', m a' < m a ∧ I a' ∧ DSs X G env2 body (LpW (E a') Pt)) ∧ (k = false → Pt (.nx env2))) : DS X G env (.While c body [] pos) Pt := by
  have h := ds_while (X := X) (G := G) (env := E a0) (c := c) (body := body) (pos := pos) (Pt := Pt) B (fun n env' => ∃ a, I a ∧ n = m a ∧ env' = E a) (m a0) ⟨a0, i0, rfl, rfl⟩ (fun n env' hw => by
    obtain ⟨a, ia, rfl, rfl⟩ := hw
    obtain ⟨k, env2, h1, h2, h3⟩ := step a ia
    refine ⟨k, env2, h1, fun hk => ?_, h3⟩
    obtain ⟨a', hm, ia', hb⟩ := h2 hk
    exact fun T σ H st D d => hb T σ H st D ⟨fun env σ' H' p h => d.nx (E a') σ' H' ⟨m a', hm, a', ia', rfl, rfl⟩ (p _ _ _ _ h), fun env A v σ' H' p h => d.rt env A v σ' H' p h, fun env σ' H' p h => d.bk env σ' H' p h, fun env σ' H' p h => d.ct (E a') σ' H' ⟨m a', hm, a', ia', rfl, rfl⟩ (p _ _ _ _ h)⟩)
  exact fun T σ H st D d => h T σ H (h0 _ _ _ _ st) D d
theorem de_wk0 (w : Wk env env1) (h : DE X G env1 e env2 A) : DE X G env e env2 A := fun T σ H st Q q => h T σ H (w _ _ _ _ st) Q q
theorem de_wk (h : DE X G env e env1 A) (w : Wk env1 env2) : DE X G env e env2 A := fun T σ H st Q q => h T σ H st Q fun v H' h' => q v H' (w _ _ _ _ h')
/-- x.extend(e), x a name's own list of data -/
theorem de_extend {q : Option V} {ds ds2 : List PyData} {y : Str} {py apos cpos : Pos} (B : Bx κ X N sc ok) (i : Nat) (he : DE X G env e env1 A) (hA : A.fr = isD X.K (.list ds2)) (hi : env1[i]? = some (some ((oL X.K ds).at q)) := by rfl) (hi0 : ∃ ds0, env[i]? = some (some ((oL X.K ds0).at q)) := by exact ⟨_, rfl⟩) (hz : ds.length + ds2.length ≤ sizeLine) (hN : N[i]? = some y := by rfl)
    (hv : Vis sc y := by first | exact Or.inl rfl | exact Or.inr (Or.inl rfl) | exact Or.inr (Or.inr rfl)) (hd : (y == ("__debug__" : Str)) = false := by decide) (hcd : (y == ("__classdict__" : Str)) = false := by decide)
    (hbase : attributeBase (.Name y py) "extend" X.env (eval (.Name y py) X.env) = eval (.Name y py) X.env := by rfl)
    (hfew : ((backTo cpos (starEach [e] X.env)).all (fun x => !x.1) && (backToKw cpos (keywordEach [] X.env)).all (fun x => x.1.isSome) && decide ([e].length + ([] : List Keyword).length + (if ([] : List Keyword).isEmpty then 0 else 1) < 30)) = true := by rfl)
    (hline : (apos.endLine == cpos.line) = true := by rfl) (hs : starEach [e] X.env = (false, eval e X.env) :: starEach [] X.env := by rfl) (hplain : (backTo cpos (starEach [] X.env)).any (·.1) = false := by rfl) :
    DE X G env (.Call (.Attribute (.Name y py) "extend" apos) [e] [] cpos) (env1.set i (some ((oL X.K (ds ++ ds2)).at q))) (dD X.K .none) :=
  de_of (pe_bm PySem.F.plainAttrs_list PySem.F.slot_list_extend PySem.F.type_list_extend mt_extend (pe_var (B.N_ ▸ hN) (B.sc_ ▸ hv) hd hcd) (pa_cons cE_pe pa_nil hs) hbase hfew hline hs hplain) fun T σ H hs Q qq => by
    obtain ⟨ds0, hi0⟩ := hi0
    obtain ⟨p, xs, e1, h1, _⟩ := hs.openL hi0
    refine ⟨_, e1, .inl ⟨rfl, xs, SqL.of h1⟩, he T σ H hs _ fun v H1 k1 => ?_⟩
    have k2 := k1.freeze
    rw [hA] at k2
    obtain ⟨w, e3, k3⟩ := k2.take hi
    rw [e1] at e3; cases e3
    obtain ⟨HF, o, o1, o2, m1, ⟨hq, p2, xs2, f1, f2, m2⟩, m3, m4⟩ := k3.top
    cases f1
    subst f2
    have hp2 := (m1.own (p, .lst xs2) (by simp)).1
    cases m3 with
    | @cons _ _ ov os _ bv tt =>
      obtain ⟨rfl, bv⟩ := bv
      obtain ⟨pb, ys, rfl, b1, b2⟩ := dpLt bv
      have hl1 : i < env1.length := (List.getElem?_eq_some_iff.mp hi).1
      have hlen1 := dpAll_len m2
      have hlen2 := dpAll_len b2
      refine ⟨p, pb, xs2, ys, rfl, rfl, hp2, m1.inH _ _ b1, by omega, qq _ _ ?_⟩
      have m5 : Held G HF ((p, .lst (xs2 ++ ys)) :: (os ++ o2)) (upd H1 p (.lst (xs2 ++ ys))) := Held.put (o := .lst xs2) (by simpa using m1)
      have m6 := (StA.ofTop (o := [(p, .lst (xs2 ++ ys))]) (v := .ref p) (A := (oL X.K (ds ++ ds2)).at q) m5 ⟨hq, p, _, rfl, rfl, dpAll_app m2 b2⟩ tt m4).back e1 (by rw [List.getElem?_set_self hl1])
      rw [List.set_set] at m6
      exact m6.push isD_non
/-- {e: v}, the key a tuple -/
theorem pex_disp1 {ek ev : Expr} {tk tv : TE} (hu : X.A.units + 100 < cLine) (hk : PE X ek tk) (hv : PE X ev tv) : PE X (.Dict [some ek] [ev] pos) (fun σ H Q => ∀ p, H p = none → tk σ (upd H p (dxO X.prog X.w p [])) fun x H1 => tv σ H1 fun y H2 => ∃ b k, x = .ref b ∧ H2 p = some (dxO X.prog X.w p []) ∧ Dp X.K H2 (.ref b) k.data ∧ k.depth ≤ 8 ∧ Q (.ref p) (upd H2 p (dxO X.prog X.w p [(k, b, y)]))) := by
  refine ⟨fun pins s σ H Q I h => ?_⟩
  have hn := I.hok.fresh (Nat.le_refl s.heap.objs.size)
  have I1 := I.laid (a := s.heap.objs.size) (o := dxO X.prog X.w s.heap.objs.size []) (h' := s.heap.push { cls := .type "dict", data := .dict #[] }) (t' := s.toks) (fun _ _ q => Heap.get?_push_of_some _ q) (Nat.le_refl _)
    (dx_ok ⟨Nat.zero_le _, beq_eq_false_iff_ne.mpr (Ne.symm (Nat.ne_of_lt I.big)), [], .nil, _, #[], 0, Heap.get?_push_size _ rfl, ⟨rfl, rfl, rfl⟩, rfl, rfl, List.nodup_nil⟩)
  rw [arm_eval_Dict, zip_pairTrees [some ek] [ev] X.env pos rfl rfl, dictDisplay_pairs (pairTrees [some ek] [ev] X.env pos) (by simp [pairTrees]) (by simp [pairTrees])]
  refine wpAny_bind (wpAny_standAt (wpAny_bind (wpAny_subDictH (knd := nestedKind X.prog X.w) (Q := fun d s' => wpAny (model X.prog X.w) X.A (pure (Value.ref d)) (EP X pins σ Q) X.xe s') (show X.A.units + 8 < cLine by omega) (by simp [pairTrees])
    (pairTrees_cons_walk (thn (hk.run pins _ σ _ _ I1 (h _ hn)) fun u s1 ⟨x, H1, I1, rx, q1⟩ => thn (hv.run pins s1 σ H1 _ I1 q1) fun w2 s2 ⟨y, H2, I2, ry, b, k, ex, e, d, hd, q2⟩ => pairTrees_nil_walk ?_)))))
  subst ex
  obtain rfl : u = Value.ref b := rx
  obtain ⟨z1, z2, xs, r, dd⟩ := dx_dict I2 e (fun _ z => (by cases z))
  cases r
  refine ⟨[(k, b, w2)], ⟨rfl, rfl, ⟨nested_of I2 d rfl, hd⟩, trivial⟩, dd, fun h' tk dk hs => wpAny_pure ⟨.ref s.heap.objs.size, _, ?_, rfl, q2⟩⟩
  have e1 : storedAllH ([] : List (NK × Addr × Value)) [(k, b, w2)] = [(k, b, w2)] := rfl
  rw [e1] at dk
  obtain ⟨o', es, ep, hq, h2, h3, h4, _, h5⟩ := dk
  exact d_write I2 (by rw [e]; exact True.intro) hs ⟨o', hq⟩ (dx_ok ⟨by show 1 ≤ sizeLine; decide, z2, [(k, b, w2)], .cons ⟨rfl, rfl, ry⟩ .nil, o', es, ep, hq, h2, h3, h4, h5⟩)
/-- {e: v}, a dict of one's own -/
theorem de_disp1 {ek ev : Expr} {ks : List NK} {d : PyData} {A1 A2 : As} (hu : X.A.units + 100 < cLine) (hk : DE X G env ek env1 A1) (hA1 : A1.fr = isD X.K (.tuple (NestedKey.datas ks))) (hv : DE X G env1 ev env2 A2) (hA2 : A2.fr = isD X.K d) (hd : (NestedKey.tup ks).depth ≤ 8) : DE X G env (.Dict [some ek] [ev] pos) env2 ((oDc X.prog X.w X.K [(.tup ks, d)]).at none) :=
  de_of (pex_disp1 hu cE_pe cE_pe) fun T σ H hs Q q p hp => by
    obtain ⟨HF, o1, o2, k1, k2, k3⟩ := hs
    have st : StA G ((.ref p, oDc X.prog X.w X.K []) :: T) env σ (upd H p (dxO X.prog X.w p [])) := StA.newO k1 k2 k3 hp ⟨p, [], rfl, rfl, fun _ z => (by cases z), .nil⟩
    refine hk _ σ _ st _ fun x H1 h1 => hv _ σ H1 h1.freeze _ fun y H2 h2 => ?_
    have h3 := h2.freeze
    rw [hA1, hA2] at h3
    have h4 := h3.perm (T' := (V.ref p, oDc X.prog X.w X.K []) :: (y, .fz (isD X.K d)) :: (x, .fz (isD X.K (.tuple (NestedKey.datas ks)))) :: T) (by
      refine (List.Perm.cons _ (List.Perm.swap _ _ _)).trans ?_
      exact List.Perm.swap _ _ _)
    obtain ⟨HF2, o, p1, p2, m1, ⟨a, kvs, e1, e2, e3, e4⟩, m3, m4⟩ := h4.top
    cases e1
    subst e2
    cases e4
    have hp2 := (m1.own (p, dxO X.prog X.w p []) (by simp)).1
    cases m3 with
    | @cons _ _ oy os _ by' tt =>
      obtain ⟨rfl, by'⟩ := by'
      cases tt with
      | @cons _ _ ox os2 _ bx tt =>
        obtain ⟨rfl, bx⟩ := bx
        obtain ⟨pb, xs, rfl, g1, g2⟩ := dpT bx
        have bx' : Dp X.K HF2 (.ref pb) (NestedKey.tup ks).data := bx
        refine ⟨pb, .tup ks, rfl, hp2, dp_mono m1.inH bx', hd, q _ _ ?_⟩
        have m5 := m1.put (u := dxO X.prog X.w p [(.tup ks, pb, y)])
        exact StA.ofTop (o := [(p, dxO X.prog X.w p [(.tup ks, pb, y)])]) (by simpa using m5) ⟨fun _ z => (nomatch z), p, _, rfl, rfl, fun z hz => by rw [List.mem_singleton.mp hz]; exact ⟨bx', hd⟩, .cons ⟨rfl, by'⟩ .nil⟩ tt m4
/-- d.get(k) -/
theorem pex_getM {o e : Expr} {td ty : TE} {apos cpos : Pos} (hu : X.A.units + 100 < cLine) (ho : PE X o td) (he : PE X e ty) (m : M1 X o "get" apos e cpos) : PE X (.Call (.Attribute o "get" apos) [e] [] cpos) (fun σ H Q => td σ H fun x H1 => (∃ a kvs, x = .ref a ∧ H1 a = some (dxO X.prog X.w a kvs)) ∧ ty σ H1 fun y H2 => ∃ r, DxG X.K X.prog X.w H2 x y r ∧ Q (r.getD .non) H2) := by
  refine ⟨fun pins s σ H Q I h => ?_⟩
  refine wpAny_Call_method m.base m.few m.line PySem.F.plainAttrs_dict PySem.F.slot_dict_get PySem.F.type_dict_get (thn (ho.run pins s σ H _ I h) fun u s1 ⟨x, H1, I1, rx, ⟨a, kvs, ex, e1⟩, q1⟩ => ?_)
  subst ex
  obtain rfl : u = Value.ref a := rx
  obtain ⟨ob, t1, t2⟩ := dx_typ I1 e1
  refine ⟨⟨ob, t1, t2.1⟩, fun b eb => by cases eb; exact ⟨ob, t1, t2.2.1⟩, ?_⟩
  rw [m.trees]
  refine Calls.callWith_builtin rfl (Calls.evalArgs_plain (Calls.spliced_cons (thn (he.run pins s1 σ H1 _ I1 q1) fun iv s2 ⟨y, H2, I2, ry, r, ⟨a', b, kvs', k, ea, ey, g1, g2, g3, g4, g5⟩, q2⟩ => Calls.spliced_nil ?_)))
  cases ea
  subst ey
  obtain rfl : iv = Value.ref b := ry
  obtain ⟨z, hd, xs, rel, dd⟩ := dx_dict I2 g1 g2
  refine call_meetsIn PySem.F.slot_dict_get dd.typeIs PySem.F.entry_dict_get (PySem.F.args_dict_get_2 _ _) (meetsH_dict_get (nestedKind X.prog X.w) a b hd) ⟨room8 hu, k, xs, ⟨nested_of I2 g3 rfl, g4⟩, dd, ?_⟩
  have rr := rel.get k
  rw [g5] at rr
  exact ⟨_, H2, I2.tok _, rr.getD (d := V.non) rfl, q2⟩
theorem de_getMX {L : Tb} {ks : List NK} {apos cpos : Pos} (ha : DE X G env a env1 A) (hA : A.fr = isX X.prog X.w X.K L) (hb : DE X G env1 b env2 B) (hB : B.fr = isD X.K (.tuple (NestedKey.datas ks))) (hu : X.A.units + 100 < cLine) (hk : (NestedKey.tup ks).depth ≤ 8) (hbase : attributeBase a "get" X.env (eval a X.env) = eval a X.env := by rfl)
    (hfew : ((backTo cpos (starEach [b] X.env)).all (fun x => !x.1) && (backToKw cpos (keywordEach [] X.env)).all (fun x => x.1.isSome) && decide (([b] : List Expr).length + ([] : List Keyword).length + (if ([] : List Keyword).isEmpty then 0 else 1) < 30)) = true := by rfl)
    (hline : (apos.endLine == cpos.line) = true := by rfl) (htr : backTo cpos (starEach [b] X.env) = [(false, eval b X.env)] := by rfl) : DE X G env (.Call (.Attribute a "get" apos) [b] [] cpos) env2 (dD X.K ((getL L (.tup ks)).getD .none)) :=
  de_of (pex_getM hu cE_pe cE_pe ⟨hbase, hfew, hline, htr⟩) fun T σ H hs Q q => ha T σ H hs _ fun va H1 h1 => by
    have h1' := h1.freeze
    rw [hA] at h1'
    obtain ⟨HF1, ex1, p1, kvs1, e1, e2, _, _⟩ := h1'.one
    refine ⟨⟨p1, kvs1, e1, ex1 _ _ e2⟩, hb _ σ H1 h1' _ fun vb H2 h2 => ?_⟩
    have h3 := h2.freeze
    rw [hB] at h3
    obtain ⟨HF, o1, o2, k1, ⟨a', kvs, rfl, k2, k3, k4⟩, k5, t, s⟩ := h3.two'
    obtain ⟨p, xs, rfl, k6, k7⟩ := dpT k5
    have ex := k1.inH
    have k5' : Dp X.K HF (.ref p) (NestedKey.tup ks).data := k5
    refine ⟨getR kvs (.tup ks), ⟨a', p, kvs, .tup ks, rfl, rfl, ex _ _ k2, k3.mono ex, dp_mono ex k5', hk, rfl⟩, ?_⟩
    rcases rowsD_get k4 (.tup ks) with ⟨g1, g2⟩ | ⟨v, d', g1, g2, g3⟩
    · rw [g2] at q
      rw [g1]
      exact q _ H2 ⟨HF, [] ++ o1, o2, k1, .cons (A := dD X.K .none) ⟨rfl, Dp.non⟩ t, s⟩
    · rw [g2] at q
      rw [g1]
      exact q _ H2 ⟨HF, [] ++ o1, o2, k1, .cons (A := dD X.K d') ⟨rfl, g3⟩ t, s⟩
end
end DL

set_option maxHeartbeats 4000000
/-! DL21: comprehensions of several clauses, one name each, without tests. -/
namespace DL
open PySem PySem.Spec PyProof.Rows L2
section
variable {X Y : Cx} {N : List Str} {sc : Scope} {ok : Str → Bool} {G : Reg} {env env1 env2 env3 env' : Ev} {A B S R' : As} {P R : FP} {e a b : Expr} {es : List Expr} {pos : Pos} {x : Str} {K : PySem.W.Frag} {own : List Nat} {elt : Expr}
variable {α β : Type}
theorem lcb1n {iter : Expr} {gs : List Comprehension} {y : Str} {yp : Pos} (j : Nat) (xs : List α) (Pf : α → FP) (h : α → List As) (L : List As) (B : Bx κ Y N sc ok) (hz : L.length + (xs.flatMap h).length ≤ sizeLine) (hI : DI κ Y G env (.Name y yp) iter env (xs.map Pf)) (hj : env[j]? = some none) (hjo : j ∈ own)
    (hr : ∀ a ∈ xs, ∀ L : List As, L.length + (h a).length ≤ sizeLine → LCb κ Y G own elt gs (env.set j (some (.fz (Pf a)))) L (env.set j (some (.fz (Pf a)))) (L ++ h a))
    (hN : N[j]? = some y := by rfl) (hx : Loc sc y := by first | exact Or.inl rfl | exact Or.inr rfl) (hok : ok y = true := by rfl) (hs : ∀ x, foldedSetIterable iter Y.env x = pure x := by intro _; rfl) :
    LCb κ Y G own elt (⟨.Name y yp, iter, [], 0⟩ :: gs) env L env (L ++ xs.flatMap h) := by
  have e : xs.filter (fun _ => true) = xs := List.filter_eq_self.mpr fun _ _ => rfl
  have := lcb_p (Y := Y) (G := G) (elt := elt) (own := own) (g := ⟨.Name y yp, iter, [], 0⟩) (gs := gs) xs Pf (fun _ => true) h (fun a => env.set j (some (.fz (Pf a)))) [j] L (by rw [e]; exact hz) hI (fun a _ => dg_name B j hN hx (List.getElem?_eq_some_iff.mp hj).1 hok) (by simpa using hjo) (fun a _ => Wk.un hj) (fun a _ => dts_nil) (fun a ha _ => hr a ha) rfl hs
  rwa [e] at this
theorem lcr1n {iter : Expr} {gs : List Comprehension} {scope : Scope} {y : Str} {yp : Pos} (ownp : List (Str × Nat)) (j : Nat) (xs : List α) (Pf : α → FP) (h : α → List As) (B : Bx κ X N sc ok) (bl : BlkOk N sc scope ownp) (hI : DI κ X G env (.Name y yp) iter env1 (xs.map Pf)) (hz : (xs.flatMap h).length ≤ sizeLine)
    (ho : ∀ p ∈ ownp, ∀ A, env1[p.2]? ≠ some (some A)) (hj : env1[j]? = some none) (hjo : j ∈ ownp.map (·.2))
    (turn : ∀ s0 H0 C cl fp, Bx κ (BY X s0 H0 scope C cl fp) N (relS scope sc) (okB scope) → ∀ a ∈ xs, ∀ L : List As, L.length + (h a).length ≤ sizeLine → LCb κ (BY X s0 H0 scope C cl fp) G (ownp.map (·.2)) elt gs (env1.set j (some (.fz (Pf a)))) L (env1.set j (some (.fz (Pf a)))) (L ++ h a))
    (hN : N[j]? = some y := by rfl) (hx : Loc (relS scope sc) y := by first | exact Or.inl rfl | exact Or.inr rfl) (hok : okB scope y = true := by rfl) (hs : ∀ x, foldedSetIterable iter X.env x = pure x := by intro _; rfl) (hnx : ∀ g' ∈ gs, g'.is_async = 0 ∧ ∀ (env : Env) x, foldedSetIterable g'.iter env x = pure x) :
    LCR X G env elt ⟨.Name y yp, iter, [], 0⟩ gs scope pos env1 ((oA (xs.flatMap h)).at none) := by
  have e : xs.filter (fun _ => true) = xs := List.filter_eq_self.mpr fun _ _ => rfl
  have := lcr_p (X := X) (G := G) (elt := elt) (pos := pos) (g := ⟨.Name y yp, iter, [], 0⟩) (gs := gs) ownp xs Pf (fun _ => true) h (fun a => env1.set j (some (.fz (Pf a)))) [j] B bl hI (by rw [e]; exact hz) ho (by simpa using hjo) (fun a _ => Wk.un hj)
    (fun s0 H0 C cl fp BYx a ha => ⟨dg_name BYx j hN hx (List.getElem?_eq_some_iff.mp hj).1 hok, dts_nil, fun _ => turn s0 H0 C cl fp BYx a ha⟩) rfl hs hnx
  rwa [e] at this
theorem lcb_el (h : DE Y G env elt env A) {L : List As} (hz : L.length + 1 ≤ sizeLine) : LCb κ Y G own elt [] env L env (L ++ [A]) := lcb_nil h hz
end
end DL

set_option maxHeartbeats 4000000
/-! DL22: is True; an empty dict, locked; its keys walked; index in a list of texts; insert at 0. -/
namespace DL
open PySem PySem.Spec PyProof.Rows L2
section
variable {X : Cx} {N : List Str} {sc : Scope} {ok : Str → Bool} {G : Reg} {env env1 env2 env3 env' : Ev} {A B S R' : As} {P R : FP} {e a b : Expr} {es : List Expr} {pos : Pos} {x : Str} {K : PySem.W.Frag} {κ : Bool}
/-- is True, is False -/
theorem pc_isB {d : Bool} {j} {pos' : Pos} {ta : TE} (ha : PE X a ta) : PC X .Is a (.Constant (.bool d) j pos') (fun σ H Q => ta σ H fun x H1 => ∃ c, x = .bl c ∧ Q (.bl (c == d)) H1) := by
  refine ⟨fun pins s σ H Q I h => ?_⟩
  refine thn (ha.run pins s σ H _ I h) fun v s1 ⟨x, H1, I1, r1, c, ex, q1⟩ => ?_
  subst ex
  cases r1
  exact Constant_bool (is_bool ⟨.bl _, H1, I1, rfl, q1⟩)
theorem de_isB {c d : Bool} {j} {p' : Pos} (h : DE X G env a env1 A) (hA : A.fr = isD X.K (.bool c)) : DE X G env (.Compare a [.Is] [.Constant (.bool d) j p'] pos) env1 (dD X.K (.bool (c == d))) :=
  de_of (pe_cmp (pc_isB cE_pe)) fun T σ H hs Q q => h T σ H hs _ fun v H' h' => by
    obtain ⟨HF, ex, hv⟩ := h'.freeze.one
    rw [hA] at hv
    exact ⟨c, dpB hv, q _ H' (h'.pop.push isD_bl)⟩
/-- {}, locked -/
theorem pe_dnewS : PE X (.Dict [] [] pos) (fun _ H Q => ∀ p od, H p = none → Q (.ref p) (upd H p (.frz od (.dK [])))) := ⟨fun pins s σ H Q I h => by
  have I1 := I.laid (a := s.heap.objs.size) (o := .dK []) (t' := s.toks) (h' := s.heap.push { cls := .type "dict", data := .dict #[] }) (fun _ _ q => Heap.get?_push_of_some _ q) (Nat.le_refl _) (dk_empty s.heap I.big)
  obtain ⟨od, I2⟩ := I1.lock upd_same (by trivial)
  rw [upd_upd] at I2
  exact wpAny_Dict_empty ⟨.ref s.heap.objs.size, _, I2, rfl, h _ od (I.hok.fresh (Nat.le_refl _))⟩⟩
theorem de_newS : DE X G env (.Dict [] [] pos) env (.fz (isS [])) :=
  de_of pe_dnewS fun T σ H hs Q q p od hp => by
    obtain ⟨HF, o1, o2, h1, t, s⟩ := hs
    exact q _ _ (StA.newF h1 t s hp ⟨p, od, rfl, upd_same⟩)
theorem hasTy_S {kvs : List (Key × V)} : HasTy K (isS kvs) (.type "dict") := fun HF H v ex ⟨a, od, h1, h2⟩ => by
  subst h1
  exact .fDict (ex _ _ h2)
theorem nonB_S {kvs : List (Key × V)} : NonB (isS kvs) false := fun HF v ⟨a, od, h1, h2⟩ => by
  subst h1
  rfl
/-- the keys of an empty dict -/
theorem turn_keysEH {P : Program} {w : World} {tg : Expr} {d : Addr} {o : Obj} {es : Array DictEntry} {ep : Nat} (it : Addr) (hod : o.data = .dict es ep) : L2H.TurnH P w K tg (Itk d o []) [it] it (fun i h => h.IsKeyIter it d i ([] : List (Key × V)).length ep) where
  mem := by simp
  obj := (turn_keys (P := P) (w := w) (K := K) (tg := tg) (kvs := []) it hod).obj
  keep := (turn_keys (P := P) (w := w) (K := K) (tg := tg) (kvs := []) it hod).keep
  item := by
    intro X hP hw hK hc i pins s σ H E I hf st hg
    exact absurd hg.2 (by simp)
  done := by
    intro X hP hw hK hc i pins s σ H E I hf st hg
    subst hP hw hK
    obtain ⟨hd, hi⟩ := hg
    obtain ⟨f0, f1, f2, f3, f4, f5⟩ := hf it (by simp)
    obtain ⟨hs, hgd, hx, es', ep', vs, hdt, hsz, kv, hm⟩ := I.frzK hd
    obtain ⟨rfl, rfl⟩ := dict_ep hod hdt
    obtain ⟨x1, hot, hne⟩ := hot_at hc I (hf it (by simp))
    have h0 : es'.size = 0 := hsz
    refine next_keys_end_hot hot hne (es := es') (ep := ep') (by rw [h0]; exact st) ⟨o, hgd, hx, hdt⟩ (by omega) fun h' eb => ⟨rfl, I.turned (t' := s.toks) (fun b ob hb e => eb b ob hb e) f0 f1 f3 f4 f5⟩
  self := (turn_keys (P := P) (w := w) (K := K) (tg := tg) (kvs := []) it hod).self
def iKeysE (td : TE) : TI := fun σ H R => td σ H fun x H1 => ∃ d o, x = .ref d ∧ H1 d = some (.frz o (.dK [])) ∧ R (Itk d o []) H1
theorem pi_keysEH {tg : Expr} {td : TE} (he : PE X e td) : L2H.PIH X tg e (iKeysE td) := by
  refine ⟨fun pins s σ H R I h => ?_⟩
  refine thn (he.run pins s σ H _ I h) fun u s1 ⟨x, H1, I1, rx, d, o, ex, hd, q⟩ => ?_
  subst ex
  obtain rfl : u = Value.ref d := rx
  obtain ⟨hs, hgd, hx, es, ep, vs, hdt, hsz, kv, hm⟩ := I1.frzK hd
  refine iter_keys hs hgd hx hdt ?_
  refine ⟨s1.heap.objs.size, [s1.heap.objs.size], _, _, H1, rfl, I1.kept (t' := s1.toks) fun b o e => Heap.get?_push_of_some _ e, turn_keysEH _ hdt, ⟨_, Heap.get?_push_size _ rfl, rfl, ?_⟩, fun b hb => ?_, q⟩
  · rw [hsz] <;> rfl
  · have e : b = s1.heap.objs.size := by simpa using hb
    subst e
    exact I1.fpOk (Nat.le_refl _) (I1.hok.fresh (Nat.le_refl _))
theorem pib_keysE {tg : Expr} {td : TE} (he : PE X e td) : PIB κ X tg e (iKeysE td) := by
  cases κ with
  | false => exact pi_keysEH he
  | true =>
    refine ⟨fun pins s σ H R I h => ?_⟩
    refine thn (he.run pins s σ H _ I h) fun u s1 ⟨x, H1, I1, rx, d, o, ex, hd, q⟩ => ?_
    subst ex
    obtain rfl : u = Value.ref d := rx
    obtain ⟨hs, hgd, hx, es, ep, vs, hdt, hsz, kv, hm⟩ := I1.frzK hd
    refine iter_keys hs hgd hx hdt (pi_one (tk := s1.toks) I1 _ (turn_keys _ hdt) ⟨_, Heap.get?_push_size _ rfl, rfl, ?_⟩ q)
    rw [hsz] <;> rfl
theorem di_keysE {tg : Expr} (h : DE X G env e env1 A) (hA : A.fr = isS []) : DI κ X G env tg e env1 [] :=
  ⟨_, pib_keysE cE_pe, fun T σ H hs R r => h T σ H hs _ fun v H1 h1 => by
    have h2 := h1.freeze
    rw [hA] at h2
    obtain ⟨HF, o1, o2, k1, ⟨d, od, e1, e2⟩, t, s⟩ := h2.one'
    refine ⟨d, od, e1, k1.inH _ _ e2, r _ H1 [(.ref d, .fz (isSo d od []))] ?_ walks_kS⟩
    subst e1
    exact ⟨HF, [] ++ o1, o2, k1, .cons (A := .fz (isSo d od [])) ⟨rfl, rfl, e2⟩ t, s⟩⟩
/-- l.index(z), texts -/
theorem de_indexL {zs : List Str} {z : Str} {j : Nat} {apos cpos : Pos} (ha : DE X G env a env1 A) (hA : A.fr = isD X.K (.list (zs.map .str))) (hb : DE X G env1 b env2 (dD X.K (.str z))) (hj : zs[j]? = some z) (hn : ∀ m, m < j → zs[m]? ≠ some z)
    (hbase : attributeBase a "index" X.env (eval a X.env) = eval a X.env := by rfl) (hfew : ((backTo cpos (starEach [b] X.env)).all (fun x => !x.1) && (backToKw cpos (keywordEach [] X.env)).all (fun x => x.1.isSome)
      && decide ([b].length + ([] : List Keyword).length + (if ([] : List Keyword).isEmpty then 0 else 1) < 30)) = true := by rfl)
    (hline : (apos.endLine == cpos.line) = true := by rfl) (hs : starEach [b] X.env = (false, eval b X.env) :: starEach [] X.env := by rfl) (hplain : (backTo cpos (starEach [] X.env)).any (·.1) = false := by rfl) :
    DE X G env (.Call (.Attribute a "index" apos) [b] [] cpos) env2 (dD X.K (.int (j : Nat))) :=
  de_of (pe_bm PySem.F.plainAttrs_list PySem.F.slot_list_index PySem.F.type_list_index mt_index cE_pe (pa_cons cE_pe pa_nil hs) hbase hfew hline hs hplain) fun T σ H hs' Q q => ha T σ H hs' _ fun va H1 h1 => by
    have h2 := h1.freeze
    rw [hA] at h2
    obtain ⟨HF, ex, hp⟩ := h2.one
    obtain ⟨p, xs, rfl, g1, g2⟩ := dpL hp
    refine ⟨.inl ⟨rfl, xs, Ex.l ex g1⟩, ?_⟩
    refine hb _ σ H1 h2 _ fun vb H2 h3 => ?_
    obtain ⟨HF2, ex2, k1, k2⟩ := h3.two
    obtain ⟨p', xs', e', g1', g2'⟩ := dpL k1
    cases e'
    have ez : xs' = zs.map V.str := dpAll_strs g2'
    subst ez
    refine ⟨p, zs.map V.str, vb, j, .str z, rfl, rfl, Ex.l ex2 g1', ?_, flat_strs zs, ?_, ?_, ?_, q _ H2 (h3.pop.pop.push isD_int)⟩
    · rw [dpS k2]; rfl
    · rw [List.getElem?_map, hj]; rfl
    · rw [dpS k2]; show decide (z = z) = true; simp
    · intro m z' hm hz'
      rw [List.getElem?_map] at hz'
      obtain ⟨w, hw, rfl⟩ := Option.map_eq_some_iff.mp hz'
      rw [dpS k2]
      show decide (w = z) = false
      refine decide_eq_false fun e => hn m hm ?_
      rw [hw, e]
/-- x.insert(0, e), x a name's own list, that is no more wanted -/
theorem de_insert0 {q : Option V} {L : List As} {y : Str} {py apos cpos ip : Pos} {j} (B : Bx κ X N sc ok) (i : Nat) (he : DE X G env e env (.fz P)) (hi : env[i]? = some (some ((oA L).at q)) := by rfl) (hz : L.length < sizeLine) (hN : N[i]? = some y := by rfl)
    (hv : Vis sc y := by first | exact Or.inl rfl | exact Or.inr (Or.inl rfl) | exact Or.inr (Or.inr rfl)) (hd : (y == ("__debug__" : Str)) = false := by decide) (hcd : (y == ("__classdict__" : Str)) = false := by decide)
    (hbase : attributeBase (.Name y py) "insert" X.env (eval (.Name y py) X.env) = eval (.Name y py) X.env := by rfl)
    (hfew : ((backTo cpos (starEach [.Constant (.int 0) j ip, e] X.env)).all (fun x => !x.1) && (backToKw cpos (keywordEach [] X.env)).all (fun x => x.1.isSome) && decide ([.Constant (.int 0) j ip, e].length + ([] : List Keyword).length + (if ([] : List Keyword).isEmpty then 0 else 1) < 30)) = true := by rfl)
    (hline : (apos.endLine == cpos.line) = true := by rfl) (hs : starEach [.Constant (.int 0) j ip, e] X.env = (false, eval (.Constant (.int 0) j ip) X.env) :: starEach [e] X.env := by rfl) (hs2 : starEach [e] X.env = (false, eval e X.env) :: starEach [] X.env := by rfl) (hplain : (backTo cpos (starEach [e] X.env)).any (·.1) = false := by rfl) :
    DE X G env (.Call (.Attribute (.Name y py) "insert" apos) [.Constant (.int 0) j ip, e] [] cpos) (env.set i none) (dD X.K .none) :=
  de_of (pe_bm PySem.F.plainAttrs_list PySem.F.slot_list_insert PySem.F.type_list_insert mt_insert (pe_var (B.N_ ▸ hN) (B.sc_ ▸ hv) hd hcd) (pa_cons cE_pe (pa_cons cE_pe pa_nil hs2) hs) hbase hfew hline hs hplain) fun T σ H hs' Q qq => by
    obtain ⟨v0, e1, k0⟩ := hs'.take hi
    obtain ⟨HF0, o0, _, _, g1, ⟨_, p, xs, os0, f1, f2, _, _⟩, _, _⟩ := k0.top
    subst f1 f2
    have h1 := (g1.own (p, .lst xs) (by simp)).1
    refine ⟨_, e1, .inl ⟨rfl, xs, SqL.of h1⟩, de_int (G := G) (env := env) T σ H hs' _ fun v H1 k1 => ?_⟩
    refine he _ σ H1 k1 _ fun w H2 k2 => ?_
    obtain ⟨HFa, exa, ja, jb⟩ := k2.two
    obtain ⟨u, e3, k3⟩ := k2.take hi
    rw [e1] at e3; cases e3
    obtain ⟨HF, o, o1, o2, m1, ⟨m2, p', xs', os, n1, n2, n3, n4⟩, m3, m4⟩ := k3.top
    cases n1
    subst n2
    have hH := (m1.own (p, .lst xs') (by simp)).1
    refine ⟨p, xs', 0, w, rfl, by rw [dpI ja], hH, by omega, by decide, by decide, qq _ _ ?_⟩
    have m5 : Held G HF (((p, .lst xs') :: os) ++ (o1 ++ o2)) H2 := m1
    have m6 := (Held.put (u := .lst (xs'.take (0 : Int).toNat ++ [w] ++ xs'.drop (0 : Int).toNat)) (show Held G HF ((p, .lst xs') :: (os ++ (o1 ++ o2))) H2 from m5))
    have m7 : StA G ((w, .fz P) :: (v, dD X.K (.int 0)) :: T) (env.set i none) σ (upd H2 p (.lst (xs'.take (0 : Int).toNat ++ [w] ++ xs'.drop (0 : Int).toNat))) :=
      ⟨HF, o1, o2, Held.drop (o1 := (p, .lst (xs'.take (0 : Int).toNat ++ [w] ++ xs'.drop (0 : Int).toNat)) :: os) m6, m3, m4⟩
    exact m7.pop.pop.push isD_non
end
end DL

set_option maxHeartbeats 4000000
namespace Hd
open PySem PySem.Spec PyProof.Rows L2
def topS (i : Nat) : Stmt := PySem.Challenge.pw_waysenough_k70_neighbours_and_steps.main.body.getD i (.Pass ⟨0, 0, 0, 0⟩)
end Hd
namespace K7
open PySem PySem.Spec PyProof.Rows L2 DL Hd
structure Md where
  P : Program
  w : World
  K : PySem.W.Frag
  mg : Str → Option Value
  base : Heap
def mdOf (X : Cx) : Md := ⟨X.prog, X.w, X.K, X.mg, X.base⟩
def FnD (M : Md) (x : Str) (st : Stmt) (ps : List Str) : Prop := ∃ f fd, M.mg x = some (.ref f) ∧ Binds M.K fd ps [] ∧ FunD M.K x x (defArgs st) (defBody st) (defScope st) [] [] f fd
abbrev FK (M : Md) (x : Str) (k : Nat) (ps : List Str) {ι : Type} (args : ι → List DL.Arg) (ret : ι → As) : Prop := FnK M.P M.w M.K M.mg M.base CX0 x k ps (spD args ret)
theorem fk {M : Md} {x : Str} {st : Stmt} {N ps : List Str} {k : Nat} {ι : Type} {args : ι → List DL.Arg} {ret : ι → As} (F : FnD M x st ps) (S : FnScope N ps (defScope st)) (hl : ∀ i, (args i).length = ps.length)
    (hb : ∀ (X : Cx), mdOf X = M → Bx true X N (defScope st) (fun _ => true) → Room k X.A → ∀ (i : ι) (G : Reg) (vs : List V), vs.length = ps.length → DSs X G (env0 (args i) vs N) (defBody st) (Fin (args i) (ret i) vs)) : FK M x (k + 1) ps args ret := by
  obtain ⟨f, fd, h1, h2, h3⟩ := F
  refine fnk_of (P := M.P) (w := M.w) (K := M.K) (mg := M.mg) (base := M.base) h3 h1 h2 S hl fun X e1 e2 e3 e4 e5 B hr _ i G vs hv => hb X ?_ B hr i G vs hv
  obtain ⟨P, w, K, mg, base⟩ := M
  simp only at e1 e2 e3 e4 e5
  subst e1 e2 e3 e4 e5
  rfl
theorem nk {X : Cx} {x : Str} {k m : Nat} {ps : List Str} {ι : Type} {args : ι → List DL.Arg} {ret : ι → As} (F : FK (mdOf X) x k ps args ret) (hr : Room m X.A) (i : ι) (h : k ≤ m := by omega) : NC X x ((args i).map DL.Arg.pre) ((args i).map DL.Arg.aft) (ret i) :=
  nc_of (P := X.prog) (w := X.w) (K := X.K) (mg := X.mg) (base := X.base) F (hr.mono h) i
/-- a def proved under a module, whether an exception is handled or not -/
def FB (M : Md) (x : Str) (k : Nat) (ps : List Str) {ι : Type} (args : ι → List DL.Arg) (ret : ι → As) : Prop := ∀ κ, FnKB κ M.P M.w M.K M.mg M.base x k ps (spD args ret)
theorem FB.fk {M : Md} {x : Str} {k : Nat} {ps : List Str} {ι : Type} {args : ι → List DL.Arg} {ret : ι → As} (h : FB M x k ps args ret) : FK M x k ps args ret := h true
theorem fkb {M : Md} {x : Str} {st : Stmt} {N ps : List Str} {k : Nat} {ι : Type} {args : ι → List DL.Arg} {ret : ι → As} (F : FnD M x st ps) (S : FnScope N ps (defScope st)) (hl : ∀ i, (args i).length = ps.length)
    (hb : ∀ (κ : Bool) (X : Cx), mdOf X = M → Bx κ X N (defScope st) (fun _ => true) → RoomB κ k X.A → ∀ (i : ι) (G : Reg) (vs : List V), vs.length = ps.length → DSs X G (env0 (args i) vs N) (defBody st) (Fin (args i) (ret i) vs)) : FB M x (k + 1) ps args ret := by
  intro κ
  obtain ⟨f, fd, h1, h2, h3⟩ := F
  refine ⟨f, fd, h1, h3.kp, h2, fn_okB (P := M.P) (w := M.w) (K := M.K) (mg := M.mg) (base := M.base) h3 S hl κ fun X e1 e2 e3 e4 e5 B hr _ i G vs hv => hb κ X ?_ B hr i G vs hv, fdAt_of h3⟩
  obtain ⟨P, w, K, mg, base⟩ := M
  simp only at e1 e2 e3 e4 e5
  subst e1 e2 e3 e4 e5
  rfl
theorem nkb {κ : Bool} {X : Cx} {N : List Str} {sc : Scope} {ok : Str → Bool} {x : Str} {k m : Nat} {ps : List Str} {ι : Type} {args : ι → List DL.Arg} {ret : ι → As} (F : FB (mdOf X) x k ps args ret) (B : Bx κ X N sc ok) (hr : RoomB κ m X.A) (i : ι) (h : k ≤ m := by omega) : NC X x ((args i).map DL.Arg.pre) ((args i).map DL.Arg.aft) (ret i) := by
  obtain ⟨f, fd, h1, h2, h3, h4, _⟩ := F κ
  exact .inl ⟨f, h1, h2, callD_ofB h4 (hr.mono h) B.cm h3 i⟩
/-- built-in names that are used -/
structure NoB (mg : Str → Option Value) : Prop where
  len : mg "len" = none
  range : mg "range" = none
  isinstance : mg "isinstance" = none
  all : mg "all" = none
  sorted : mg "sorted" = none
  dict : mg "dict" = none
  tuple : mg "tuple" = none
  list : mg "list" = none
  int : mg "int" = none
  str : mg "str" = none
  bool : mg "bool" = none
  max : mg "max" = none
  min : mg "min" = none
  abs : mg "abs" = none
  sum : mg "sum" = none
  enumerate : mg "enumerate" = none
theorem len1 {vs : List V} (h : vs.length = 1) : ∃ v, vs = [v] := match vs, h with | [v], _ => ⟨v, rfl⟩
theorem len2 {vs : List V} (h : vs.length = 2) : ∃ v w, vs = [v, w] := match vs, h with | [v, w], _ => ⟨v, w, rfl⟩
theorem len3 {vs : List V} (h : vs.length = 3) : ∃ v w u, vs = [v, w, u] := match vs, h with | [v, w, u], _ => ⟨v, w, u, rfl⟩
theorem len4 {vs : List V} (h : vs.length = 4) : ∃ v w u z, vs = [v, w, u, z] := match vs, h with | [v, w, u, z], _ => ⟨v, w, u, z, rfl⟩
theorem len5 {vs : List V} (h : vs.length = 5) : ∃ v w u z y, vs = [v, w, u, z, y] := match vs, h with | [v, w, u, z, y], _ => ⟨v, w, u, z, y, rfl⟩
section
variable {X : Cx} {P R : FP} {A B S : As} {K : PySem.W.Frag} {G : Reg} {env env1 : Ev} {e : Expr}
/-! isinstance of data -/
def tyOk (d : PyData) (t : String) : Bool := tyD d == t || (t == "int" && tyD d == "bool")
theorem kit_d (d : PyData) (t : String) (ht : t = "int" ∨ t = "bool" ∨ t = "str" ∨ t = "list" ∨ t = "tuple" ∨ t = "dict") : PySem.W.kitOne K (.type (tyD d)) (.type t) = some (tyOk d t) := by
  refine kit_ty ?_
  have h : ∀ s ∈ ["NoneType", "bool", "int", "str", "list", "tuple", "dict"], ∀ t ∈ ["int", "bool", "str", "list", "tuple", "dict"], kitB s t = some (s == t || (t == "int" && s == "bool")) := by decide +kernel
  refine h _ ?_ t (by simpa using ht)
  cases d <;> simp [tyD]
theorem nc_isi (nb : NoB X.mg) {d : PyData} {t : String} (ht : t = "int" ∨ t = "bool" ∨ t = "str" ∨ t = "list" ∨ t = "tuple" ∨ t = "dict") : NC X "isinstance" [dD X.K d, .fz (isV (.ty t))] [dD X.K d, .fz (isV (.ty t))] (dD X.K (.bool (tyOk d t))) :=
  nc_b (cd_isi (hasTy_d d) (.ty t) (kit_d d t ht)) nb.isinstance
end

/-! ### shapes -/
section
variable {M : Md} (nb : NoB M.mg)
theorem sc_is_list : FnScope ["value"] ["value"] (defScope (topS 15)) := ⟨rfl, rfl, rfl, by decide +kernel, rfl, by decide +kernel, by decide +kernel⟩
def isSeq (d : PyData) : Bool := tyOk d "list" || tyOk d "tuple"
include nb in
theorem ok_is_list (F : FnD M "is_list" (topS 15) ["value"]) : FK M "is_list" 1 ["value"] (fun d : PyData => [.z (isD M.K d)]) (fun d => dD M.K (.bool (isSeq d))) := by
  refine fk (N := ["value"]) F sc_is_list (fun _ => rfl) ?_
  rintro X rfl B hr d G vs hv
  obtain ⟨v, rfl⟩ := len1 hv
  have hk : PySem.W.kitAny X.K (.type (tyD d)) [.type "list", .type "tuple"] = some (isSeq d) := by
    have h1 := kit_d (K := X.K) d "list" (by simp)
    have h2 := kit_d (K := X.K) d "tuple" (by simp)
    simp only [PySem.W.kitAny, h1, h2, isSeq]
    cases tyOk d "list" <;> cases tyOk d "tuple" <;> rfl
  refine dss_end (ds_ret (env1 := env0 [DL.Arg.z (isD X.K d)] [v] ["value"]) (de_nc B (nc_b (cd_isiT (hasTy_d d) (.cons (.ty "list") (.cons (.ty "tuple") .nil)) hk) nb.isinstance) (da_cons (de_name B 0) (da_cons (de_tupV (ws := [.ty "list", .ty "tuple"]) (da_cons (de_bty B nb.list) (da_cons (de_bty B nb.tuple) da_nil))) da_nil)) (.inr rfl)) ⟨rfl, trivial⟩)
theorem sc_is_tuple_of : FnScope ["value", "many"] ["value", "many"] (defScope (topS 16)) := ⟨rfl, rfl, rfl, by decide +kernel, rfl, by decide +kernel, by decide +kernel⟩
include nb in
theorem ok_is_tuple_of (F : FnD M "is_tuple_of" (topS 16) ["value", "many"]) : FK M "is_tuple_of" 1 ["value", "many"] (fun i : List PyData × Nat => [.z (isD M.K (.tuple i.1)), .z (isD M.K (.int i.2))]) (fun i => dD M.K (.bool (decide (i.1.length = i.2)))) := by
  refine fk (N := ["value", "many"]) F sc_is_tuple_of (fun _ => rfl) ?_
  rintro X rfl B hr ⟨ds, n⟩ G vs hv
  obtain ⟨v, w, rfl⟩ := len2 hv
  refine dss_end (ds_ret (env1 := env0 [DL.Arg.z (isD X.K (.tuple ds)), DL.Arg.z (isD X.K (.int n))] [v, w] ["value", "many"]) (de_eq (de_and (de_nc B (nc_isi nb (d := .tuple ds) (t := "tuple") (by simp)) (da_cons (de_name B 0) (da_cons (de_bty B nb.tuple) da_nil)) (.inl rfl)) fun _ => de_one (de_cmp (de_nc B (nc_b cd_lenT nb.len) (da_cons (de_name B 0) da_nil) (.inl rfl)) (de_name B 1) (opd_eqI _ _ hr.units))) ?_) ⟨rfl, trivial⟩)
  have e : decide ((ds.length : Int) = n) = decide (ds.length = n) := decide_eq_decide.mpr (by omega)
  rw [e]; rfl
end
/-- a constant of the module, data -/
def GlD (M : Md) (x : Str) (d : PyData) : Prop := ∃ v u, M.mg x = some u ∧ RelV v u ∧ ∀ HF, (isD M.K d).p HF v
section
variable {X : Cx} {N : List Str} {sc : Scope} {ok : Str → Bool} {P R : FP} {A B S : As} {K : PySem.W.Frag} {G : Reg} {env env1 env2 : Ev} {e : Expr} {x : Str} {p pos : Pos}
theorem de_gl {d : PyData} (B : Bx κ X N sc ok) (h : GlD (mdOf X) x d) (hg : GlS sc x := by rfl) (hd : (x == ("__debug__" : Str)) = false := by decide) : DE X G env (.Name x pos) env (dD X.K d) := by
  obtain ⟨v, u, h1, h2, h3⟩ := h
  exact de_glob B h1 h2 h3 hg hd
/-- all(..) -/
theorem de_all (B : Bx true X N sc ok) (nb : NoB X.mg) (bs : List Bool) {ds : List PyData} (h : DE X G env e env1 (oLn X.K ds)) (hb : ds = bs.map .bool) (hg : GlS sc "all" := by rfl)
    (he : starEach [e] X.env = (false, eval e X.env) :: starEach [] X.env := by rfl) (hpl : (backTo pos (starEach [] X.env)).any (·.1) = false := by rfl) : DE X G env (.Call (.Name "all" p) [e] [] pos) env1 (dD X.K (.bool (bs.all id))) := by
  subst hb
  exact de_nc B (nc_b (cd_all B.calm bs) nb.all) (da_cons h da_nil he) (.inl rfl) hg (by decide) he hpl
theorem de_allT (B : Bx true X N sc ok) (nb : NoB X.mg) {ds : List PyData} (h : DE X G env e env1 (oLn X.K ds)) (hb : ∀ d ∈ ds, d = .bool true) (hg : GlS sc "all" := by rfl)
    (he : starEach [e] X.env = (false, eval e X.env) :: starEach [] X.env := by rfl) (hpl : (backTo pos (starEach [] X.env)).any (·.1) = false := by rfl) : DE X G env (.Call (.Name "all" p) [e] [] pos) env1 (dD X.K (.bool true)) := by
  have e1 : ds = (ds.map fun _ => true).map .bool := by
    rw [List.map_map]
    conv => lhs; rw [← List.map_id ds]
    exact List.map_congr_left fun d hd => by rw [id, hb d hd]; rfl
  refine de_eq (de_all B nb (ds.map fun _ => true) h e1 hg he hpl) ?_
  rw [show (ds.map fun _ => true).all id = true from List.all_eq_true.mpr (by simp)]
end
section
variable {M : Md} (nb : NoB M.mg)
def letters : Str := "abcdefghijklmnopqrstuvwxyz"
def kept : List Str := ["all", "some", "not", "none", "any", "if"]
def isWord (z : Str) : Bool := decide (1 ≤ z.length) && decide (z.length ≤ 8) && z.cps.toList.all fun c => decide (c ∈ letters.cps.toList)
theorem sc_is_word : FnScope ["value", "sign"] ["value"] (defScope (topS 17)) := ⟨rfl, rfl, rfl, by decide +kernel, rfl, by decide +kernel, by decide +kernel⟩
include nb in
theorem ok_is_word (F : FnD M "is_word" (topS 17) ["value"]) (g1 : GlD M "MOST_LETTERS" (.int 8)) (g2 : GlD M "LETTERS" (.str letters)) : FK M "is_word" 1 ["value"] (fun i : { z : Str // isWord z = true } => [.z (isD M.K (.str i.1))]) (fun _ => dD M.K (.bool true)) := by
  refine fk (N := ["value", "sign"]) F sc_is_word (fun _ => rfl) ?_
  rintro X rfl B hr ⟨z, hz⟩ G vs hv
  obtain ⟨v, rfl⟩ := len1 hv
  have hz' := hz
  simp only [isWord, Bool.and_eq_true, decide_eq_true_eq, List.all_eq_true] at hz'
  obtain ⟨⟨h1, h2⟩, h3⟩ := hz'
  have hsz := sizeLine_eq
  refine dss_if (env1 := env0 [DL.Arg.z (isD X.K (.str z))] [v] ["value", "sign"]) (dt_w (dw_or (dt_not (dt_val (de_nc B (nc_isi nb (d := .str z) (t := "str") (by simp)) (da_cons (de_name B 0) (da_cons (de_bty B nb.str) da_nil)) (.inl rfl)))) fun _ => dw_or1 (dt_not (dt_chain de_int (de_nc B (nc_b (cd_lenS (z := z) (by omega)) nb.len) (da_cons (de_name B 0) da_nil) (.inl rfl)) (opd_le _ _) (de_gl B g1) (opd_le _ _))))) (fun h => ?_) (fun _ => ?_)
  · exfalso
    have a1 : decide ((1 : Int) ≤ z.length) = true := by simp; omega
    have a2 : decide ((z.length : Int) ≤ 8) = true := by simp; omega
    rw [a1, a2] at h
    simp [tyOk, tyD] at h
  · refine dss_end (ds_ret (env1 := env0 [DL.Arg.z (isD X.K (.str z))] [v] ["value", "sign"]) (de_allT B nb (de_lcr (lcr_1 1 (sgD z) (isD X.K) (fun _ => true) (fun _ => .bool true) B ⟨by decide +kernel, by decide +kernel, by decide +kernel, by decide +kernel, by decide +kernel⟩ (di_s (de_name B 0)) (by rw [show (sgD z).length = z.length by simp [sgD, Str.length]]; omega) rfl fun s0 H0 C cl fp B' a ha => ⟨dts_nil, fun _ => ?_⟩)) ?_) ⟨rfl, trivial⟩)
    · obtain ⟨c, hc, rfl⟩ := List.mem_map.mp ha
      exact ⟨_, rfl, de_eq (de_cmp (de_name B' 1) (de_gl B' g2) (opd_inS c letters)) (by rw [decide_eq_true (h3 c hc)])⟩
    · intro d hd
      simp only [List.mem_map] at hd
      obtain ⟨_, _, rfl⟩ := hd
      rfl
def isName (z : Str) : Bool := isWord z && !decide (z ∈ kept)
theorem sc_is_name : FnScope ["value"] ["value"] (defScope (topS 18)) := ⟨rfl, rfl, rfl, by decide +kernel, rfl, by decide +kernel, by decide +kernel⟩
abbrev wordArgs (M : Md) : { z : Str // isWord z = true } → List DL.Arg := fun i => [.z (isD M.K (.str i.1))]
abbrev nameArgs (M : Md) : { z : Str // isName z = true } → List DL.Arg := fun i => [.z (isD M.K (.str i.1))]
theorem ok_is_name (F : FnD M "is_name" (topS 18) ["value"]) (g1 : GlD M "KEPT_WORDS" (.tuple (kept.map .str))) (f1 : FK M "is_word" 1 ["value"] (wordArgs M) (fun _ => dD M.K (.bool true))) : FK M "is_name" 2 ["value"] (nameArgs M) (fun _ => dD M.K (.bool true)) := by
  refine fk (N := ["value"]) F sc_is_name (fun _ => rfl) ?_
  rintro X rfl B hr ⟨z, hz⟩ G vs hv
  obtain ⟨v, rfl⟩ := len1 hv
  have hz' := hz
  simp only [isName, Bool.and_eq_true] at hz'
  refine dss_end (ds_ret (env1 := env0 [DL.Arg.z (isD X.K (.str z))] [v] ["value"]) (de_eq (de_and (de_nc B (nk f1 hr ⟨z, hz'.1⟩) (da_cons (de_name B 0) da_nil) (.inl rfl)) fun _ => de_one (de_cmp (de_name B 0) (de_gl B g1) (opd_notInT z kept))) ?_) ⟨rfl, trivial⟩)
  rw [hz'.2]; rfl
/-! ### are_ways -/
structure WaysOk (L : List (Str × Str)) : Prop where
  lo : 1 ≤ L.length
  hi : L.length ≤ 5
  nm : ∀ p ∈ L, isName p.1 = true ∧ isName p.2 = true
  nd : (L.map (·.1)).Nodup
  inv : ∀ p ∈ L, (p.2, p.1) ∈ L
theorem mergeK_nd : ∀ (M acc : List (Key × V)), ((acc ++ M).map (·.1)).Nodup → mergeK acc M = acc ++ M
  | [], acc, _ => by simp [mergeK]
  | p :: M, acc, h => by
    have hn : valV acc p.1 = none := by
      cases q : valV acc p.1 with
      | none => rfl
      | some x =>
        exfalso
        simp only [valV, Option.map_eq_some_iff] at q
        obtain ⟨r, hr, _⟩ := q
        have h1 := List.find?_some hr
        have h2 := List.mem_of_find?_eq_some hr
        simp only [decide_eq_true_eq] at h1
        rw [List.map_append, List.nodup_append] at h
        exact h.2.2 r.1 (List.mem_map.mpr ⟨r, h2, rfl⟩) p.1 (by simp) h1
    show mergeK (putK acc p.1 p.2) M = _
    rw [putK_new _ hn, mergeK_nd M _ (by simpa using h)]
    simp
theorem kvS_nd {L : List (Str × Str)} (h : (L.map (·.1)).Nodup) : mergeK [] (L.map kvS) = L.map kvS := by
  rw [mergeK_nd _ _ ?_, List.nil_append]
  rw [List.nil_append, List.map_map]
  have : (L.map ((fun x => x.1) ∘ kvS)) = (L.map (·.1)).map Sum.inr := by rw [List.map_map]; rfl
  rw [this]
  exact List.Pairwise.map _ (fun a b hab h => hab (Sum.inr.inj h)) h
theorem kvS_get : ∀ {L : List (Str × Str)} {a b : Str}, (L.map (·.1)).Nodup → (a, b) ∈ L → valV (L.map kvS) (.inr a) = some (.str b)
  | p :: L, a, b, h, hm => by
    rw [List.map_cons, List.nodup_cons] at h
    rcases List.mem_cons.mp hm with e | hm
    · subst e; exact valV_pos rfl
    · rw [List.map_cons, valV_neg (p := kvS p) ?_]
      · exact kvS_get h.2 hm
      · intro e
        exact h.1 (List.mem_map.mpr ⟨(a, b), hm, (Sum.inr.inj e).symm⟩)
theorem sc_are_ways : FnScope ["value", "way", "name", "turned"] ["value"] (defScope (topS 21)) := ⟨rfl, rfl, rfl, by decide +kernel, rfl, by decide +kernel, by decide +kernel⟩
abbrev waysArgs (M : Md) : { L : List (Str × Str) // WaysOk L } → List DL.Arg := fun i => [.z (isD M.K (.list (i.1.map pairS)))]
abbrev tofArgs (M : Md) : List PyData × Nat → List DL.Arg := fun i => [.z (isD M.K (.tuple i.1)), .z (isD M.K (.int i.2))]
abbrev lstArgs (M : Md) : PyData → List DL.Arg := fun d => [.z (isD M.K d)]
include nb in
theorem ok_are_ways (F : FnD M "are_ways" (topS 21) ["value"]) (g1 : GlD M "MOST_WAYS" (.int 5)) (f1 : FK M "is_list" 1 ["value"] (lstArgs M) (fun d => dD M.K (.bool (isSeq d)))) (f2 : FK M "is_tuple_of" 1 ["value", "many"] (tofArgs M) (fun i => dD M.K (.bool (decide (i.1.length = i.2)))))
    (f3 : FK M "is_name" 2 ["value"] (nameArgs M) (fun _ => dD M.K (.bool true))) : FK M "are_ways" 3 ["value"] (waysArgs M) (fun _ => dD M.K (.bool true)) := by
  refine fk (N := ["value", "way", "name", "turned"]) F sc_are_ways (fun _ => rfl) ?_
  rintro X rfl B hr ⟨L, hL⟩ G vs hv
  obtain ⟨v, rfl⟩ := len1 hv
  have hsz := sizeLine_eq
  have h5 := hL.hi
  have h1 := hL.lo
  let E0 := env0 [DL.Arg.z (isD X.K (.list (L.map pairS)))] [v] ["value", "way", "name", "turned"]
  have hlen : (L.map pairS).length = L.length := List.length_map _
  refine dss_if (env1 := E0) (k := false) (dt_eq (dt_w (dw_or (dt_not (dt_val (de_nc B (nk f1 hr (.list (L.map pairS))) (da_cons (de_name B 0) da_nil) (.inl rfl)))) fun _ => dw_or (dt_not (dt_chain de_int (de_nc B (nc_b cd_lenL nb.len) (da_cons (de_name B 0) da_nil) (.inl rfl)) (opd_le _ _) (de_gl B g1) (opd_le _ _))) fun _ => dw_or1 (dt_not (dt_val (de_allT B nb (de_lcr (lc1n 1 L (fun p => isD X.K (pairS p)) (fun _ => .bool true) B ⟨by decide +kernel, by decide +kernel, by decide +kernel, by decide +kernel, by decide +kernel⟩ (di_ldm L pairS (de_name B 0) rfl) (by omega) rfl fun s0 H0 C cl fp B' p ha => ?_)) ?_))))) ?_) (fun h => (nomatch h)) (fun _ => ?_)
  · exact ⟨_, rfl, de_nc B' (nk (X := BY X s0 H0 _ C cl fp) f2 hr ([.str p.1, .str p.2], 2)) (da_cons (de_name B' 1) (da_cons de_int da_nil)) (.inl rfl)⟩
  · intro d hd
    obtain ⟨_, _, rfl⟩ := List.mem_map.mp hd
    rfl
  · have a1 : decide ((1 : Int) ≤ ((L.map pairS).length : Nat)) = true := by simp; omega
    have a2 : decide (((L.map pairS).length : Int) ≤ 5) = true := by simp; omega
    rw [a1, a2]
    rfl
  refine dss_if (env1 := E0) (k := false) (dt_not (dt_val (de_allT B nb (de_lcr (lc2n 2 3 L (fun p => .str p.1) (fun p => .str p.2) (fun _ => .bool true) B ⟨by decide +kernel, by decide +kernel, by decide +kernel, by decide +kernel, by decide +kernel⟩ (di_ldm L pairS (de_name B 0) rfl) (by omega) rfl rfl (by decide) fun s0 H0 C cl fp B' p ha => ?_)) ?_))) (fun h => (nomatch h)) (fun _ => ?_)
  · exact ⟨_, rfl, de_eq (de_and (de_nc B' (nk (X := BY X s0 H0 _ C cl fp) f3 hr ⟨p.1, (hL.nm p ha).1⟩) (da_cons (de_name B' 2) da_nil) (.inl rfl)) fun _ => de_one (de_nc B' (nk (X := BY X s0 H0 _ C cl fp) f3 hr ⟨p.2, (hL.nm p ha).2⟩) (da_cons (de_name B' 3) da_nil) (.inl rfl))) rfl⟩
  · intro d hd
    obtain ⟨_, _, rfl⟩ := List.mem_map.mp hd
    rfl
  refine dss_go (ds_set B 3 (de_nc B (nc_t (cd_dictS B.calm) nb.dict) (da_cons (de_name B 0) da_nil) (.inl rfl))) ?_
  rw [kvS_nd hL.nd]
  refine dss_end (ds_ret (de_eq (de_and (de_cmp (de_nc B (nc_b cd_lenDS nb.len) (da_cons (de_name B 3) da_nil) (.inl rfl)) (de_nc B (nc_b cd_lenL nb.len) (da_cons (de_name B 0) da_nil) (.inl rfl)) (opd_eqI _ _ hr.units)) fun _ => de_one (de_allT B nb (de_lcr (lc1n 2 (L.map kvS) (fun p => isD X.K (keyD p.1)) (fun _ => .bool true) B ⟨by decide +kernel, by decide +kernel, by decide +kernel, by decide +kernel, by decide +kernel⟩ (di_keysS (de_name B 3) rfl) (by simp; omega) rfl fun s0 H0 C cl fp B' q ha => ?_)) ?_)) ?_) ⟨rfl, trivial⟩)
  · obtain ⟨p, hp, rfl⟩ := List.mem_map.mp ha
    have g1 := kvS_get (a := p.1) (b := p.2) hL.nd hp
    have g2 := kvS_get (a := p.2) (b := p.1) hL.nd (hL.inv p hp)
    refine ⟨dD X.K (.bool true), rfl, de_eq (de_cmp (de_getMS (de_name B' 3) rfl (de_getS (de_name B' 3) rfl (de_name B' 2) g1 (by have := B'.un; omega)) g2 (by have := B'.un; omega)) (de_name B' 2) (opd_eqS p.1 p.1)) (by simp)⟩
  · intro d hd
    obtain ⟨_, _, rfl⟩ := List.mem_map.mp hd
    rfl
  · have e : decide (((L.map kvS).length : Int) = ((L.map pairS).length : Nat)) = true := by simp
    rw [e]; rfl
end
end K7

set_option maxHeartbeats 4000000
namespace K7
open PySem PySem.Spec PyProof.Rows L2 DL Hd
abbrev Tr := Nat × Nat × Nat
def nD (n : Nat) : PyData := .int (n : Nat)
def tD (x : Tr) : PyData := .tuple [nD x.1, nD x.2.1, nD x.2.2]
def tK (x : Tr) : List NK := [.num (x.1 : Nat), .num (x.2.1 : Nat), .num (x.2.2 : Nat)]
theorem nD_inj {a b : Nat} (h : nD a = nD b) : a = b := by
  simp only [nD, PyData.int.injEq] at h
  omega
theorem tK_inj {x y : Tr} (h : tK x = tK y) : x = y := by
  obtain ⟨a, b, c⟩ := x
  obtain ⟨a', b', c'⟩ := y
  simp only [tK, List.cons.injEq, NestedKey.num.injEq, and_true] at h
  obtain ⟨h1, h2, h3⟩ := h
  simp only [Prod.mk.injEq]
  omega
/-- the six of a lot -/
def six (b : Nat → Nat) (x : Tr) : List Tr := [(x.1, x.2.1, x.2.2), (b x.1, x.2.2, x.2.1), (x.2.2, b x.2.1, x.1), (b x.2.1, b x.1, b x.2.2), (b x.2.2, x.1, b x.2.1), (x.2.1, b x.2.2, b x.1)]
def bk (back : List Nat) (i : Nat) : Nat := back.getD i 0
/-- each once -/
def ddu (l : List Tr) : List Tr := l.foldl (fun acc x => if x ∈ acc then acc else acc ++ [x]) []
theorem mem_ddu_aux : ∀ (l acc : List Tr) (y : Tr), y ∈ l.foldl (fun acc x => if x ∈ acc then acc else acc ++ [x]) acc ↔ y ∈ acc ∨ y ∈ l
  | [], acc, y => by simp
  | x :: l, acc, y => by
    rw [List.foldl_cons, mem_ddu_aux l]
    by_cases h : x ∈ acc
    · rw [if_pos h]
      constructor
      · rintro (h1 | h1)
        · exact .inl h1
        · exact .inr (List.mem_cons_of_mem _ h1)
      · rintro (h1 | h1)
        · exact .inl h1
        · rcases List.mem_cons.mp h1 with rfl | h1
          · exact .inl h
          · exact .inr h1
    · rw [if_neg h]
      simp only [List.mem_append, List.mem_singleton, List.mem_cons, or_assoc, List.not_mem_nil, false_or]
theorem mem_ddu (l : List Tr) (y : Tr) : y ∈ ddu l ↔ y ∈ l := by rw [ddu, mem_ddu_aux]; simp
def fT (x : Tr) : NK × PyData := (.tup (tK x), .bool true)
theorem getL_fT (acc : List Tr) (x : Tr) : (getL (acc.map fT) (.tup (tK x))).isSome = decide (x ∈ acc) := by
  induction acc with
  | nil => rfl
  | cons y acc ih =>
    unfold getL at ih ⊢
    rw [List.map_cons, List.find?_cons]
    by_cases h : y = x
    · subst h; simp [fT]
    · have h' : ¬ (fT y).1 = .tup (tK x) := fun e => h (tK_inj (by simpa [fT] using e))
      simp only [h', decide_false]
      rw [ih]
      have : x ≠ y := fun e => h e.symm
      simp [this]
theorem putAllL_fT : ∀ (l acc : List Tr), putAllL (acc.map fT) (l.map fT) = (l.foldl (fun acc x => if x ∈ acc then acc else acc ++ [x]) acc).map fT
  | [], acc => rfl
  | x :: l, acc => by
    have e : putL (acc.map fT) (fT x).1 (fT x).2 = (if x ∈ acc then acc else acc ++ [x]).map fT := by
      unfold putL
      rw [show (getL (acc.map fT) (fT x).1).isSome = decide (x ∈ acc) from getL_fT acc x]
      by_cases h : x ∈ acc
      · rw [if_pos (by simpa using h), if_pos h]
        conv => rhs; rw [← List.map_id (acc.map fT)]
        refine List.map_congr_left fun p hp => ?_
        obtain ⟨y, _, rfl⟩ := List.mem_map.mp hp
        split <;> rfl
      · rw [if_neg (by simpa using h), if_neg h, List.map_append]; rfl
    show putAllL (putL (acc.map fT) (fT x).1 (fT x).2) (l.map fT) = _
    rw [e, putAllL_fT l]
    rfl
def leD {α : Type} (f : α → PyData) (a b : α) : Bool := PySem.W.dataLe false id (f a) (f b)
def srt {α : Type} (f : α → PyData) (l : List α) : List α := l.mergeSort (leD f)
theorem sortD_map {α : Type} (f : α → PyData) (l : List α) : sortD (l.map f) = (srt f l).map f := (PySem.W.sort_maps f fun _ _ _ _ => rfl).symm
theorem mem_srt {α : Type} (f : α → PyData) (l : List α) (y : α) : y ∈ srt f l ↔ y ∈ l := (List.mergeSort_perm l _).mem_iff
def lotL (back : List Nat) (x : Tr) : List Tr := srt tD (ddu (six (bk back) x))
theorem mem_lotL (back : List Nat) (x y : Tr) : y ∈ lotL back x ↔ y ∈ six (bk back) x := by rw [lotL, mem_srt, mem_ddu]
def bD (back : List Nat) : List PyData := back.map nD
theorem bD_get {back : List Nat} {i : Nat} (h : i < back.length) : atI (bD back) ((i : Nat) : Int) = some (nD (bk back i)) := by
  refine atI_nat ?_
  rw [bD, List.getElem?_map, List.getElem?_eq_getElem h]
  simp [bk, List.getD_eq_getElem?_getD, List.getElem?_eq_getElem h]
def trIn (n : Nat) (x : Tr) : Prop := x.1 < n ∧ x.2.1 < n ∧ x.2.2 < n
theorem alike_t (x y : Tr) : PySem.W.alike (tD x) (tD y) = true := by simp [tD, nD, PySem.W.alike, PySem.W.alikeAll]
theorem allAlike_t (l : List Tr) : PySem.W.AllAlike (l.map tD) := fun d hd d' hd' => by
  obtain ⟨x, _, rfl⟩ := List.mem_map.mp hd
  obtain ⟨y, _, rfl⟩ := List.mem_map.mp hd'
  exact alike_t x y
theorem sortable_t (l : List Tr) : PySem.W.Sortable (l.map tD) := .inl fun d hd => by
  obtain ⟨x, _, rfl⟩ := List.mem_map.mp hd
  exact ⟨_, _, rfl⟩
section
variable {M : Md} (nb : NoB M.mg)
theorem sc_lot : FnScope ["back", "three", "r", "s", "t", "found", "one"] ["back", "three"] (defScope (topS 22)) := ⟨rfl, rfl, rfl, by decide +kernel, rfl, by decide +kernel, by decide +kernel⟩
abbrev lotArgs (M : Md) : { i : List Nat × Tr // trIn i.1.length i.2 } → List DL.Arg := fun i => [.z (isD M.K (.tuple (bD i.1.1))), .z (isD M.K (tD i.1.2))]
include nb in
theorem ok_lot (F : FnD M "lot" (topS 22) ["back", "three"]) : FK M "lot" 1 ["back", "three"] (lotArgs M) (fun i => oLn M.K ((lotL i.1.1 i.1.2).map tD)) := by
  refine fk (N := ["back", "three", "r", "s", "t", "found", "one"]) F sc_lot (fun _ => rfl) ?_
  rintro X rfl B hr ⟨⟨back, r, s, t⟩, h1, h2, h3⟩ G vs hv
  obtain ⟨v, w, rfl⟩ := len2 hv
  have hu := B.un
  simp only at h1 h2 h3
  have g1 := ixd_t (X := X) (bD_get h1)
  have g2 := ixd_t (X := X) (bD_get h2)
  have g3 := ixd_t (X := X) (bD_get h3)
  refine dss_go (ds_asg (de_name B 1) (dg_tup B (ds := [nD r, nD s, nD t]) (dgs_cons (dg_name B 2) (dgs_cons (dg_name B 3) (dgs_cons (dg_name B 4) dgs_nil))))) ?_
  refine dss_go (ds_set B 5 (de_lstD (dad_cons (de_tupD (dad_cons (de_name B 2) rfl (dad_cons (de_name B 3) rfl (dad_cons (de_name B 4) rfl dad_nil)))) rfl (dad_cons (de_tupD (dad_cons (de_ix (de_name B 0) (de_name B 2) g1) rfl (dad_cons (de_name B 4) rfl (dad_cons (de_name B 3) rfl dad_nil)))) rfl (dad_cons (de_tupD (dad_cons (de_name B 4) rfl (dad_cons (de_ix (de_name B 0) (de_name B 3) g2) rfl (dad_cons (de_name B 2) rfl dad_nil)))) rfl (dad_cons (de_tupD (dad_cons (de_ix (de_name B 0) (de_name B 3) g2) rfl (dad_cons (de_ix (de_name B 0) (de_name B 2) g1) rfl (dad_cons (de_ix (de_name B 0) (de_name B 4) g3) rfl dad_nil)))) rfl (dad_cons (de_tupD (dad_cons (de_ix (de_name B 0) (de_name B 4) g3) rfl (dad_cons (de_name B 2) rfl (dad_cons (de_ix (de_name B 0) (de_name B 3) g2) rfl dad_nil)))) rfl dad_nil))))))) ?_
  have e1 : putAllL [] ((six (bk back) (r, s, t)).map fT) = (ddu (six (bk back) (r, s, t))).map fT := putAllL_fT _ []
  have e2 : ((ddu (six (bk back) (r, s, t))).map fT).map (fun p => p.1.data) = (ddu (six (bk back) (r, s, t))).map tD := by rw [List.map_map]; rfl
  have cd1 := cd_dictX (X := X) (M := (six (bk back) (r, s, t)).map fT) B.calm hu (fun p hp => by
    obtain ⟨x, _, rfl⟩ := List.mem_map.mp hp
    exact ⟨rfl, by show 1 ≤ 8; decide⟩)
  rw [e1] at cd1
  have cd2 := cd_sortedX (X := X) (L := (ddu (six (bk back) (r, s, t))).map fT) B.calm hu (by rw [e2]; exact allAlike_t _) (by rw [e2]; exact sortable_t _)
  rw [e2, sortD_map] at cd2
  refine dss_end (ds_ret (de_nc B (nc_b cd2 nb.sorted) (da_cons (de_nc B (nc_t cd1 nb.dict) (da_cons (de_lcr (lc1n 6 (six (bk back) (r, s, t)) (fun x => isD X.K (tD x)) (fun x => pairD (fT x)) B ⟨by decide +kernel, by decide +kernel, by decide +kernel, by decide +kernel, by decide +kernel⟩ (di_ldm (six (bk back) (r, s, t)) tD (de_lstD (dad_star (de_move B 5) rfl (dad_cons (de_tupD (dad_cons (de_name B 3) rfl (dad_cons (de_ix (de_name B 0) (de_name B 4) g3) rfl (dad_cons (de_ix (de_name B 0) (de_name B 2) g1) rfl dad_nil)))) rfl dad_nil))) rfl) (by show 6 ≤ sizeLine; have := sizeLine_eq; omega) rfl fun s0 H0 C cl fp B' x hx => ?_)) da_nil) (.inl rfl)) da_nil) (.inl rfl)) ⟨rfl, trivial⟩)
  exact ⟨_, rfl, de_tupD (dad_cons (de_name B' 6) rfl (dad_cons de_bl rfl dad_nil))⟩
end
theorem ds_last {X : Cx} {G : Reg} {env env1 E' : Ev} {st : Stmt} {Pt : Out → Prop} (h : DS X G env st (NX env1)) (w : Wk env1 E') : DS X G env st (LpW E' Pt) := ds_imp h fun o ho => by
  have e : o = .nx env1 := ho
  subst e
  exact w
/-! ### masks -/
theorem bitOr_nat (a b : Nat) : Builtin.bitOr (a : Int) (b : Int) = ((a ||| b : Nat) : Int) := by
  have h1 : ∀ n : Nat, decide ((0 : Int) ≤ Builtin.bitNot (n : Int)) = false := fun n => by simp [Builtin.bitNot]; omega
  have h2 : ∀ n : Nat, (Builtin.bitNot (Builtin.bitNot (n : Int))).toNat = n := fun n => by simp [Builtin.bitNot]; omega
  unfold Builtin.bitOr Builtin.bitAnd
  rw [h1, h1]
  simp only [h2]
  simp only [Builtin.bitNot]
  omega
theorem bitAnd_nat (a b : Nat) : Builtin.bitAnd (a : Int) (b : Int) = ((a &&& b : Nat) : Int) := by
  unfold Builtin.bitAnd
  simp
theorem shl_nat (t : Nat) : (1 : Int) * (2 : Int) ^ (((t : Nat) : Int).toNat) = ((1 <<< t : Nat) : Int) := by simp [Nat.shiftLeft_eq]
theorem ixN_n {n j : Nat} (hj : j < n) : ixN n (j : Int) = some j := by simp [ixN, hj]
abbrev Mx := List (List Nat)
def mxGet (M : Mx) (r s : Nat) : Nat := (M.getD r []).getD s 0
def setB (M : Mx) (x : Tr) : Mx := M.set x.1 ((M.getD x.1 []).set x.2.1 (mxGet M x.1 x.2.1 ||| (1 <<< x.2.2)))
def mxD (M : Mx) : List (List PyData) := M.map fun row => row.map nD
def zeroM (n : Nat) : Mx := (List.range n).map fun _ => List.replicate n 0
def sq (n : Nat) (M : Mx) : Prop := M.length = n ∧ ∀ row ∈ M, row.length = n
theorem sq_zero (n : Nat) : sq n (zeroM n) := ⟨by simp [zeroM], fun row h => by
  simp only [zeroM, List.mem_map] at h
  obtain ⟨_, _, rfl⟩ := h
  simp⟩
theorem sq_row {n r : Nat} {M : Mx} (h : sq n M) (hr : r < n) : M[r]? = some (M.getD r []) ∧ (M.getD r []).length = n := by
  have hl : r < M.length := by rw [h.1]; exact hr
  have e : M[r]? = some (M.getD r []) := by rw [List.getD_eq_getElem?_getD, List.getElem?_eq_getElem hl]; rfl
  exact ⟨e, h.2 _ (List.mem_of_getElem? e)⟩
theorem sq_set {n : Nat} {M : Mx} {x : Tr} (h : sq n M) (hx : x.1 < n) : sq n (setB M x) := by
  refine ⟨by simp [setB, h.1], fun row hm => ?_⟩
  rcases List.mem_or_eq_of_mem_set hm with hm | rfl
  · exact h.2 row hm
  · rw [List.length_set]; exact (sq_row h hx).2
theorem mxD_set (M : Mx) (x : Tr) : mxD (setB M x) = (mxD M).set x.1 (((M.getD x.1 []).map nD).set x.2.1 (nD (mxGet M x.1 x.2.1 ||| (1 <<< x.2.2)))) := by
  unfold mxD setB
  rw [List.map_set, List.map_set]
theorem mxD_row {n r : Nat} {M : Mx} (h : sq n M) (hr : r < n) : (mxD M)[r]? = some ((M.getD r []).map nD) := by
  unfold mxD
  rw [List.getElem?_map, (sq_row h hr).1]; rfl
theorem mxD_get {n r s : Nat} {M : Mx} (h : sq n M) (hr : r < n) (hs : s < n) : ((M.getD r []).map nD)[s]? = some (nD (mxGet M r s)) := by
  have h2 := (sq_row h hr).2
  unfold mxGet
  rw [List.getElem?_map]
  generalize M.getD r [] = row at h2 ⊢
  have hl : s < row.length := by rw [h2]; exact hs
  rw [List.getD_eq_getElem?_getD, List.getElem?_eq_getElem hl]; rfl
def masksL (back : List Nat) (threes : List Tr) : Mx := threes.foldl (fun M x => (lotL back x).foldl setB M) (zeroM back.length)
def lstD (rows : List (List PyData)) : PyData := .list (rows.map .list)
theorem oM_of {K : PySem.W.Frag} {α : Type} (xs : List α) (g : α → List PyData) : oA (xs.map fun a => oLn K (g a)) = oM K (xs.map g) := by rw [oM, List.map_map]; rfl
section
variable {X : Cx} {N : List Str} {sc : Scope} {ok : Str → Bool} {P R : FP} {A B S : As} {K : PySem.W.Frag} {G : Reg} {env env1 env2 : Ev} {e : Expr} {x : Str} {p pos : Pos}
theorem de_oM {rows : List (List PyData)} (h : DE X G env e env1 A) (hA : A.fr = (oM X.K rows).fr) : DE X G env e env1 (dD X.K (lstD rows)) :=
  de_isL h (by rw [hA]; exact oM_fr rows)
end
theorem six_in {back : List Nat} (hb : ∀ i ∈ back, i < back.length) {x y : Tr} (hx : trIn back.length x) (hy : y ∈ six (bk back) x) : trIn back.length y := by
  obtain ⟨h1, h2, h3⟩ := hx
  have g : ∀ i, i < back.length → bk back i < back.length := fun i hi => by
    have : bk back i = back[i] := by simp [bk, List.getD_eq_getElem?_getD, List.getElem?_eq_getElem hi]
    rw [this]; exact hb _ (List.getElem_mem hi)
  simp only [six, List.mem_cons, List.not_mem_nil, or_false] at hy
  rcases hy with rfl | rfl | rfl | rfl | rfl | rfl
  · exact ⟨h1, h2, h3⟩
  · exact ⟨g _ h1, h3, h2⟩
  · exact ⟨h3, g _ h2, h1⟩
  · exact ⟨g _ h2, g _ h1, g _ h3⟩
  · exact ⟨g _ h3, h1, g _ h2⟩
  · exact ⟨h2, g _ h3, g _ h1⟩
theorem sq_fold {n : Nat} : ∀ (l : List Tr) (M : Mx), sq n M → (∀ y ∈ l, y.1 < n) → sq n (l.foldl setB M)
  | [], _, h, _ => h
  | y :: l, M, h, hl => sq_fold l _ (sq_set h (hl y List.mem_cons_self)) fun z hz => hl z (List.mem_cons_of_mem _ hz)
structure BkOk (back : List Nat) : Prop where
  hi : back.length ≤ 5
  mem : ∀ i ∈ back, i < back.length
theorem sq_folds {back : List Nat} (hb : BkOk back) : ∀ (l : List Tr) (M : Mx), sq back.length M → (∀ y ∈ l, trIn back.length y) → sq back.length (l.foldl (fun M x => (lotL back x).foldl setB M) M)
  | [], _, h, _ => h
  | y :: l, M, h, hl => sq_folds hb l _ (sq_fold _ _ h fun z hz => (six_in hb.mem (hl y List.mem_cons_self) ((mem_lotL _ _ _).mp hz)).1) fun z hz => hl z (List.mem_cons_of_mem _ hz)
section
variable {M : Md} (nb : NoB M.mg)
theorem sc_masks_of : FnScope ["back", "threes", "many", "masks", "r", "three", "s", "t"] ["back", "threes"] (defScope (topS 23)) := ⟨rfl, rfl, rfl, by decide +kernel, rfl, by decide +kernel, by decide +kernel⟩
structure MkOk (back : List Nat) (l : List Tr) : Prop where
  bk : BkOk back
  inn : ∀ y ∈ l, trIn back.length y
abbrev masksArgs (M : Md) : { i : List Nat × List Tr // MkOk i.1 i.2 } → List DL.Arg := fun i => [.z (isD M.K (.tuple (bD i.1.1))), .z (isD M.K (.list (i.1.2.map tD)))]
include nb in
theorem ok_masks_of (F : FnD M "masks_of" (topS 23) ["back", "threes"]) (f1 : FK M "lot" 1 ["back", "three"] (lotArgs M) (fun i => oLn M.K ((lotL i.1.1 i.1.2).map tD))) : FK M "masks_of" 2 ["back", "threes"] (masksArgs M) (fun i => dD M.K (lstD (mxD (masksL i.1.1 i.1.2)))) := by
  refine fk (N := ["back", "threes", "many", "masks", "r", "three", "s", "t"]) F sc_masks_of (fun _ => rfl) ?_
  rintro X rfl B hr ⟨⟨back, l⟩, hb, hl⟩ G vs hv
  obtain ⟨v, w, rfl⟩ := len2 hv
  have hsz := sizeLine_eq
  have h5 : back.length ≤ 5 := hb.hi
  have hbl : (bD back).length = back.length := List.length_map _
  simp only at hb hl
  let E0 := env0 [DL.Arg.z (isD X.K (.tuple (bD back))), DL.Arg.z (isD X.K (.list (l.map tD)))] [v, w] ["back", "threes", "many", "masks", "r", "three", "s", "t"]
  refine dss_go (env1 := E0.set 2 (some (dD X.K (nD back.length)))) (ds_set B 2 (de_eq (de_nc B (nc_b cd_lenT nb.len) (da_cons (de_name B 0) da_nil) (.inl rfl)) (by rw [hbl]; rfl))) ?_
  refine dss_go (env1 := (E0.set 2 (some (dD X.K (nD back.length)))).set 3 (some ((oM X.K (mxD (zeroM back.length))).at none))) (ds_lcr B 3 (lcr_say (lc1An 4 (List.range back.length) (fun i => isD X.K (.int (i : Nat))) (fun _ => oLn X.K (List.replicate back.length (nD 0))) B ⟨by decide +kernel, by decide +kernel, by decide +kernel, by decide +kernel, by decide +kernel⟩ (di_rn B (de_name B 2) nb.range (by omega)) (by simp; omega) rfl fun s0 H0 C cl fp B' x hx => ?_) ?_)) ?_
  · refine de_eq (de_bin (de_lstD (dad_cons de_int rfl dad_nil)) (de_name B' 2) (opd_repL (n := (back.length : Nat)) (by omega) (by omega) (by simp; omega))) ?_
    simp [List.flatten_replicate_singleton, nD]
  · intro HF v o hp
    rw [oM_of] at hp
    have e : (List.range back.length).map (fun _ => List.replicate back.length (nD 0)) = mxD (zeroM back.length) := by
      simp [mxD, zeroM, List.map_map, Function.comp_def]
    rw [e] at hp
    exact hp
  -- the loops
  let E1 : Mx → Ev := fun m => (E0.set 2 (some (dD X.K (nD back.length)))).set 3 (some ((oM X.K (mxD m)).at none))
  let F1 : Nat → Mx := fun i => (l.take i).foldl (fun M x => (lotL back x).foldl setB M) (zeroM back.length)
  have hsq : ∀ i, sq back.length (F1 i) := fun i => sq_folds hb _ _ (sq_zero _) fun y hy => hl y (List.mem_of_mem_take hy)
  refine dss_go (env1 := E1 (masksL back l)) (ds_forN B (di_ldm l tD (de_name B 1) rfl) (fun i => E1 (F1 i)) (Wk.refl _) (fun i P hP => ?_) (by
    show NX _ (.nx (E1 (F1 _)))
    have : F1 (l.map fun a => isD X.K (tD a)).length = masksL back l := by
      show (l.take _).foldl _ _ = _
      rw [List.length_map, List.take_length]; rfl
    rw [this]; rfl)) ?_
  · rw [List.getElem?_map, Option.map_eq_some_iff] at hP
    obtain ⟨x, hx, rfl⟩ := hP
    have hxm : x ∈ l := List.mem_of_getElem? hx
    have hxin := hl x hxm
    have hF : F1 (i + 1) = (lotL back x).foldl setB (F1 i) := by
      show (l.take (i + 1)).foldl _ _ = _
      rw [take_succ_f hx, List.foldl_append]; rfl
    let E2 : Mx → Ev := fun m => (E1 m).set 5 (some (dD X.K (tD x)))
    refine ⟨_, _, dg_name B 5, dss_end ?_⟩
    let F2 : Nat → Mx := fun j => ((lotL back x).take j).foldl setB (F1 i)
    have hin : ∀ y ∈ lotL back x, trIn back.length y := fun y hy => six_in hb.mem hxin ((mem_lotL _ _ _).mp hy)
    have hsq2 : ∀ j, sq back.length (F2 j) := fun j => sq_fold _ _ (hsq i) fun z hz => (hin z (List.mem_of_mem_take hz)).1
    refine ds_forN (Pt := LpW (E1 (F1 (i + 1))) _) B (di_ldm (lotL back x) tD (de_nc B (nk f1 hr ⟨(back, x), hxin⟩) (da_cons (de_name B 0) (da_cons (de_name B 5) da_nil)) (.inl rfl)) rfl) (fun j => E2 (F2 j)) (Wk.refl _) (fun j P hP => ?_) ?_
    · rw [List.getElem?_map, Option.map_eq_some_iff] at hP
      obtain ⟨⟨r, s, t⟩, hy, rfl⟩ := hP
      have hym : (r, s, t) ∈ lotL back x := List.mem_of_getElem? hy
      obtain ⟨q1, q2, q3⟩ := hin _ hym
      simp only at q1 q2 q3
      have hsj := hsq2 j
      have hF2 : F2 (j + 1) = setB (F2 j) (r, s, t) := by
        show ((lotL back x).take (j + 1)).foldl _ _ = _
        rw [take_succ_f hy, List.foldl_append]; rfl
      have hrow := mxD_row hsj q1
      have hget := mxD_get hsj q1 q2
      have hlen : ((F2 j).getD r []).length = back.length := (sq_row hsj q1).2
      refine ⟨_, _, dg_tup B (ds := [nD r, nD s, nD t]) (dgs_cons (dg_name B 4) (dgs_cons (dg_name B 6) (dgs_cons (dg_name B 7) dgs_nil))), dss_end ?_⟩
      refine ds_last (ds_asg (A := dD X.K (nD (mxGet (F2 j) r s ||| (1 <<< t)))) (de_thaw (fun G' => de_eq (de_bin (de_ix (de_ix (de_oM (de_name B 3) rfl) (de_name B 4) (ixd_l (m := (r : Nat)) (d := .list (((F2 j).getD r []).map nD)) (atI_nat (by rw [List.getElem?_map, hrow]; rfl)))) (de_name B 6) (ixd_l (m := (s : Nat)) (atI_nat hget))) (de_bin de_int (de_name B 7) (opd_shl 1 (t : Nat) ⟨by omega, by omega, by decide⟩)) (opd_or _ _)) (by rw [shl_nat, bitOr_nat]; rfl)) sc_int) (dg_setM B 3 rfl (de_name B 4) (de_name B 6) (ixN_n (by simp [mxD, hsj.1]; exact q1)) hrow (ixN_n (by rw [List.length_map, hlen]; exact q2)))) ?_
      · have e3 : mxD (F2 (j + 1)) = (mxD (F2 j)).set r ((((F2 j).getD r []).map nD).set s (nD (mxGet (F2 j) r s ||| (1 <<< t)))) := by rw [hF2, mxD_set]
        refine Drop.wk ?_
        show Drop _ (((E0.set 2 (some (dD X.K (nD back.length)))).set 3 (some ((oM X.K (mxD (F2 (j + 1)))).at none))).set 5 (some (dD X.K (tD x))))
        rw [e3]
        repeat (first | exact Drop.nil | apply Drop.keep | apply Drop.skip)
    · show Wk (E2 (F2 _)) (E1 (F1 (i + 1)))
      have e4 : F2 (((lotL back x).map fun a => isD X.K (tD a))).length = F1 (i + 1) := by
        rw [hF]
        show ((lotL back x).take _).foldl _ _ = _
        rw [List.length_map, List.take_length]
      rw [e4]
      refine Drop.wk ?_
      show Drop (((E0.set 2 (some (dD X.K (nD back.length)))).set 3 (some ((oM X.K (mxD (F1 (i + 1)))).at none))).set 5 (some (dD X.K (tD x)))) ((E0.set 2 (some (dD X.K (nD back.length)))).set 3 (some ((oM X.K (mxD (F1 (i + 1)))).at none)))
      repeat (first | exact Drop.nil | apply Drop.keep | apply Drop.skip)
  refine dss_end (ds_ret (de_oM (A := (oM X.K (mxD (masksL back l))).at none) (de_move B 3) rfl) ⟨rfl, trivial⟩)
end
end K7

set_option maxHeartbeats 4000000
namespace K7
open PySem PySem.Spec PyProof.Rows L2 DL Hd
/-! ### Table -/
def FnM (M : Md) (x qual : Str) (st : Stmt) (ps : List Str) (f : Addr) : Prop := ∃ fd, Binds M.K fd ps [] ∧ FunD M.K x qual (defArgs st) (defBody st) (defScope st) [] [] f fd
def FM (M : Md) (f : Addr) (k : Nat) (ps : List Str) {ι : Type} (args : ι → List DL.Arg) (ret : ι → As) : Prop := ∃ fd, Binds M.K fd ps [] ∧ FnOk M.P M.w M.K M.mg M.base CX0 k f fd ps (spD args ret)
theorem fkm {M : Md} {x qual : Str} {st : Stmt} {N ps : List Str} {k : Nat} {f : Addr} {ι : Type} {args : ι → List DL.Arg} {ret : ι → As} (F : FnM M x qual st ps f) (S : FnScope N ps (defScope st)) (hl : ∀ i, (args i).length = ps.length)
    (hb : ∀ (X : Cx), mdOf X = M → Bx true X N (defScope st) (fun _ => true) → Room k X.A → ∀ (i : ι) (G : Reg) (vs : List V), vs.length = ps.length → DSs X G (env0 (args i) vs N) (defBody st) (Fin (args i) (ret i) vs)) : FM M f (k + 1) ps args ret := by
  obtain ⟨fd, h2, h3⟩ := F
  refine ⟨fd, h2, fn_ok (P := M.P) (w := M.w) (K := M.K) (mg := M.mg) (base := M.base) h3 S hl fun X e1 e2 e3 e4 e5 B hr _ i G vs hv => hb X ?_ B hr i G vs hv⟩
  obtain ⟨P, w, K, mg, base⟩ := M
  simp only at e1 e2 e3 e4 e5
  subst e1 e2 e3 e4 e5
  rfl
def FMB (M : Md) (f : Addr) (k : Nat) (ps : List Str) {ι : Type} (args : ι → List DL.Arg) (ret : ι → As) : Prop := ∀ κ, ∃ fd, Binds M.K fd ps [] ∧ FnB κ M.P M.w M.K M.mg M.base k f fd ps (spD args ret)
theorem FMB.fm {M : Md} {f : Addr} {k : Nat} {ps : List Str} {ι : Type} {args : ι → List DL.Arg} {ret : ι → As} (h : FMB M f k ps args ret) : FM M f k ps args ret := h true
theorem fkmb {M : Md} {x qual : Str} {st : Stmt} {N ps : List Str} {k : Nat} {f : Addr} {ι : Type} {args : ι → List DL.Arg} {ret : ι → As} (F : FnM M x qual st ps f) (S : FnScope N ps (defScope st)) (hl : ∀ i, (args i).length = ps.length)
    (hb : ∀ (κ : Bool) (X : Cx), mdOf X = M → Bx κ X N (defScope st) (fun _ => true) → RoomB κ k X.A → ∀ (i : ι) (G : Reg) (vs : List V), vs.length = ps.length → DSs X G (env0 (args i) vs N) (defBody st) (Fin (args i) (ret i) vs)) : FMB M f (k + 1) ps args ret := by
  intro κ
  obtain ⟨fd, h2, h3⟩ := F
  refine ⟨fd, h2, fn_okB (P := M.P) (w := M.w) (K := M.K) (mg := M.mg) (base := M.base) h3 S hl κ fun X e1 e2 e3 e4 e5 B hr _ i G vs hv => hb κ X ?_ B hr i G vs hv⟩
  obtain ⟨P, w, K, mg, base⟩ := M
  simp only at e1 e2 e3 e4 e5
  subst e1 e2 e3 e4 e5
  rfl
theorem cdb {κ : Bool} {X : Cx} {N : List Str} {sc : Scope} {ok : Str → Bool} {f : Addr} {k m : Nat} {ps : List Str} {ι : Type} {args : ι → List DL.Arg} {ret : ι → As} (F : FMB (mdOf X) f k ps args ret) (B : Bx κ X N sc ok) (hr : RoomB κ m X.A) (i : ι) (h : k ≤ m := by omega) : CallD X (.ref f) ((args i).map DL.Arg.pre) ((args i).map DL.Arg.aft) (ret i) := by
  obtain ⟨fd, h3, h4⟩ := F κ
  exact callD_ofB h4 (hr.mono h) B.cm h3 i
structure TbF (K : PySem.W.Frag) (C : Addr) : Prop where
  cl : Cls K C
  nw : NoAttr K C "ways"
  nb : NoAttr K C "back"
  nm : NoAttr K C "masks"
def sDs (ways : List Str) : List PyData := ways.map .str
def wy (ways : List Str) (i : Nat) : Str := ways.getD i ""
abbrev fs1 (K : PySem.W.Frag) (ways : List Str) : List (Str × FP) := [("ways", isT0 K (sDs ways))]
abbrev fs2 (K : PySem.W.Frag) (ways : List Str) (back : List Nat) : List (Str × FP) := [("ways", isT0 K (sDs ways)), ("back", isD K (.tuple (bD back)))]
structure Tab where
  ways : List Str
  back : List Nat
  masks : Mx
abbrev fsT (K : PySem.W.Frag) (T : Tab) : List (Str × FP) := [("ways", isT0 K (sDs T.ways)), ("back", isD K (.tuple (bD T.back))), ("masks", isD K (lstD (mxD T.masks)))]
theorem wy_get {ways : List Str} {i : Nat} (h : i < ways.length) : ways[i]? = some (wy ways i) := by
  rw [wy, List.getD_eq_getElem?_getD, List.getElem?_eq_getElem h]; rfl
theorem wy_mem {ways : List Str} {i : Nat} (h : i < ways.length) : wy ways i ∈ ways := List.mem_of_getElem? (wy_get h)
theorem wy_first {ways : List Str} (hn : ways.Nodup) {i : Nat} (h : i < ways.length) : ∀ m, m < i → ways[m]? ≠ some (wy ways i) := fun m hm e => by
  have h2 : m < ways.length := by omega
  have e2 : ways[m]? = ways[i]? := e.trans (wy_get h).symm
  have := (List.getElem?_inj h2 hn).mp e2
  omega
def trN (ways : List Str) (x : Tr) : PyData := .tuple [.str (wy ways x.1), .str (wy ways x.2.1), .str (wy ways x.2.2)]
structure TbOk (ways : List Str) (back : List Nat) : Prop where
  len : ways.length = back.length
  hi : back.length ≤ 5
  mem : ∀ i ∈ back, i < back.length
  nd : ways.Nodup
section
variable {M : Md} (nb : NoB M.mg) {CT : Addr} (tc : TbF M.K CT)
theorem sc_is_three_of : FnScope ["table", "value", "way"] ["table", "value"] (defScope (topS 26)) := ⟨rfl, rfl, rfl, by decide +kernel, rfl, by decide +kernel, by decide +kernel⟩
structure ThrOk (ways : List Str) (back : List Nat) (zs : List Str) : Prop where
  ok : TbOk ways back
  le : zs.length = 3
  mm : ∀ z ∈ zs, z ∈ ways
abbrev iToArgs (M : Md) (CT : Addr) : { i : List Str × List Nat × List Str // ThrOk i.1 i.2.1 i.2.2 } → List DL.Arg := fun i => [.l (oI CT (fs2 M.K i.1.1 i.1.2.1)) (oI CT (fs2 M.K i.1.1 i.1.2.1)), .z (isD M.K (.tuple (sDs i.1.2.2)))]
include nb tc in
theorem ok_is_three_of (F : FnD M "is_three_of" (topS 26) ["table", "value"]) (f2 : FK M "is_tuple_of" 1 ["value", "many"] (tofArgs M) (fun i => dD M.K (.bool (decide (i.1.length = i.2))))) : FK M "is_three_of" 2 ["table", "value"] (iToArgs M CT) (fun _ => dD M.K (.bool true)) := by
  refine fk (N := ["table", "value", "way"]) F sc_is_three_of (fun _ => rfl) ?_
  rintro X rfl B hr ⟨⟨ways, back, zs⟩, hok, h3, hm⟩ G vs hv
  obtain ⟨v, w, rfl⟩ := len2 hv
  simp only at hok h3 hm
  have hsz := sizeLine_eq
  have hlz : (sDs zs).length = 3 := by rw [sDs, List.length_map, h3]
  refine dss_end (ds_ret (de_eq (de_and (de_nc B (nk f2 hr (sDs zs, 3)) (da_cons (de_name B 1) (da_cons de_int da_nil)) (.inl rfl)) fun _ => de_one (de_allT B nb (de_lcr (lc1n 2 zs (fun z => isD X.K (.str z)) (fun _ => .bool true) B ⟨by decide +kernel, by decide +kernel, by decide +kernel, by decide +kernel, by decide +kernel⟩ (di_tdm zs PyData.str (de_name B 1) rfl) (by omega) rfl fun s0 H0 C cl fp B' z hz => ?_)) ?_)) ?_) ⟨rfl, rfl, trivial⟩)
  · refine ⟨dD X.K (.bool true), rfl, de_eq (de_and (de_nc B' (nc_isi (X := BY X s0 H0 _ C cl fp) nb (d := .str z) (t := "str") (by simp)) (da_cons (de_name B' 2) (da_cons (de_bty B' nb.str) da_nil)) (.inl rfl)) fun _ => de_one (de_cmp (de_name B' 2) (de_t0 (de_fldO B' 0 tc.cl tc.nw) rfl) (opd_inT z ways))) ?_⟩
    rw [decide_eq_true (hm z hz)]; rfl
  · intro d hd
    obtain ⟨_, _, rfl⟩ := List.mem_map.mp hd
    rfl
  · rw [hlz]; rfl
theorem sc_threes_in : FnScope ["table", "threes", "three", "way"] ["table", "threes"] (defScope (topS 25)) := ⟨rfl, rfl, rfl, by decide +kernel, rfl, by decide +kernel, by decide +kernel⟩
structure TiOk (ways : List Str) (back : List Nat) (l : List Tr) : Prop where
  ok : TbOk ways back
  inn : ∀ x ∈ l, trIn ways.length x
  sz : l.length ≤ 1000
abbrev tiArgs (M : Md) (CT : Addr) : { i : List Str × List Nat × List Tr // TiOk i.1 i.2.1 i.2.2 } → List DL.Arg := fun i => [.l (oI CT (fs2 M.K i.1.1 i.1.2.1)) (oI CT (fs2 M.K i.1.1 i.1.2.1)), .z (isD M.K (.list (i.1.2.2.map (trN i.1.1))))]
include nb tc in
theorem ok_threes_in (F : FnD M "threes_in" (topS 25) ["table", "threes"]) (f1 : FK M "is_list" 1 ["value"] (lstArgs M) (fun d => dD M.K (.bool (isSeq d)))) (f2 : FK M "is_three_of" 2 ["table", "value"] (iToArgs M CT) (fun _ => dD M.K (.bool true))) :
    FK M "threes_in" 3 ["table", "threes"] (tiArgs M CT) (fun i => oLn M.K (i.1.2.2.map tD)) := by
  refine fk (N := ["table", "threes", "three", "way"]) F sc_threes_in (fun _ => rfl) ?_
  rintro X rfl B hr ⟨⟨ways, back, l⟩, hok, hl, hz⟩ G vs hv
  obtain ⟨v, w, rfl⟩ := len2 hv
  simp only at hok hl hz
  have hsz := sizeLine_eq
  let E0 : Ev := [some ((oI CT (fs2 X.K ways back)).at (some v)), some (dD X.K (.list (l.map (trN ways)))), none, none]
  refine dss_if (env1 := E0) (k := false) (dt_eq (dt_w (dw_or (dt_not (dt_val (de_nc B (nk f1 hr (.list (l.map (trN ways)))) (da_cons (de_name B 1) da_nil) (.inl rfl)))) fun _ => dw_or1 (dt_not (dt_val (de_allT B nb (de_lcr (lc1n 2 l (fun x => isD X.K (trN ways x)) (fun _ => .bool true) B ⟨by decide +kernel, by decide +kernel, by decide +kernel, by decide +kernel, by decide +kernel⟩ (di_ldm l (trN ways) (de_name B 1) rfl) (by omega) rfl fun s0 H0 C cl fp B' x hx => ?_)) ?_))))) ?_) (fun h => (nomatch h)) (fun _ => ?_)
  · obtain ⟨h1, h2, h3⟩ := hl x hx
    exact ⟨dD X.K (.bool true), rfl, de_ncL B' 0 (nk (X := BY X s0 H0 _ C cl fp) f2 hr ⟨(ways, back, [wy ways x.1, wy ways x.2.1, wy ways x.2.2]), hok, rfl, fun z hz => by
      simp only [List.mem_cons, List.not_mem_nil, or_false] at hz
      rcases hz with rfl | rfl | rfl
      · exact wy_mem h1
      · exact wy_mem h2
      · exact wy_mem h3⟩) (da_cons (de_name B' 2) da_nil) (.inl rfl) (hf := let ⟨f, _, h, _⟩ := f2; ⟨f, h⟩)⟩
  · intro d hd
    obtain ⟨_, _, rfl⟩ := List.mem_map.mp hd
    rfl
  · rfl
  refine dss_end (ds_ret (de_lcr (lc1n 2 l (fun x => isD X.K (trN ways x)) tD B ⟨by decide +kernel, by decide +kernel, by decide +kernel, by decide +kernel, by decide +kernel⟩ (di_ldm l (trN ways) (de_name B 1) rfl) (by omega) rfl fun s0 H0 C cl fp B' x hx => ?_)) ⟨rfl, rfl, trivial⟩)
  obtain ⟨h1, h2, h3⟩ := hl x hx
  refine ⟨_, rfl, de_nc B' (nc_t (cd_tupleL (ds := [nD x.1, nD x.2.1, nD x.2.2])) nb.tuple) (da_cons (de_lcr (lc1n 3 [x.1, x.2.1, x.2.2] (fun i => isD X.K (.str (wy ways i))) nD B' ⟨by decide +kernel, by decide +kernel, by decide +kernel, by decide +kernel, by decide +kernel⟩ (di_tdm [x.1, x.2.1, x.2.2] (fun i => PyData.str (wy ways i)) (de_name B' 2) rfl) (by simp; omega) rfl fun s1 H1 C1 cl1 fp1 B2 i hi => ?_)) da_nil) (.inl rfl)⟩
  have hi' : i < ways.length := by
    simp only [List.mem_cons, List.not_mem_nil, or_false] at hi
    rcases hi with rfl | rfl | rfl <;> assumption
  exact ⟨_, rfl, de_indexT (de_fldO B2 0 tc.cl tc.nw) rfl (de_name B2 3) (wy_get hi') (wy_first hok.nd hi')⟩
theorem sc_names_at : FnScope ["table", "places", "place"] ["table", "places"] (defScope (topS 28)) := ⟨rfl, rfl, rfl, by decide +kernel, rfl, by decide +kernel, by decide +kernel⟩
structure NaOk (T : Tab) (row : List Nat) : Prop where
  inn : ∀ i ∈ row, i < T.ways.length
  sz : row.length ≤ 1000
abbrev naArgs (M : Md) (CT : Addr) : { i : Tab × List Nat // NaOk i.1 i.2 } → List DL.Arg := fun i => [.z (isI CT (fsT M.K i.1.1)), .z (isD M.K (.tuple (i.1.2.map nD)))]
include nb tc in
theorem ok_names_at (F : FnD M "names_at" (topS 28) ["table", "places"]) : FB M "names_at" 1 ["table", "places"] (naArgs M CT) (fun i => dD M.K (.tuple (i.1.2.map fun k => .str (wy i.1.1.ways k)))) := by
  refine fkb (N := ["table", "places", "place"]) F sc_names_at (fun _ => rfl) ?_
  rintro κ X rfl B hr ⟨⟨T, row⟩, hin, hz⟩ G vs hv
  obtain ⟨v, w, rfl⟩ := len2 hv
  simp only at hin hz
  have hsz := sizeLine_eq
  refine dss_end (ds_ret (de_nc B (nc_t cd_tupleL nb.tuple) (da_cons (de_lcr (lc1n 2 row (fun k => isD X.K (nD k)) (fun k => .str (wy T.ways k)) B ⟨by decide +kernel, by decide +kernel, by decide +kernel, by decide +kernel, by decide +kernel⟩ (di_tdm row nD (de_name B 1) rfl) (by omega) rfl fun s0 H0 C cl fp B' k hk => ?_)) da_nil) (.inl rfl)) ⟨rfl, trivial⟩)
  have h1 := hin k hk
  exact ⟨_, rfl, de_ix (de_t0 (de_fld (de_name B' 0) tc.cl tc.nw) rfl) (de_name B' 2) (ixd_t (atI_nat (by rw [sDs, List.getElem?_map, wy_get h1]; rfl)))⟩
/-! Table(..) -/
def wpairs (ways : List Str) (back : List Nat) : List (Str × Str) := (List.range back.length).map fun k => (wy ways k, wy ways (bk back k))
theorem bk_lt {back : List Nat} (hm : ∀ i ∈ back, i < back.length) {k : Nat} (hk : k < back.length) : bk back k < back.length := by
  have : bk back k = back[k] := by simp [bk, List.getD_eq_getElem?_getD, List.getElem?_eq_getElem hk]
  rw [this]; exact hm _ (List.getElem_mem hk)
theorem bk_map (back : List Nat) : (List.range back.length).map (fun k => nD (bk back k)) = bD back := by
  apply List.ext_getElem?
  intro k
  by_cases hk : k < back.length
  · simp [bD, bk, List.getD_eq_getElem?_getD, hk]
  · simp [bD, hk]
theorem wy_map {ways : List Str} {n : Nat} (h : ways.length = n) : (List.range n).map (fun k => PyData.str (wy ways k)) = sDs ways := by
  apply List.ext_getElem?
  intro k
  by_cases hk : k < n
  · have := wy_get (ways := ways) (i := k) (by omega)
    simp [sDs, hk, this]
  · have h2 : ways[k]? = none := List.getElem?_eq_none (by omega)
    simp [sDs, hk, h2]
structure TnOk (ways : List Str) (back : List Nat) (l : List Tr) : Prop where
  ok : TbOk ways back
  wo : WaysOk (wpairs ways back)
  inn : ∀ x ∈ l, trIn back.length x
  sz : l.length ≤ 1000
def tabOf (ways : List Str) (back : List Nat) (l : List Tr) : Tab := ⟨ways, back, masksL back l⟩
theorem sc_Table_init : FnScope ["self", "ways", "threes", "name", "turned"] ["self", "ways", "threes"] (defScope (inClass (topS 24) 0)) := ⟨rfl, rfl, rfl, by decide +kernel, rfl, by decide +kernel, by decide +kernel⟩
abbrev tnArgs (M : Md) (CT : Addr) : { i : List Str × List Nat × List Tr // TnOk i.1 i.2.1 i.2.2 } → List DL.Arg := fun i => [.l (oI CT []) (oI CT (fsT M.K (tabOf i.1.1 i.1.2.1 i.1.2.2))), .z (isD M.K (.list ((wpairs i.1.1 i.1.2.1).map pairS))), .z (isD M.K (.list (i.1.2.2.map (trN i.1.1))))]
include nb tc in
theorem ok_Table_init {f : Addr} (F : FnM M "__init__" "Table.__init__" (inClass (topS 24) 0) ["self", "ways", "threes"] f) (f1 : FK M "are_ways" 3 ["value"] (waysArgs M) (fun _ => dD M.K (.bool true))) (f2 : FK M "threes_in" 3 ["table", "threes"] (tiArgs M CT) (fun i => oLn M.K (i.1.2.2.map tD)))
    (f3 : FK M "masks_of" 2 ["back", "threes"] (masksArgs M) (fun i => dD M.K (lstD (mxD (masksL i.1.1 i.1.2))))) : FM M f 4 ["self", "ways", "threes"] (tnArgs M CT) (fun _ => dD M.K .none) := by
  refine fkm (N := ["self", "ways", "threes", "name", "turned"]) F sc_Table_init (fun _ => rfl) ?_
  rintro X rfl B hr ⟨⟨ways, back, l⟩, hok, hwo, hin, hz⟩ G vs hv
  obtain ⟨v, w, u, rfl⟩ := len3 hv
  simp only at hok hwo hin hz
  have hsz := sizeLine_eq
  have h5 := hok.hi
  have hb5 : (List.range back.length).length ≤ sizeLine := by simp; omega
  let E0 : Ev := [some ((oI CT []).at (some v)), some (dD X.K (.list ((wpairs ways back).map pairS))), some (dD X.K (.list (l.map (trN ways)))), none, none]
  have hpd : (wpairs ways back).map pairS = (List.range back.length).map fun k => PyData.tuple [.str (wy ways k), .str (wy ways (bk back k))] := by
    rw [wpairs, List.map_map]; rfl
  refine dss_if (env1 := E0) (k := false) (dt_not (dt_val (de_nc B (nk f1 hr ⟨wpairs ways back, hwo⟩) (da_cons (de_name B 1) da_nil) (.inl rfl)))) (fun h => (nomatch h)) (fun _ => ?_)
  refine dss_go (ds_fld B 0 (de_nc B (nc_t cd_tuple0 nb.tuple) (da_cons (de_lcr (lc2n 3 4 (List.range back.length) (fun k => .str (wy ways k)) (fun k => .str (wy ways (bk back k))) (fun k => .str (wy ways k)) B ⟨by decide +kernel, by decide +kernel, by decide +kernel, by decide +kernel, by decide +kernel⟩ (di_ldm (List.range back.length) (fun k => PyData.tuple [.str (wy ways k), .str (wy ways (bk back k))]) (de_name B 1) (by rw [hpd]; rfl)) hb5 rfl rfl (by decide) fun s0 H0 C cl fp B' k hk => ⟨_, rfl, de_name B' 3⟩)) da_nil) (.inl rfl)) tc.cl tc.nw) ?_
  rw [wy_map hok.len]
  refine dss_go (ds_fld (fs := fs1 X.K ways) B 0 (de_nc B (nc_t (cd_tupleL (ds := bD back)) nb.tuple) (da_cons (de_eq (de_lcr (lc2n 3 4 (List.range back.length) (fun k => .str (wy ways k)) (fun k => .str (wy ways (bk back k))) (fun k => nD (bk back k)) B ⟨by decide +kernel, by decide +kernel, by decide +kernel, by decide +kernel, by decide +kernel⟩ (di_ldm (List.range back.length) (fun k => PyData.tuple [.str (wy ways k), .str (wy ways (bk back k))]) (de_name B 1) (by rw [hpd]; rfl)) hb5 rfl rfl (by decide) fun s0 H0 C cl fp B' k hk => ?_)) (by rw [bk_map])) da_nil) (.inl rfl)) tc.cl tc.nb (hz := by show 1 < 1000; decide)) ?_
  · have h1 : bk back k < ways.length := by rw [hok.len]; exact bk_lt hok.mem (List.mem_range.mp hk)
    exact ⟨_, rfl, de_indexT (de_fldO (fs := fs1 X.K ways) B' 0 tc.cl tc.nw) rfl (de_name B' 4) (wy_get h1) (wy_first hok.nd h1)⟩
  refine dss_go (ds_fld (fs := fs2 X.K ways back) B 0 (de_nc B (nk f3 hr ⟨(back, l), ⟨h5, hok.mem⟩, hin⟩) (da_cons (de_fldO (fs := fs2 X.K ways back) B 0 tc.cl tc.nb) (da_cons (de_ncL B 0 (nk f2 hr ⟨(ways, back, l), hok, fun x hx => by rw [hok.len]; exact hin x hx, hz⟩) (da_cons (de_name B 2) da_nil) (.inl rfl) (hf := let ⟨f, _, h, _⟩ := f2; ⟨f, h⟩)) da_nil)) (.inl rfl)) tc.cl tc.nm (hz := by show 2 < 1000; decide)) ?_
  exact dss_nil ⟨fun HF => ⟨rfl, Dp.non⟩, rfl, trivial⟩
end
end K7

set_option maxHeartbeats 4000000
namespace K7
open PySem PySem.Spec PyProof.Rows L2 DL Hd
/-! ### data are shaped -/
theorem lay_map {α : Type} (f : α → PyData) : ∀ l : List α, (∀ a ∈ l, (f a).canLay0 = true) → PyData.canLayAll0 (l.map f) = true
  | [], _ => by rw [List.map_nil, PyData.canLayAll0]
  | a :: l, h => by rw [List.map_cons, PyData.canLayAll0, h a List.mem_cons_self, lay_map f l fun b hb => h b (List.mem_cons_of_mem _ hb)]; rfl
theorem depth_map {α : Type} (f : α → PyData) (n : Nat) : ∀ l : List α, (∀ a ∈ l, (f a).depth ≤ n) → PyData.depthAll (l.map f) ≤ n
  | [], _ => by rw [List.map_nil, PyData.depthAll]; omega
  | a :: l, h => by
    rw [List.map_cons, PyData.depthAll]
    have h1 := h a List.mem_cons_self
    have h2 := depth_map f n l fun b hb => h b (List.mem_cons_of_mem _ hb)
    omega
theorem lay_n (n : Nat) : (nD n).canLay0 = true := by rw [nD, PyData.canLay0]
theorem depth_n (n : Nat) : (nD n).depth = 0 := by rw [nD, PyData.depth]
/-- a tuple, a list of such -/
structure Shp (n : Nat) (d : PyData) : Prop where
  lay : d.canLay0 = true
  dep : d.depth ≤ n
theorem Shp.mono {m n : Nat} {d : PyData} (h : Shp m d) (k : m ≤ n) : Shp n d := ⟨h.lay, Nat.le_trans h.dep k⟩
theorem Shp.ok {n : Nat} {d : PyData} (h : Shp n d) (k : n ≤ 64) : SeqAt.shaped d = true := by
  unfold SeqAt.shaped
  rw [h.lay, decide_eq_true (Nat.le_trans h.dep k)]; rfl
theorem shp_n (n : Nat) : Shp 0 (nD n) := ⟨lay_n n, by rw [depth_n]; omega⟩
theorem shp_i (n : Int) : Shp 0 (.int n) := ⟨by rw [PyData.canLay0], by rw [PyData.depth]; omega⟩
theorem shp_b (n : Bool) : Shp 0 (.bool n) := ⟨by rw [PyData.canLay0], by rw [PyData.depth]; omega⟩
theorem shp_s {z : Str} (h : PyData.strOk z = true) : Shp 0 (.str z) := ⟨by rw [PyData.canLay0]; exact h, by rw [PyData.depth]; omega⟩
theorem shp_t {α : Type} {n : Nat} {f : α → PyData} {l : List α} (h : ∀ a ∈ l, Shp n (f a)) : Shp (n + 1) (.tuple (l.map f)) :=
  ⟨by rw [PyData.canLay0]; exact lay_map f l fun a ha => (h a ha).lay, by rw [PyData.depth]; have := depth_map f n l fun a ha => (h a ha).dep; omega⟩
theorem shp_l {α : Type} {n : Nat} {f : α → PyData} {l : List α} (h : ∀ a ∈ l, Shp n (f a)) : Shp (n + 1) (.list (l.map f)) :=
  ⟨by rw [PyData.canLay0]; exact lay_map f l fun a ha => (h a ha).lay, by rw [PyData.depth]; have := depth_map f n l fun a ha => (h a ha).dep; omega⟩
theorem shp_mx (m : Mx) : Shp 2 (lstD (mxD m)) := by
  unfold lstD mxD
  rw [List.map_map]
  exact shp_l fun row _ => shp_l fun n _ => shp_n n
theorem strOk_word {z : Str} (h : isWord z = true) : PyData.strOk z = true := by
  simp only [isWord, Bool.and_eq_true, decide_eq_true_eq, List.all_eq_true] at h
  unfold PyData.strOk
  rw [← Array.all_toList, List.all_eq_true]
  intro c hc
  have h1 := h.2 c hc
  have h2 : ∀ c ∈ letters.cps.toList, decide (c < 0x110000) = true := by decide +kernel
  exact h2 c h1
/-! ### Table.__eq__ -/
structure InsF (K : PySem.W.Frag) (C : Addr) : Prop where
  cl : Cls K C
  ha : PySem.W.findIn K (.ref C) "__class__" = some (some (.builtin "object.__class__"))
  hn : PySem.W.specialIn K (.builtin "object.__class__") "__get__" = some (some (.builtin "getset_descriptor.__get__"))
  ht : PySem.W.takesIn K (.builtin "object.__class__") = some true
  hm : PySem.W.mroIn K C (.type "object") = some true
theorem InsF.ty {K : PySem.W.Frag} {C : Addr} {fs : List (Str × FP)} (h : InsF K C) : HasTy K (isI C fs) (.ref C) := fun HF H v ex ⟨a, dx, vs, e1, e2, _⟩ => by
  subst e1
  exact .base (.ins (ex _ _ e2) h.cl h.ha h.hn h.ht h.hm)
theorem kit_refl {K : PySem.W.Frag} (t : Value) (h : (t == t) = true) : PySem.W.kitOne K t t = some true := by unfold PySem.W.kitOne; rw [if_pos h]
def tabEq (T T' : Tab) : Bool := PyData.eqv (.tuple (sDs T.ways)) (.tuple (sDs T'.ways)) && (PyData.eqv (.tuple (bD T.back)) (.tuple (bD T'.back)) && PyData.eqv (lstD (mxD T.masks)) (lstD (mxD T'.masks)))
theorem alikeAll_map {α : Type} (f : α → PyData) : ∀ l : List α, (∀ a ∈ l, PySem.W.alike (f a) (f a) = true) → PySem.W.alikeAll (l.map f) (l.map f) = true
  | [], _ => by simp [PySem.W.alikeAll]
  | a :: l, h => by rw [List.map_cons, PySem.W.alikeAll, h a List.mem_cons_self, alikeAll_map f l fun b hb => h b (List.mem_cons_of_mem _ hb)]; rfl
theorem alike_tm {α : Type} (f : α → PyData) (l : List α) (h : ∀ a ∈ l, PySem.W.alike (f a) (f a) = true) : PySem.W.alike (.tuple (l.map f)) (.tuple (l.map f)) = true := by rw [PySem.W.alike]; exact alikeAll_map f l h
theorem alike_lm {α : Type} (f : α → PyData) (l : List α) (h : ∀ a ∈ l, PySem.W.alike (f a) (f a) = true) : PySem.W.alike (.list (l.map f)) (.list (l.map f)) = true := by rw [PySem.W.alike]; exact alikeAll_map f l h
theorem alike_nn (a b : Nat) : PySem.W.alike (nD a) (nD b) = true := by rw [nD, nD, PySem.W.alike]
theorem tabEq_refl (T : Tab) : tabEq T T = true := by
  unfold tabEq sDs bD
  rw [PySem.W.eqv_refl_alike _ (alike_tm _ _ fun z _ => by rw [PySem.W.alike]), PySem.W.eqv_refl_alike _ (alike_tm _ _ fun z _ => alike_nn _ _), PySem.W.eqv_refl_alike]
  · rfl
  · unfold lstD mxD
    rw [List.map_map]
    exact alike_lm _ _ fun row _ => alike_lm _ _ fun n _ => alike_nn _ _
def TabS (T : Tab) : Prop := ∀ z ∈ T.ways, PyData.strOk z = true
section
variable {M : Md} (nb : NoB M.mg) {CT : Addr} (tc : TbF M.K CT) (ti : InsF M.K CT)
theorem sc_Table_eq : FnScope ["self", "other"] ["self", "other"] (defScope (inClass (topS 24) 1)) := ⟨rfl, rfl, rfl, by decide +kernel, rfl, by decide +kernel, by decide +kernel⟩
abbrev teArgs (M : Md) (CT : Addr) : { i : Tab × Tab // TabS i.1 ∧ TabS i.2 } → List DL.Arg := fun i => [.z (isI CT (fsT M.K i.1.1)), .z (isI CT (fsT M.K i.1.2))]
include nb tc ti in
theorem ok_Table_eq {f : Addr} (F : FnM M "__eq__" "Table.__eq__" (inClass (topS 24) 1) ["self", "other"] f) (hT : M.mg "Table" = some (.ref CT)) : FM M f 1 ["self", "other"] (teArgs M CT) (fun i => dD M.K (.bool (tabEq i.1.1 i.1.2))) := by
  refine fkm (N := ["self", "other"]) F sc_Table_eq (fun _ => rfl) ?_
  rintro X rfl B hr ⟨⟨T, T'⟩, h1, h2⟩ G vs hv
  obtain ⟨v, w, rfl⟩ := len2 hv
  simp only at h1 h2
  let E0 : Ev := [some (.fz (isI CT (fsT X.K T))), some (.fz (isI CT (fsT X.K T')))]
  refine dss_if (env1 := E0) (k := false) (dt_not (dt_val (de_nc B (nc_b (cd_isi ti.ty (.own CT) (kit_refl _ (by simp))) nb.isinstance) (da_cons (de_name B 1) (da_cons (de_glob (v := .ref CT) (P := isV (.ref CT)) B hT rfl (fun _ => rfl)) da_nil)) (.inl rfl)))) (fun h => (nomatch h)) (fun _ => ?_)
  refine dss_end (ds_ret (de_and (de_cmp (de_t0 (de_fld (de_name B 0) tc.cl tc.nw) rfl) (de_t0 (de_fld (de_name B 1) tc.cl tc.nw) rfl) (opd_eq hr.units ((shp_t fun z hz => shp_s (h1 z hz)).ok (by omega)) ((shp_t fun z hz => shp_s (h2 z hz)).ok (by omega)))) fun _ => de_and (de_cmp (de_fld (de_name B 0) tc.cl tc.nb) (de_fld (de_name B 1) tc.cl tc.nb) (opd_eq hr.units ((shp_t fun z hz => shp_n z).ok (by omega)) ((shp_t fun z hz => shp_n z).ok (by omega)))) fun _ => de_one (de_cmp (de_fld (de_name B 0) tc.cl tc.nm) (de_fld (de_name B 1) tc.cl tc.nm) (opd_eq hr.units ((shp_mx _).ok (by omega)) ((shp_mx _).ok (by omega))))) ⟨rfl, trivial⟩)
end
end K7

set_option maxHeartbeats 4000000
namespace K7
open PySem PySem.Spec PyProof.Rows L2 DL Hd
/-! ### enumerate, typed -/
def en {α : Type} (xs : List α) : List (Nat × α) := xs.mapIdx fun i a => (i, a)
theorem en_get {α : Type} {xs : List α} {i : Nat} {q : Nat × α} (h : (en xs)[i]? = some q) : xs[i]? = some q.2 ∧ q.1 = i := by
  simp only [en, List.getElem?_mapIdx, Option.map_eq_some_iff] at h
  obtain ⟨a, h1, rfl⟩ := h
  exact ⟨h1, rfl⟩
theorem en_mem {α : Type} {xs : List α} {q : Nat × α} (h : q ∈ en xs) : xs[q.1]? = some q.2 := by
  obtain ⟨i, hi⟩ := List.mem_iff_getElem?.mp h
  obtain ⟨h1, h2⟩ := en_get hi
  rw [h2]; exact h1
theorem mem_en {α : Type} {xs : List α} {i : Nat} {a : α} (h : xs[i]? = some a) : (i, a) ∈ en xs := List.mem_iff_getElem?.mpr ⟨i, by simp [en, List.getElem?_mapIdx, h]⟩
theorem en_len {α : Type} (xs : List α) : (en xs).length = xs.length := by simp [en]
theorem en_map {α : Type} {K : PySem.W.Frag} (f : α → PyData) (xs : List α) : ((xs.map f).mapIdx fun i d => (i, d)).map (fun q => isD K (.tuple [.int (q.1 : Nat), q.2])) = (en xs).map fun q => isD K (.tuple [nD q.1, f q.2]) := by
  apply List.ext_getElem?
  intro i
  simp only [en, List.getElem?_map, List.getElem?_mapIdx, Option.map_map]
  rfl
section
variable {X : Cx} {N : List Str} {sc : Scope} {ok : Str → Bool} {P R : FP} {A B S : As} {K : PySem.W.Frag} {G : Reg} {env env1 env2 : Ev} {e : Expr} {x : Str} {pos : Pos}
theorem di_eT' {α : Type} {elts : List Expr} {kk : Nat} {tpos p : Pos} (xs : List α) (f : α → PyData) (B : Bx κ X N sc ok) (h : DE X G env e env1 A) (hA : A.fr = isD X.K (.tuple (xs.map f))) (hm : X.mg "enumerate" = none) (hg : GlS sc "enumerate" := by rfl) (hs : starEach [e] X.env = [(false, eval e X.env)] := by rfl) :
    DI true X G env (.Tuple elts kk tpos) (.Call (.Name "enumerate" p) [e] [] pos) env1 ((en xs).map fun q => isD X.K (.tuple [nD q.1, f q.2])) := by
  rw [← en_map]; exact di_eTm B h hA hm hg hs
theorem di_eL' {α : Type} {elts : List Expr} {kk : Nat} {tpos p : Pos} (xs : List α) (f : α → PyData) (B : Bx κ X N sc ok) (h : DE X G env e env1 A) (hA : A.fr = isD X.K (.list (xs.map f))) (hm : X.mg "enumerate" = none) (hg : GlS sc "enumerate" := by rfl) (hs : starEach [e] X.env = [(false, eval e X.env)] := by rfl) :
    DI true X G env (.Tuple elts kk tpos) (.Call (.Name "enumerate" p) [e] [] pos) env1 ((en xs).map fun q => isD X.K (.tuple [nD q.1, f q.2])) := by
  rw [← en_map]; exact di_eLm B h hA hm hg hs
end
theorem map_flat {α β : Type} (f : α → β) : ∀ l : List α, l.map f = l.flatMap fun a => [f a]
  | [] => rfl
  | a :: l => by rw [List.map_cons, List.flatMap_cons, map_flat f l]; rfl
/-! ### scenes -/
abbrev Pl := List (List Nat)
def rwD (row : List Nat) : PyData := .tuple (row.map nD)
def plD (pl : Pl) : PyData := .tuple (pl.map rwD)
def lsD (row : List Nat) : PyData := .list (row.map nD)
def plL (pl : Pl) : PyData := .list (pl.map lsD)
/-- a triangle of places below n -/
structure Tri (n : Nat) (pl : Pl) : Prop where
  len : ∀ (i : Nat) (row : List Nat), pl[i]? = some row → row.length = i
  lt : ∀ row ∈ pl, ∀ k ∈ row, k < n
  sz : pl.length ≤ 12
theorem Tri.row {n : Nat} {pl : Pl} (h : Tri n pl) {row : List Nat} (hm : row ∈ pl) : row.length < pl.length := by
  obtain ⟨i, hi⟩ := List.mem_iff_getElem?.mp hm
  rw [h.len i row hi]
  exact (List.getElem?_eq_some_iff.mp hi).1
def nmD (ways : List Str) (row : List Nat) : PyData := .list (row.map fun k => .str (wy ways k))
def nmsD (ways : List Str) (pl : Pl) : PyData := .list (pl.map (nmD ways))
section
variable {M : Md} (nb : NoB M.mg) {CT : Addr} (tc : TbF M.K CT)
theorem sc_are_rows : FnScope ["table", "value", "row", "i", "way"] ["table", "value"] (defScope (topS 32)) := ⟨rfl, rfl, rfl, by decide +kernel, rfl, by decide +kernel, by decide +kernel⟩
structure ArOk (T : Tab) (pl : Pl) : Prop where
  tri : Tri T.ways.length pl
abbrev arArgs (M : Md) (CT : Addr) : { i : Tab × Pl // ArOk i.1 i.2 } → List DL.Arg := fun i => [.z (isI CT (fsT M.K i.1.1)), .z (isD M.K (nmsD i.1.1.ways i.1.2))]
include nb tc in
theorem ok_are_rows (F : FnD M "are_rows" (topS 32) ["table", "value"]) (f1 : FK M "is_list" 1 ["value"] (lstArgs M) (fun d => dD M.K (.bool (isSeq d)))) : FK M "are_rows" 2 ["table", "value"] (arArgs M CT) (fun _ => dD M.K (.bool true)) := by
  refine fk (N := ["table", "value", "row", "i", "way"]) F sc_are_rows (fun _ => rfl) ?_
  rintro X rfl B hr ⟨⟨T, pl⟩, ht⟩ G vs hv
  obtain ⟨v, w, rfl⟩ := len2 hv
  have ht : Tri T.ways.length pl := ht.tri
  have hsz := sizeLine_eq
  have h12 := ht.sz
  let E0 : Ev := [some (.fz (isI CT (fsT X.K T))), some (dD X.K (nmsD T.ways pl)), none, none, none]
  refine dss_if (env1 := E0) (k := false) (dt_eq (dt_w (dw_or (dt_not (dt_val (de_nc B (nk f1 hr (nmsD T.ways pl)) (da_cons (de_name B 1) da_nil) (.inl rfl)))) fun _ => dw_or1 (dt_not (dt_val (de_allT B nb (de_lcr (lc1n 2 pl (fun row => isD X.K (nmD T.ways row)) (fun _ => .bool true) B ⟨by decide +kernel, by decide +kernel, by decide +kernel, by decide +kernel, by decide +kernel⟩ (di_ldm pl (nmD T.ways) (de_name B 1) rfl) (by omega) rfl fun s0 H0 C cl fp B' row hrow => ?_)) ?_))))) ?_) (fun h => (nomatch h)) (fun _ => ?_)
  · exact ⟨dD X.K (.bool true), rfl, de_nc B' (nk (X := BY X s0 H0 _ C cl fp) f1 hr (nmD T.ways row)) (da_cons (de_name B' 2) da_nil) (.inl rfl)⟩
  · intro d hd
    obtain ⟨_, _, rfl⟩ := List.mem_map.mp hd
    rfl
  · rfl
  refine dss_if (env1 := E0) (k := false) (dt_not (dt_val (de_allT B nb (de_lcr (lc2n 3 2 (en pl) (fun q => nD q.1) (fun q => nmD T.ways q.2) (fun _ => .bool true) B ⟨by decide +kernel, by decide +kernel, by decide +kernel, by decide +kernel, by decide +kernel⟩ (di_eL' pl (nmD T.ways) B (de_name B 1) rfl nb.enumerate) (by rw [en_len]; omega) rfl rfl (by decide) fun s0 H0 C cl fp B' q hq => ?_)) ?_))) (fun h => (nomatch h)) (fun _ => ?_)
  · have h1 := ht.len _ _ (en_mem hq)
    refine ⟨dD X.K (.bool true), rfl, de_eq (de_cmp (de_nc B' (nc_b (cd_lenL (ds := q.2.map fun k => .str (wy T.ways k))) nb.len) (da_cons (de_name B' 2) da_nil) (.inl rfl)) (de_name B' 3) (opd_eqI _ (q.1 : Nat) hr.units)) ?_⟩
    rw [List.length_map, h1, decide_eq_true rfl]
  · intro d hd
    obtain ⟨_, _, rfl⟩ := List.mem_map.mp hd
    rfl
  have hfl : ∀ l : List (List Nat), (∀ row ∈ l, row.length ≤ 12) → (l.flatMap fun row => row.map fun _ => dD X.K (.bool true)).length ≤ l.length * 12 := by
    intro l
    induction l with
    | nil => intro _; simp
    | cons row l ih =>
      intro h
      have h1 := h row List.mem_cons_self
      have h2 := ih fun r hr => h r (List.mem_cons_of_mem _ hr)
      simp only [List.flatMap_cons, List.length_append, List.length_map, List.length_cons]
      omega
  have hfl' := hfl pl fun row hm => by have := ht.row hm; omega
  refine dss_end (ds_ret (de_allT B nb (ds := (pl.flatMap fun row => row.map fun _ => PyData.bool true)) (de_lcr (lcr_data (lcr1n (gs := [_]) [("row", 2), ("way", 4)] 2 pl (fun row => isD X.K (nmD T.ways row)) (fun row => row.map fun _ => dD X.K (.bool true)) B ⟨by decide +kernel, by decide +kernel, by decide +kernel, by decide +kernel, by decide +kernel⟩ (di_ldm pl (nmD T.ways) (de_name B 1) rfl) (by omega) (by
    intro p hp A
    simp only [List.mem_cons, List.not_mem_nil, or_false] at hp
    rcases hp with rfl | rfl <;> intro z <;> cases z) rfl (by simp) (fun s0 H0 C cl fp B' row hrow L hL => ?_) (hnx := fun g' hg => by rw [List.mem_singleton.mp hg]; exact ⟨rfl, fun _ _ => rfl⟩)) ?_)) ?_) ⟨rfl, trivial⟩)
  · have e : (row.map fun _ => dD X.K (.bool true)) = row.flatMap fun _ => [dD X.K (.bool true)] := map_flat _ _
    rw [e] at hL ⊢
    refine lcb1n 4 row (fun k => isD X.K (.str (wy T.ways k))) (fun _ => [dD X.K (.bool true)]) L B' hL (di_ldm row (fun k => PyData.str (wy T.ways k)) (de_name B' 2) rfl) rfl (by simp) (fun k hk L2 hL2 => lcb_el ?_ hL2)
    have hk' : k < T.ways.length := ht.lt row hrow k hk
    refine de_eq (de_and (de_nc B' (nc_isi (X := BY X s0 H0 _ C cl fp) nb (d := .str (wy T.ways k)) (t := "str") (by simp)) (da_cons (de_name B' 4) (da_cons (de_bty B' nb.str) da_nil)) (.inl rfl)) fun _ => de_one (de_cmp (de_name B' 4) (de_t0 (de_fld (de_name B' 0) tc.cl tc.nw) rfl) (opd_inT (wy T.ways k) T.ways))) ?_
    rw [decide_eq_true (wy_mem hk')]; rfl
  · rw [List.map_flatMap]
    congr 1
    funext row
    rw [List.map_map]; rfl
  · intro d hd
    simp only [List.mem_flatMap, List.mem_map] at hd
    obtain ⟨_, _, _, _, rfl⟩ := hd
    rfl
end
end K7

set_option maxHeartbeats 4000000
namespace K7
open PySem PySem.Spec PyProof.Rows L2 DL Hd
/-! ### cells -/
abbrev Ce := List (List Int)
def getC (C : Ce) (i j : Nat) : Int := (C.getD i []).getD j 0
def setC (C : Ce) (i j : Nat) (z : Int) : Ce := C.set i ((C.getD i []).set j z)
def ceD (C : Ce) : List (List PyData) := C.map fun row => row.map .int
def ceT (C : Ce) : PyData := .tuple (C.map fun row => .tuple (row.map .int))
def negM (n : Nat) : Ce := (List.range n).map fun _ => List.replicate n (-1)
def colStep (b : Nat → Nat) (i : Nat) (C : Ce) (r : Nat × Nat) : Ce := setC (setC C i r.1 r.2) r.1 i (b r.2)
def rowStep (b : Nat → Nat) (C : Ce) (q : Nat × List Nat) : Ce := (en q.2).foldl (colStep b q.1) C
def cellsL (b : Nat → Nat) (pl : Pl) : Ce := (en pl).foldl (rowStep b) (negM pl.length)
structure Sqc (n : Nat) (C : Ce) : Prop where
  len : C.length = n
  row : ∀ r ∈ C, r.length = n
theorem sqc_neg (n : Nat) : Sqc n (negM n) := ⟨by simp [negM], fun r h => by
  simp only [negM, List.mem_map] at h
  obtain ⟨_, _, rfl⟩ := h
  simp⟩
theorem sqc_at {n i : Nat} {C : Ce} (h : Sqc n C) (hi : i < n) : C[i]? = some (C.getD i []) ∧ (C.getD i []).length = n := by
  have hl : i < C.length := by rw [h.len]; exact hi
  have e : C[i]? = some (C.getD i []) := by rw [List.getD_eq_getElem?_getD, List.getElem?_eq_getElem hl]; rfl
  exact ⟨e, h.row _ (List.mem_of_getElem? e)⟩
theorem sqc_set {n i j : Nat} {C : Ce} {z : Int} (h : Sqc n C) (hi : i < n) : Sqc n (setC C i j z) := by
  refine ⟨by simp [setC, h.len], fun row hm => ?_⟩
  rcases List.mem_or_eq_of_mem_set hm with hm | rfl
  · exact h.row row hm
  · rw [List.length_set]; exact (sqc_at h hi).2
theorem getC_set {n i j a b : Nat} {C : Ce} {z : Int} (h : Sqc n C) (hi : i < n) (hj : j < n) : getC (setC C i j z) a b = if a = i ∧ b = j then z else getC C a b := by
  obtain ⟨h1, h2⟩ := sqc_at h hi
  have hl : i < C.length := by rw [h.len]; exact hi
  unfold getC setC
  generalize C.getD i [] = r at h1 h2 ⊢
  by_cases ha : a = i
  · subst ha
    have e1 : (C.set a (r.set j z)).getD a [] = r.set j z := by rw [List.getD_eq_getElem?_getD, List.getElem?_set_self hl]; rfl
    have e2 : C.getD a [] = r := by rw [List.getD_eq_getElem?_getD, h1]; rfl
    rw [e1, e2]
    by_cases hb : b = j
    · subst hb
      rw [if_pos ⟨rfl, rfl⟩, List.getD_eq_getElem?_getD, List.getElem?_set_self (by omega)]; rfl
    · rw [if_neg (fun q => hb q.2), List.getD_eq_getElem?_getD, List.getElem?_set_ne (fun q => hb q.symm), ← List.getD_eq_getElem?_getD]
  · rw [if_neg (fun q => ha q.1)]
    have e1 : (C.set i (r.set j z)).getD a [] = C.getD a [] := by rw [List.getD_eq_getElem?_getD, List.getElem?_set_ne (fun q => ha q.symm), ← List.getD_eq_getElem?_getD]
    rw [e1]
theorem sqc_col {n i : Nat} {b : Nat → Nat} {C : Ce} {r : Nat × Nat} (h : Sqc n C) (hi : i < n) (hj : r.1 < n) : Sqc n (colStep b i C r) := sqc_set (sqc_set h hi) hj
theorem take_en {α : Type} {xs : List α} {t : Nat} (ht : t < xs.length) : (en xs).take (t + 1) = (en xs).take t ++ [(t, xs[t])] := take_succ_f (by simp [en, List.getElem?_mapIdx, List.getElem?_eq_getElem ht])
theorem cols {n i : Nat} {b : Nat → Nat} {C : Ce} {row : List Nat} (h : Sqc n C) (hi : i < n) (hr : row.length = i) : ∀ t, t ≤ row.length → Sqc n (((en row).take t).foldl (colStep b i) C) ∧
    ∀ a c, c < a → getC (((en row).take t).foldl (colStep b i) C) a c = if a = i ∧ c < t then ((row.getD c 0 : Nat) : Int) else getC C a c
  | 0, _ => ⟨h, fun a c _ => by rw [if_neg (by omega)]; rfl⟩
  | t + 1, ht => by
    obtain ⟨ih1, ih2⟩ := cols (b := b) h hi hr t (by omega)
    have ht' : t < row.length := by omega
    rw [take_en ht', List.foldl_append]
    have hj : t < n := by omega
    refine ⟨sqc_col ih1 hi hj, fun a c hac => ?_⟩
    show getC (setC (setC _ i t _) t i _) a c = _
    rw [getC_set (sqc_set ih1 hi) hj hi, getC_set ih1 hi hj, ih2 a c hac]
    have hv : ((row[t] : Nat) : Int) = ((row.getD t 0 : Nat) : Int) := by rw [List.getD_eq_getElem?_getD, List.getElem?_eq_getElem ht']; rfl
    by_cases h1 : a = t ∧ c = i
    · omega
    · rw [if_neg h1]
      by_cases h2 : a = i ∧ c = t
      · obtain ⟨rfl, rfl⟩ := h2
        rw [if_pos ⟨rfl, rfl⟩, if_pos ⟨rfl, by omega⟩]
        exact hv
      · rw [if_neg h2]
        by_cases h3 : a = i ∧ c < t
        · rw [if_pos h3, if_pos ⟨h3.1, by omega⟩]
        · rw [if_neg h3, if_neg (by omega)]
theorem rows_ {n m : Nat} {b : Nat → Nat} {pl : Pl} (hp : Tri m pl) (hn : n = pl.length) : ∀ t, t ≤ pl.length → Sqc n (((en pl).take t).foldl (rowStep b) (negM n)) ∧
    ∀ a c, c < a → a < t → getC (((en pl).take t).foldl (rowStep b) (negM n)) a c = (((pl.getD a []).getD c 0 : Nat) : Int)
  | 0, _ => ⟨sqc_neg n, fun a c _ h => by omega⟩
  | t + 1, ht => by
    obtain ⟨ih1, ih2⟩ := rows_ (b := b) hp hn t (by omega)
    have ht' : t < pl.length := by omega
    have hl : pl[t].length = t := hp.len t _ (List.getElem?_eq_getElem ht')
    rw [take_en ht', List.foldl_append]
    obtain ⟨c1, c2⟩ := cols (b := b) ih1 (show t < n by omega) hl pl[t].length (Nat.le_refl _)
    have e : (en pl[t]).take pl[t].length = en pl[t] := by
      have := List.take_length (l := en pl[t])
      rwa [en_len] at this
    rw [e] at c1 c2
    refine ⟨c1, fun a c hac hat => ?_⟩
    show getC ((en pl[t]).foldl (colStep b t) _) a c = _
    rw [c2 a c hac]
    by_cases ha : a = t
    · subst ha
      rw [if_pos ⟨rfl, by omega⟩]
      rw [List.getD_eq_getElem?_getD (l := pl), List.getElem?_eq_getElem ht']; rfl
    · rw [if_neg (by omega)]
      exact ih2 a c hac (by omega)
theorem cellsL_sq {m : Nat} {b : Nat → Nat} {pl : Pl} (hp : Tri m pl) : Sqc pl.length (cellsL b pl) := by
  have := (rows_ (b := b) hp rfl pl.length (Nat.le_refl _)).1
  have e : (en pl).take pl.length = en pl := by
    have := List.take_length (l := en pl)
    rwa [en_len] at this
  rwa [e] at this
theorem cellsL_get {m a c : Nat} {b : Nat → Nat} {pl : Pl} (hp : Tri m pl) (hc : c < a) (ha : a < pl.length) : getC (cellsL b pl) a c = (((pl.getD a []).getD c 0 : Nat) : Int) := by
  have := (rows_ (b := b) hp rfl pl.length (Nat.le_refl _)).2 a c hc ha
  have e : (en pl).take pl.length = en pl := by
    have := List.take_length (l := en pl)
    rwa [en_len] at this
  rwa [e] at this
end K7

set_option maxHeartbeats 4000000
namespace K7
open PySem PySem.Spec PyProof.Rows L2 DL Hd
theorem ceD_set (C : Ce) (i j : Nat) (z : Int) : ceD (setC C i j z) = (ceD C).set i (((C.getD i []).map .int).set j (.int z)) := by
  unfold ceD setC
  rw [List.map_set, List.map_set]
theorem ceD_row {n i : Nat} {C : Ce} (h : Sqc n C) (hi : i < n) : (ceD C)[i]? = some ((C.getD i []).map .int) := by
  unfold ceD
  rw [List.getElem?_map, (sqc_at h hi).1]; rfl
theorem bk_in {back : List Nat} {i : Nat} (h : i < back.length) : atI (bD back) ((i : Nat) : Int) = some (nD (bk back i)) := bD_get h
section
variable {M : Md} (nb : NoB M.mg) {CT : Addr} (tc : TbF M.K CT)
theorem sc_cells_of : FnScope ["table", "places", "many", "cells", "i", "row", "j", "place"] ["table", "places"] (defScope (topS 33)) := ⟨rfl, rfl, rfl, by decide +kernel, rfl, by decide +kernel, by decide +kernel⟩
structure CoOk (T : Tab) (pl : Pl) : Prop where
  tri : Tri T.back.length pl
abbrev coArgs (M : Md) (CT : Addr) : { i : Tab × Pl // CoOk i.1 i.2 } → List DL.Arg := fun i => [.z (isI CT (fsT M.K i.1.1)), .z (isD M.K (plD i.1.2))]
include nb tc in
theorem ok_cells_of (F : FnD M "cells_of" (topS 33) ["table", "places"]) (g1 : GlD M "NO_WAY" (.int (-1))) : FK M "cells_of" 1 ["table", "places"] (coArgs M CT) (fun i => dD M.K (ceT (cellsL (bk i.1.1.back) i.1.2))) := by
  refine fk (N := ["table", "places", "many", "cells", "i", "row", "j", "place"]) F sc_cells_of (fun _ => rfl) ?_
  rintro X rfl B hr ⟨⟨T, pl⟩, ht⟩ G vs hv
  obtain ⟨v, w, rfl⟩ := len2 hv
  have ht : Tri T.back.length pl := ht.tri
  have hsz := sizeLine_eq
  have h12 := ht.sz
  let E0 : Ev := [some (.fz (isI CT (fsT X.K T))), some (dD X.K (plD pl)), none, none, none, none, none, none]
  have hlen : (pl.map rwD).length = pl.length := List.length_map _
  refine dss_go (env1 := E0.set 2 (some (dD X.K (nD pl.length)))) (ds_set B 2 (de_eq (de_nc B (nc_b (cd_lenT (ds := pl.map rwD)) nb.len) (da_cons (de_name B 1) da_nil) (.inl rfl)) (by rw [hlen]; rfl))) ?_
  let E1 : Ce → Ev := fun C => [some (.fz (isI CT (fsT X.K T))), some (dD X.K (plD pl)), some (dD X.K (nD pl.length)), some ((oM X.K (ceD C)).at none), none, none, none, none]
  refine dss_go (env1 := E1 (negM pl.length)) (ds_lcr B 3 (lcr_say (lc1An 4 (List.range pl.length) (fun i => isD X.K (.int (i : Nat))) (fun _ => oLn X.K (List.replicate pl.length (.int (-1)))) B ⟨by decide +kernel, by decide +kernel, by decide +kernel, by decide +kernel, by decide +kernel⟩ (di_rn B (de_name B 2) nb.range (by omega)) (by simp; omega) rfl fun s0 H0 C cl fp B' x hx => ?_) ?_)) ?_
  · refine de_eq (de_bin (de_lstD (dad_cons (de_gl B' g1) rfl dad_nil)) (de_name B' 2) (opd_repL (n := (pl.length : Nat)) (by omega) (by omega) (by simp; omega))) ?_
    simp [List.flatten_replicate_singleton]
  · intro HF v o hp
    rw [oM_of] at hp
    have e : (List.range pl.length).map (fun _ => List.replicate pl.length (PyData.int (-1))) = ceD (negM pl.length) := by
      simp [ceD, negM, List.map_map, Function.comp_def]
    rw [e] at hp
    exact hp
  let F1 : Nat → Ce := fun t => ((en pl).take t).foldl (rowStep (bk T.back)) (negM pl.length)
  have hsq : ∀ t, t ≤ pl.length → Sqc pl.length (F1 t) := fun t h => (rows_ (b := bk T.back) ht rfl t h).1
  refine dss_go (env1 := E1 (cellsL (bk T.back) pl)) (ds_forN B (di_eT' pl rwD B (de_name B 1) rfl nb.enumerate) (fun t => E1 (F1 t)) (Wk.refl _) (fun t P hP => ?_) (by
    show NX _ (.nx (E1 (F1 _)))
    have : F1 ((en pl).map fun q => isD X.K (.tuple [nD q.1, rwD q.2])).length = cellsL (bk T.back) pl := by
      show ((en pl).take _).foldl _ _ = _
      rw [List.length_map, List.take_length]; rfl
    rw [this]; rfl)) ?_
  · rw [List.getElem?_map, Option.map_eq_some_iff] at hP
    obtain ⟨⟨i, row⟩, hq, rfl⟩ := hP
    obtain ⟨hrow, hi⟩ := en_get hq
    simp only at hrow hi
    subst hi
    have hil : i < pl.length := (List.getElem?_eq_some_iff.mp hrow).1
    have hrl : row.length = i := ht.len i row hrow
    have hF : F1 (i + 1) = (en row).foldl (colStep (bk T.back) i) (F1 i) := by
      show ((en pl).take (i + 1)).foldl _ _ = _
      rw [take_succ_f hq, List.foldl_append]; rfl
    have hsi := hsq i (by omega)
    let E2 : Ce → Ev := fun C => [some (.fz (isI CT (fsT X.K T))), some (dD X.K (plD pl)), some (dD X.K (nD pl.length)), some ((oM X.K (ceD C)).at none), some (dD X.K (nD i)), some (dD X.K (rwD row)), none, none]
    refine ⟨_, E2 (F1 i), dg_tup B (ds := [nD i, rwD row]) (dgs_cons (dg_name B 4) (dgs_cons (dg_name B 5) dgs_nil)), dss_end ?_⟩
    let F2 : Nat → Ce := fun j => ((en row).take j).foldl (colStep (bk T.back) i) (F1 i)
    have hsq2 : ∀ j, j ≤ row.length → Sqc pl.length (F2 j) := fun j h => (cols (b := bk T.back) hsi hil hrl j h).1
    refine ds_forN (Pt := LpW (E1 (F1 (i + 1))) _) B (di_eT' row nD B (de_name B 5) rfl nb.enumerate) (fun j => E2 (F2 j)) (Wk.refl _) (fun j P hP => ?_) ?_
    · rw [List.getElem?_map, Option.map_eq_some_iff] at hP
      obtain ⟨⟨j', p⟩, hq2, rfl⟩ := hP
      obtain ⟨hp, hj⟩ := en_get hq2
      simp only at hp hj
      subst hj
      have hjr : j' < row.length := (List.getElem?_eq_some_iff.mp hp).1
      have hjl : j' < pl.length := by omega
      have hpb : p < T.back.length := ht.lt row (List.mem_of_getElem? hrow) p (List.mem_of_getElem? hp)
      have hsj := hsq2 j' (by omega)
      have hF2 : F2 (j' + 1) = setC (setC (F2 j') i j' p) j' i (bk T.back p) := by
        show ((en row).take (j' + 1)).foldl _ _ = _
        rw [take_succ_f hq2, List.foldl_append]; rfl
      have hsj2 : Sqc pl.length (setC (F2 j') i j' p) := sqc_set hsj hil
      refine ⟨_, _, dg_tup B (ds := [nD j', nD p]) (dgs_cons (dg_name B 6) (dgs_cons (dg_name B 7) dgs_nil)), dss_end ?_⟩
      refine ds_last (ds_tup (L := [dD X.K (nD p), dD X.K (nD (bk T.back p))]) B (da_cons (de_name B 7) (da_cons (de_ix (de_fld (de_name B 0) tc.cl tc.nb) (de_name B 7) (ixd_t (bk_in hpb))) da_nil)) (dga_cons (dg_setM (rows := ceD (F2 j')) (row := ((F2 j').getD i []).map .int) (d := nD p) (m := (i : Nat)) (n := (j' : Nat)) (k := i) (j := j') B 3 rfl (de_name B 4) (de_name B 6) (ixN_n (by simp [ceD, hsj.len]; exact hil)) (ceD_row hsj hil) (ixN_n (by rw [List.length_map, (sqc_at hsj hil).2]; exact hjl)))
        (dga_cons (dg_setM (rows := ceD (setC (F2 j') i j' p)) (row := ((setC (F2 j') i j' p).getD j' []).map .int) (d := nD (bk T.back p)) (m := (j' : Nat)) (n := (i : Nat)) (k := j') (j := i) B 3 rfl (de_name B 6) (de_name B 4) (ixN_n (by simp [ceD, hsj2.len]; exact hjl)) (ceD_row hsj2 hjl) (ixN_n (by rw [List.length_map, (sqc_at hsj2 hjl).2]; exact hil)) (hi := by rw [ceD_set]; rfl)) dga_nil))) ?_
      have e3 : ceD (F2 (j' + 1)) = (ceD (setC (F2 j') i j' p)).set j' ((((setC (F2 j') i j' p).getD j' []).map .int).set i (nD (bk T.back p))) := by rw [hF2, ceD_set]; rfl
      refine Drop.wk ?_
      show Drop _ [some (.fz (isI CT (fsT X.K T))), some (dD X.K (plD pl)), some (dD X.K (nD pl.length)), some ((oM X.K (ceD (F2 (j' + 1)))).at none), some (dD X.K (nD i)), some (dD X.K (rwD row)), none, none]
      rw [e3]
      repeat (first | exact Drop.nil | apply Drop.keep | apply Drop.skip)
    · show Wk (E2 (F2 _)) (E1 (F1 (i + 1)))
      have e4 : F2 ((en row).map fun q => isD X.K (.tuple [nD q.1, nD q.2])).length = F1 (i + 1) := by
        rw [hF]
        show ((en row).take _).foldl _ _ = _
        rw [List.length_map, List.take_length]
      rw [e4]
      refine Drop.wk ?_
      repeat (first | exact Drop.nil | apply Drop.keep | apply Drop.skip)
  have hsc := cellsL_sq (b := bk T.back) ht
  have hlc : (ceD (cellsL (bk T.back) pl)).length = pl.length := by rw [ceD, List.length_map, hsc.len]
  refine dss_end (ds_ret (de_eq (de_nc B (nc_t (cd_tupleL (ds := (ceD (cellsL (bk T.back) pl)).map PyData.tuple)) nb.tuple) (da_cons (de_lcr (lc1n 5 (ceD (cellsL (bk T.back) pl)) (fun row => isD X.K (.list row)) PyData.tuple B ⟨by decide +kernel, by decide +kernel, by decide +kernel, by decide +kernel, by decide +kernel⟩ (di_ldm (ceD (cellsL (bk T.back) pl)) PyData.list (de_oM (A := (oM X.K (ceD (cellsL (bk T.back) pl))).at none) (de_move B 3) rfl) rfl) (by omega) rfl fun s0 H0 C cl fp B' row hrow => ⟨_, rfl, de_nc B' (nc_t (cd_tupleL (ds := row)) nb.tuple) (da_cons (de_name B' 5) da_nil) (.inl rfl)⟩)) da_nil) (.inl rfl)) (by
    unfold ceD ceT
    rw [List.map_map]; rfl)) ⟨rfl, trivial⟩)
end
end K7

set_option maxHeartbeats 4000000
namespace K7
open PySem PySem.Spec PyProof.Rows L2 DL Hd
def pg (pl : Pl) (i j : Nat) : Nat := (pl.getD i []).getD j 0
def letB (masks : Mx) (pl : Pl) (i j k : Nat) : Bool := (mxGet masks (pg pl i j) (pg pl j k)).testBit (pg pl i k)
def letAll (masks : Mx) (pl : Pl) : Bool := ((List.range pl.length).flatMap fun i => (List.range i).flatMap fun j => (List.range j).map fun k => letB masks pl i j k).all id
theorem bit_eq (m c : Nat) : decide (Builtin.bitAnd (((m : Nat) : Int) / (2 : Int) ^ (((c : Nat) : Int).toNat)) 1 = 1) = m.testBit c := by
  have e : ((m : Nat) : Int) / (2 : Int) ^ (((c : Nat) : Int).toNat) = ((m / 2 ^ c : Nat) : Int) := by simp
  rw [e]
  have e2 : Builtin.bitAnd ((m / 2 ^ c : Nat) : Int) 1 = (((m / 2 ^ c) &&& 1 : Nat) : Int) := bitAnd_nat _ 1
  rw [e2, Nat.and_one_is_mod, Nat.testBit_eq_decide_div_mod_eq]
  exact decide_eq_decide.mpr (by omega)
theorem ceT_row {n i : Nat} {C : Ce} (h : Sqc n C) (hi : i < n) : atI (C.map fun row => PyData.tuple (row.map .int)) ((i : Nat) : Int) = some (.tuple ((C.getD i []).map .int)) := atI_nat (by rw [List.getElem?_map, (sqc_at h hi).1]; rfl)
theorem ceT_get {n i j : Nat} {C : Ce} (h : Sqc n C) (hi : i < n) (hj : j < n) : atI ((C.getD i []).map PyData.int) ((j : Nat) : Int) = some (.int (getC C i j)) := atI_nat (by
  have h2 := (sqc_at h hi).2
  unfold getC
  generalize C.getD i [] = r at h2 ⊢
  rw [List.getElem?_map, List.getD_eq_getElem?_getD, List.getElem?_eq_getElem (show j < r.length by omega)]; rfl)
theorem pg_lt {n i j : Nat} {pl : Pl} (h : Tri n pl) (hi : i < pl.length) (hj : j < i) : pg pl i j < n := by
  have e : pl.getD i [] = pl[i] := by rw [List.getD_eq_getElem?_getD, List.getElem?_eq_getElem hi]; rfl
  have hl : (pl[i]).length = i := h.len i _ (List.getElem?_eq_getElem hi)
  unfold pg
  rw [e, List.getD_eq_getElem?_getD, List.getElem?_eq_getElem (show j < (pl[i]).length by omega)]
  exact h.lt _ (List.getElem_mem hi) _ (List.getElem_mem _)
section
variable {M : Md} (nb : NoB M.mg) {CT : Addr} (tc : TbF M.K CT)
structure LtOk (T : Tab) (pl : Pl) : Prop where
  tri : Tri T.back.length pl
  sq : sq T.back.length T.masks
theorem sc_is_let : FnScope ["table", "cells", "i", "j", "k"] ["table", "cells", "i", "j", "k"] (defScope (topS 34)) := ⟨rfl, rfl, rfl, by decide +kernel, rfl, by decide +kernel, by decide +kernel⟩
abbrev ilArgs (M : Md) (CT : Addr) : { i : (Tab × Pl) × Nat × Nat × Nat // LtOk i.1.1 i.1.2 ∧ i.2.1 < i.1.2.length ∧ i.2.2.1 < i.2.1 ∧ i.2.2.2 < i.2.2.1 } → List DL.Arg := fun i => [.z (isI CT (fsT M.K i.1.1.1)), .z (isD M.K (ceT (cellsL (bk i.1.1.1.back) i.1.1.2))), .z (isD M.K (nD i.1.2.1)), .z (isD M.K (nD i.1.2.2.1)), .z (isD M.K (nD i.1.2.2.2))]
include nb tc in
theorem ok_is_let (F : FnD M "is_let" (topS 34) ["table", "cells", "i", "j", "k"]) : FK M "is_let" 1 ["table", "cells", "i", "j", "k"] (ilArgs M CT) (fun i => dD M.K (.bool (letB i.1.1.1.masks i.1.1.2 i.1.2.1 i.1.2.2.1 i.1.2.2.2))) := by
  refine fk (N := ["table", "cells", "i", "j", "k"]) F sc_is_let (fun _ => rfl) ?_
  rintro X rfl B hr ⟨⟨⟨T, pl⟩, i, j, k⟩, hlt, hi, hj, hk⟩ G vs hv
  obtain ⟨v1, v2, v3, v4, v5, rfl⟩ := len5 hv
  simp only at hlt hi hj hk
  have ht := hlt.tri
  have hsc := cellsL_sq (b := bk T.back) ht
  have c1 : getC (cellsL (bk T.back) pl) i j = ((pg pl i j : Nat) : Int) := cellsL_get ht hj hi
  have c2 : getC (cellsL (bk T.back) pl) j k = ((pg pl j k : Nat) : Int) := cellsL_get ht hk (by omega)
  have c3 : getC (cellsL (bk T.back) pl) i k = ((pg pl i k : Nat) : Int) := cellsL_get ht (by omega) hi
  have l1 := pg_lt ht hi hj
  have l2 := pg_lt ht (show j < pl.length by omega) hk
  have r1 := ixd_t (X := X) (ceT_row hsc hi)
  have r2 := ixd_t (X := X) (ceT_row hsc (show j < pl.length by omega))
  have q1 := ceT_get hsc hi (show j < pl.length by omega)
  have q2 := ceT_get hsc (show j < pl.length by omega) (show k < pl.length by omega)
  have q3 := ceT_get hsc hi (show k < pl.length by omega)
  rw [c1] at q1
  rw [c2] at q2
  rw [c3] at q3
  refine dss_end (ds_ret (de_eq (de_cmp (de_bin (de_bin (de_ix (de_ix (de_fld (de_name B 0) tc.cl tc.nm) (de_ix (de_ix (de_name B 1) (de_name B 2) r1) (de_name B 3) (ixd_t q1)) (ixd_l (d := .list ((T.masks.getD (pg pl i j) []).map nD)) (atI_nat (by rw [List.getElem?_map, mxD_row hlt.sq l1]; rfl)))) (de_ix (de_ix (de_name B 1) (de_name B 3) r2) (de_name B 4) (ixd_t q2)) (ixd_l (atI_nat (mxD_get hlt.sq l1 l2)))) (de_ix (de_ix (de_name B 1) (de_name B 2) r1) (de_name B 4) (ixd_t q3)) (opd_shr _ _ (by omega))) de_int (opd_and _ _)) de_int (opd_eqI _ _ hr.units)) ?_) ⟨rfl, trivial⟩)
  rw [bit_eq]; rfl
theorem sc_are_let : FnScope ["table", "cells", "many", "i", "j", "k"] ["table", "cells"] (defScope (topS 35)) := ⟨rfl, rfl, rfl, by decide +kernel, rfl, by decide +kernel, by decide +kernel⟩
abbrev alArgs (M : Md) (CT : Addr) : { i : Tab × Pl // LtOk i.1 i.2 } → List DL.Arg := fun i => [.z (isI CT (fsT M.K i.1.1)), .z (isD M.K (ceT (cellsL (bk i.1.1.back) i.1.2)))]
theorem flat_bound {α β : Type} (f : α → List β) (n : Nat) : ∀ l : List α, (∀ a ∈ l, (f a).length ≤ n) → (l.flatMap f).length ≤ l.length * n
  | [], _ => by simp
  | a :: l, h => by
    have h1 := h a List.mem_cons_self
    have h2 := flat_bound f n l fun b hb => h b (List.mem_cons_of_mem _ hb)
    simp only [List.flatMap_cons, List.length_append, List.length_cons, Nat.add_mul, Nat.one_mul]
    omega
include nb tc in
theorem ok_are_let (F : FnD M "are_let" (topS 35) ["table", "cells"]) (f1 : FK M "is_let" 1 ["table", "cells", "i", "j", "k"] (ilArgs M CT) (fun i => dD M.K (.bool (letB i.1.1.1.masks i.1.1.2 i.1.2.1 i.1.2.2.1 i.1.2.2.2)))) : FK M "are_let" 2 ["table", "cells"] (alArgs M CT) (fun i => dD M.K (.bool (letAll i.1.1.masks i.1.2))) := by
  refine fk (N := ["table", "cells", "many", "i", "j", "k"]) F sc_are_let (fun _ => rfl) ?_
  rintro X rfl B hr ⟨⟨T, pl⟩, hlt⟩ G vs hv
  obtain ⟨v, w, rfl⟩ := len2 hv
  simp only at hlt
  have ht := hlt.tri
  have hsz := sizeLine_eq
  have h12 := ht.sz
  have hsc := cellsL_sq (b := bk T.back) ht
  let E0 : Ev := [some (.fz (isI CT (fsT X.K T))), some (dD X.K (ceT (cellsL (bk T.back) pl))), none, none, none, none]
  have hlen : ((cellsL (bk T.back) pl).map fun row => PyData.tuple (row.map .int)).length = pl.length := by rw [List.length_map, hsc.len]
  refine dss_go (env1 := E0.set 2 (some (dD X.K (nD pl.length)))) (ds_set B 2 (de_eq (de_nc B (nc_b (cd_lenT (ds := (cellsL (bk T.back) pl).map fun row => PyData.tuple (row.map .int))) nb.len) (da_cons (de_name B 1) da_nil) (.inl rfl)) (by rw [hlen]; rfl))) ?_
  have hb2 : ∀ j, (((List.range j).map fun k => dD X.K (.bool (letB T.masks pl 0 0 0))) : List As).length = j := fun j => by simp
  let hB : Nat → Nat → Nat → As := fun i j k => dD X.K (.bool (letB T.masks pl i j k))
  have z2 : ∀ i, i ≤ 12 → ∀ j, j ≤ i → ((List.range j).flatMap fun k => [hB i j k]).length ≤ 12 := fun i hi j hj => by
    rw [← map_flat]; simp; omega
  have z1 : ∀ i, i ≤ 12 → ((List.range i).flatMap fun j => (List.range j).flatMap fun k => [hB i j k]).length ≤ 144 := fun i hi => by
    refine Nat.le_trans (flat_bound _ 12 _ fun j hj => z2 i hi j (by have := List.mem_range.mp hj; omega)) ?_
    rw [List.length_range]; omega
  have z0 : ((List.range pl.length).flatMap fun i => (List.range i).flatMap fun j => (List.range j).flatMap fun k => [hB i j k]).length ≤ sizeLine := by
    refine Nat.le_trans (flat_bound _ 144 _ fun i hi => z1 i (by have := List.mem_range.mp hi; omega)) ?_
    rw [List.length_range]; omega
  refine dss_end (ds_ret (de_all B nb ((List.range pl.length).flatMap fun i => (List.range i).flatMap fun j => (List.range j).map fun k => letB T.masks pl i j k) (de_lcr (lcr_data (lcr1n (gs := [_, _]) [("i", 3), ("j", 4), ("k", 5)] 3 (List.range pl.length) (fun i => isD X.K (.int (i : Nat))) (fun i => (List.range i).flatMap fun j => (List.range j).flatMap fun k => [hB i j k]) B ⟨by decide +kernel, by decide +kernel, by decide +kernel, by decide +kernel, by decide +kernel⟩ (di_rn B (de_name B 2) nb.range (by omega)) z0 (by
    intro p hp A
    simp only [List.mem_cons, List.not_mem_nil, or_false] at hp
    rcases hp with rfl | rfl | rfl <;> intro z <;> cases z) rfl (by simp) (fun s0 H0 C cl fp B' i hi L hL => ?_) (hnx := fun g' hg => by
      simp only [List.mem_cons, List.not_mem_nil, or_false] at hg
      rcases hg with rfl | rfl <;> exact ⟨rfl, fun _ _ => rfl⟩)) ?_)) rfl) ⟨rfl, trivial⟩)
  · have hi' := List.mem_range.mp hi
    refine lcb1n 4 (List.range i) (fun j => isD X.K (.int (j : Nat))) _ L B' hL (di_rn B' (de_name B' 3) nb.range (by omega)) rfl (by simp) (fun j hj L2 hL2 => ?_)
    have hj' := List.mem_range.mp hj
    refine lcb1n 5 (List.range j) (fun k => isD X.K (.int (k : Nat))) _ L2 B' hL2 (di_rn B' (de_name B' 4) nb.range (by omega)) rfl (by simp) (fun k hk L3 hL3 => lcb_el ?_ hL3)
    have hk' := List.mem_range.mp hk
    exact de_nc B' (nk (X := BY X s0 H0 _ C cl fp) f1 hr ⟨((T, pl), i, j, k), hlt, hi', hj', hk'⟩) (da_cons (de_name B' 0) (da_cons (de_name B' 1) (da_cons (de_name B' 3) (da_cons (de_name B' 4) (da_cons (de_name B' 5) da_nil))))) (.inl rfl)
  · rw [List.map_map, List.map_flatMap]
    congr 1
    funext i
    rw [List.map_flatMap]
    congr 1
    funext j
    rw [← map_flat, List.map_map]; rfl
end
end K7

set_option maxHeartbeats 4000000
namespace K7
open PySem PySem.Spec PyProof.Rows L2 DL Hd
/-! ### Scene -/
structure ScF (K : PySem.W.Frag) (C : Addr) : Prop where
  cl : Cls K C
  nt : NoAttr K C "table"
  np : NoAttr K C "places"
  nc : NoAttr K C "cells"
abbrev fsS (K : PySem.W.Frag) (CT : Addr) (T : Tab) (pl : Pl) : List (Str × FP) := [("table", isI CT (fsT K T)), ("places", isD K (plD pl)), ("cells", isD K (ceT (cellsL (bk T.back) pl)))]
abbrev isTb (K : PySem.W.Frag) (CT : Addr) (T : Tab) : FP := isI CT (fsT K T)
abbrev isSc (K : PySem.W.Frag) (CT CS : Addr) (T : Tab) (pl : Pl) : FP := isI CS (fsS K CT T pl)
/-- a table that stands -/
structure TOk (T : Tab) : Prop where
  ok : TbOk T.ways T.back
  sq : sq T.back.length T.masks
structure SOk (T : Tab) (pl : Pl) : Prop where
  t : TOk T
  tri : Tri T.back.length pl
theorem nkC {X : Cx} {x : Str} {C f : Addr} {k m : Nat} {ps : List Str} {ι : Type} {args : ι → List DL.Arg} {ret : ι → As} {fs : List (Str × FP)} {rest : List DL.Arg} (Mk' : Mk X.K C f) (F : FM (mdOf X) f k ps args ret) (hm : X.mg x = some (.ref C)) (hr : Room m X.A) (i : ι) (hargs : args i = .l (oI C []) (oI C fs) :: rest) (hret : ret i = dD X.K .none) (h : k + 1 ≤ m := by omega) :
    NC X x (rest.map DL.Arg.pre) (rest.map DL.Arg.aft) ((oI C fs).at none) := by
  obtain ⟨fd, h2, h3⟩ := F
  exact .inl ⟨C, hm, Mk'.kp, cd_make Mk' h3 (hr.mono h) h2 (E := E0) pass0 i hargs hret⟩
section
variable {M : Md} (nb : NoB M.mg) {CT CS : Addr} (tc : TbF M.K CT) (sc : ScF M.K CS)
theorem sc_Scene_init : FnScope ["self", "table", "rows", "row", "way"] ["self", "table", "rows"] (defScope (inClass (topS 36) 0)) := ⟨rfl, rfl, rfl, by decide +kernel, rfl, by decide +kernel, by decide +kernel⟩
structure SnOk (T : Tab) (pl : Pl) : Prop where
  s : SOk T pl
  all : letAll T.masks pl = true
abbrev snArgs (M : Md) (CT CS : Addr) : { i : Tab × Pl // SnOk i.1 i.2 } → List DL.Arg := fun i => [.l (oI CS []) (oI CS (fsS M.K CT i.1.1 i.1.2)), .z (isTb M.K CT i.1.1), .z (isD M.K (nmsD i.1.1.ways i.1.2))]
theorem tri_ways {T : Tab} {pl : Pl} (h : TbOk T.ways T.back) (t : Tri T.back.length pl) : Tri T.ways.length pl := by rw [h.len]; exact t
include nb tc sc in
theorem ok_Scene_init {f : Addr} (F : FnM M "__init__" "Scene.__init__" (inClass (topS 36) 0) ["self", "table", "rows"] f) (f1 : FK M "are_rows" 2 ["table", "value"] (arArgs M CT) (fun _ => dD M.K (.bool true))) (f2 : FK M "cells_of" 1 ["table", "places"] (coArgs M CT) (fun i => dD M.K (ceT (cellsL (bk i.1.1.back) i.1.2))))
    (f3 : FK M "are_let" 2 ["table", "cells"] (alArgs M CT) (fun i => dD M.K (.bool (letAll i.1.1.masks i.1.2)))) : FM M f 3 ["self", "table", "rows"] (snArgs M CT CS) (fun _ => dD M.K .none) := by
  refine fkm (N := ["self", "table", "rows", "row", "way"]) F sc_Scene_init (fun _ => rfl) ?_
  rintro X rfl B hr ⟨⟨T, pl⟩, hs, hall⟩ G vs hv
  obtain ⟨v, w, u, rfl⟩ := len3 hv
  simp only at hs hall
  have hsz := sizeLine_eq
  have ht := hs.tri
  have hok := hs.t.ok
  have h12 := ht.sz
  let E0 : Ev := [some ((oI CS []).at (some v)), some (.fz (isTb X.K CT T)), some (dD X.K (nmsD T.ways pl)), none, none]
  let fa : List (Str × FP) := [("table", isTb X.K CT T)]
  let fb : List (Str × FP) := [("table", isTb X.K CT T), ("places", isD X.K (plD pl))]
  refine dss_if (env1 := E0) (k := false) (dt_not (dt_val (de_nc B (nk f1 hr ⟨(T, pl), ⟨tri_ways hok ht⟩⟩) (da_cons (de_name B 1) (da_cons (de_name B 2) da_nil)) (.inl rfl)))) (fun h => (nomatch h)) (fun _ => ?_)
  refine dss_go (ds_fld B 0 (de_name B 1) sc.cl sc.nt) ?_
  refine dss_go (ds_fld (fs := fa) B 0 (de_nc B (nc_t (cd_tupleL (ds := pl.map rwD)) nb.tuple) (da_cons (de_lcr (lc1n 3 pl (fun row => isD X.K (nmD T.ways row)) rwD B ⟨by decide +kernel, by decide +kernel, by decide +kernel, by decide +kernel, by decide +kernel⟩ (di_ldm pl (nmD T.ways) (de_name B 2) rfl) (by omega) rfl fun s0 H0 C cl fp B' row hrow => ?_)) da_nil) (.inl rfl)) sc.cl sc.np (hz := by show 1 < 1000; decide)) ?_
  · have hrl := ht.row hrow
    refine ⟨_, rfl, de_nc B' (nc_t (cd_tupleL (ds := row.map nD)) nb.tuple) (da_cons (de_lcr (lc1n 4 row (fun k => isD X.K (.str (wy T.ways k))) nD B' ⟨by decide +kernel, by decide +kernel, by decide +kernel, by decide +kernel, by decide +kernel⟩ (di_ldm row (fun k => PyData.str (wy T.ways k)) (de_name B' 3) rfl) (by omega) rfl fun s1 H1 C1 cl1 fp1 B2 k hk => ?_)) da_nil) (.inl rfl)⟩
    have hk' : k < T.ways.length := by rw [hok.len]; exact ht.lt row hrow k hk
    exact ⟨_, rfl, de_indexT (de_fld (de_name B2 1) tc.cl tc.nw) rfl (de_name B2 4) (wy_get hk') (wy_first hok.nd hk')⟩
  refine dss_go (ds_fld (fs := fb) B 0 (de_nc B (nk f2 hr ⟨(T, pl), ⟨ht⟩⟩) (da_cons (de_name B 1) (da_cons (de_fldO (fs := fb) B 0 sc.cl sc.np) da_nil)) (.inl rfl)) sc.cl sc.nc (hz := by show 2 < 1000; decide)) ?_
  let E1 : Ev := [some ((oI CS (fsS X.K CT T pl)).at (some v)), some (.fz (isTb X.K CT T)), some (dD X.K (nmsD T.ways pl)), none, none]
  refine dss_if (env1 := E1) (k := false) (dt_eq (dt_not (dt_val (de_nc B (nk f3 hr ⟨(T, pl), ht, hs.t.sq⟩) (da_cons (de_name B 1) (da_cons (de_fldO (fs := fsS X.K CT T pl) B 0 sc.cl sc.nc) da_nil)) (.inl rfl)))) (by simp only [hall]; rfl)) (fun h => (nomatch h)) (fun _ => ?_)
  exact dss_nil ⟨fun HF => ⟨rfl, Dp.non⟩, rfl, trivial⟩
theorem sc_Scene_len : FnScope ["self"] ["self"] (defScope (inClass (topS 36) 1)) := ⟨rfl, rfl, rfl, by decide +kernel, rfl, by decide +kernel, by decide +kernel⟩
abbrev slArgs (M : Md) (CT CS : Addr) : Tab × Pl → List DL.Arg := fun i => [.z (isSc M.K CT CS i.1 i.2)]
include nb sc in
theorem ok_Scene_len {f : Addr} (F : FnM M "__len__" "Scene.__len__" (inClass (topS 36) 1) ["self"] f) : FM M f 1 ["self"] (slArgs M CT CS) (fun i => dD M.K (nD i.2.length)) := by
  refine fkm (N := ["self"]) F sc_Scene_len (fun _ => rfl) ?_
  rintro X rfl B hr ⟨T, pl⟩ G vs hv
  obtain ⟨v, rfl⟩ := len1 hv
  exact dss_end (ds_ret (de_eq (de_nc B (nc_b (cd_lenT (ds := pl.map rwD)) nb.len) (da_cons (de_fld (de_name B 0) sc.cl sc.np) da_nil) (.inl rfl)) (by rw [List.length_map]; rfl)) ⟨rfl, trivial⟩)
theorem sc_Scene_rows : FnScope ["self", "row"] ["self"] (defScope (inClass (topS 36) 4)) := ⟨rfl, rfl, rfl, by decide +kernel, rfl, by decide +kernel, by decide +kernel⟩
abbrev srArgs (M : Md) (CT CS : Addr) : { i : Tab × Pl // SOk i.1 i.2 } → List DL.Arg := fun i => [.z (isSc M.K CT CS i.1.1 i.1.2)]
include nb sc in
theorem ok_Scene_rows {f : Addr} (F : FnM M "rows" "Scene.rows" (inClass (topS 36) 4) ["self"] f) (f1 : FB M "names_at" 1 ["table", "places"] (naArgs M CT) (fun i => dD M.K (.tuple (i.1.2.map fun k => .str (wy i.1.1.ways k))))) : FMB M f 2 ["self"] (srArgs M CT CS) (fun i => oLn M.K (i.1.2.map (nmD i.1.1.ways))) := by
  refine fkmb (N := ["self", "row"]) F sc_Scene_rows (fun _ => rfl) ?_
  rintro κ X rfl B hr ⟨⟨T, pl⟩, hs⟩ G vs hv
  obtain ⟨v, rfl⟩ := len1 hv
  simp only at hs
  have ht := hs.tri
  have h12 := ht.sz
  have hsz := sizeLine_eq
  refine dss_end (ds_ret (de_lcr (lc1n 1 pl (fun row => isD X.K (rwD row)) (nmD T.ways) B ⟨by decide +kernel, by decide +kernel, by decide +kernel, by decide +kernel, by decide +kernel⟩ (di_tdm pl rwD (de_fld (de_name B 0) sc.cl sc.np) rfl) (by omega) rfl fun s0 H0 C cl fp B' row hrow => ?_)) ⟨rfl, trivial⟩)
  have hrl := ht.row hrow
  exact ⟨_, rfl, de_nc B' (nc_t (cd_listT (ds := row.map fun k => .str (wy T.ways k))) nb.list) (da_cons (de_nc B' (nkb (X := BY X s0 H0 _ C cl fp) f1 B' hr ⟨(T, row), fun k hk => by rw [hs.t.ok.len]; exact ht.lt row hrow k hk, (show row.length ≤ 1000 by omega)⟩) (da_cons (de_fld (de_name B' 0) sc.cl sc.nt) (da_cons (de_name B' 1) da_nil)) (.inl rfl)) da_nil) (.inl rfl)⟩
theorem sc_scene_with : FnScope ["table", "places", "scene", "row"] ["table", "places"] (defScope (topS 37)) := ⟨rfl, rfl, rfl, by decide +kernel, rfl, by decide +kernel, by decide +kernel⟩
abbrev swArgs (M : Md) (CT : Addr) : { i : Tab × Pl // SOk i.1 i.2 } → List DL.Arg := fun i => [.z (isTb M.K CT i.1.1), .z (isD M.K (plD i.1.2))]
theorem tri_nil (n : Nat) : Tri n [] := ⟨fun i row h => (by simp at h), fun row h => (by cases h), by simp⟩
include nb sc in
theorem ok_scene_with {f : Addr} (F : FnD M "scene_with" (topS 37) ["table", "places"]) (mk : Mk M.K CS f) (hS : M.mg "Scene" = some (.ref CS)) (f1 : FM M f 3 ["self", "table", "rows"] (snArgs M CT CS) (fun _ => dD M.K .none)) (f2 : FK M "cells_of" 1 ["table", "places"] (coArgs M CT) (fun i => dD M.K (ceT (cellsL (bk i.1.1.back) i.1.2)))) :
    FK M "scene_with" 5 ["table", "places"] (swArgs M CT) (fun i => .fz (isSc M.K CT CS i.1.1 i.1.2)) := by
  refine fk (N := ["table", "places", "scene", "row"]) F sc_scene_with (fun _ => rfl) ?_
  rintro X rfl B hr ⟨⟨T, pl⟩, hs⟩ G vs hv
  obtain ⟨v, w, rfl⟩ := len2 hv
  simp only at hs
  have ht := hs.tri
  have h12 := ht.sz
  have hsz := sizeLine_eq
  refine dss_go (ds_set B 2 (de_nc B (nkC mk f1 hS hr ⟨(T, []), ⟨⟨hs.t, tri_nil _⟩, rfl⟩⟩ rfl rfl) (da_cons (de_name B 0) (da_cons (de_lstD dad_nil) da_nil)) (.inl rfl))) ?_
  refine dss_go (ds_fld (fs := fsS X.K CT T []) B 2 (de_nc B (nc_t (cd_tupleL (ds := pl.map rwD)) nb.tuple) (da_cons (de_lcr (lc1n 3 pl (fun row => isD X.K (rwD row)) rwD B ⟨by decide +kernel, by decide +kernel, by decide +kernel, by decide +kernel, by decide +kernel⟩ (di_tdm pl rwD (de_name B 1) rfl) (by omega) rfl fun s0 H0 C cl fp B' row hrow => ⟨_, rfl, de_nc B' (nc_t (cd_tupleT (ds := row.map nD)) nb.tuple) (da_cons (de_name B' 3) da_nil) (.inl rfl)⟩)) da_nil) (.inl rfl)) sc.cl sc.np (hz := by show 3 < 1000; decide)) ?_
  let fc : List (Str × FP) := [("table", isTb X.K CT T), ("places", isD X.K (plD pl)), ("cells", isD X.K (ceT (cellsL (bk T.back) [])))]
  refine dss_go (ds_fld (fs := fc) B 2 (de_nc B (nk f2 hr ⟨(T, pl), ⟨ht⟩⟩) (da_cons (de_name B 0) (da_cons (de_fldO (fs := fc) B 2 sc.cl sc.np) da_nil)) (.inl rfl)) sc.cl sc.nc (hz := by show 3 < 1000; decide)) ?_
  exact dss_end (ds_ret (de_frz (A := (oI CS (fsS X.K CT T pl)).at none) (de_move B 2)) ⟨rfl, trivial⟩)
end
end K7

set_option maxHeartbeats 4000000
namespace K7
open PySem PySem.Spec PyProof.Rows L2 DL Hd
/-! ### neighbours -/
def chg (pl : Pl) (i j p : Nat) : Pl := pl.set i ((pl.getD i []).set j p)
theorem cut_to {ds : List PyData} {j : Nat} (h : j ≤ ds.length) : DL.cutD ds none (some (j : Int)) = ds.take j := by
  unfold DL.cutD
  rw [HT.sIx_none, HT.sIx_nat, Nat.min_eq_left h, Nat.sub_zero, List.drop_zero]
theorem cut_from {ds : List PyData} {j : Nat} (h : j ≤ ds.length) : DL.cutD ds (some (j : Int)) none = ds.drop j := by
  unfold DL.cutD
  rw [HT.sIx_none, HT.sIx_nat, Nat.min_eq_left h]
  exact List.take_of_length_le (by rw [List.length_drop]; omega)
theorem set_cut {α : Type} {xs : List α} {j : Nat} (h : j < xs.length) (a : α) : xs.take j ++ [a] ++ xs.drop (j + 1) = xs.set j a := by
  rw [List.set_eq_take_append_cons_drop, if_pos h, List.append_assoc]; rfl
theorem plD_at {pl : Pl} {i : Nat} (h : i < pl.length) : atI (pl.map rwD) ((i : Nat) : Int) = some (rwD (pl.getD i [])) := atI_nat (by
  rw [List.getElem?_map, List.getD_eq_getElem?_getD, List.getElem?_eq_getElem h]; rfl)
theorem tri_row {n i : Nat} {pl : Pl} (h : Tri n pl) (hi : i < pl.length) : (pl.getD i []).length = i ∧ pl.getD i [] ∈ pl := by
  have e : pl.getD i [] = pl[i] := by rw [List.getD_eq_getElem?_getD, List.getElem?_eq_getElem hi]; rfl
  rw [e]
  exact ⟨h.len i _ (List.getElem?_eq_getElem hi), List.getElem_mem hi⟩
theorem tri_chg {n i j p : Nat} {pl : Pl} (h : Tri n pl) (hi : i < pl.length) (hp : p < n) : Tri n (chg pl i j p) := by
  obtain ⟨h1, h2⟩ := tri_row h hi
  refine ⟨fun k row hk => ?_, fun row hm k hk => ?_, by rw [chg, List.length_set]; exact h.sz⟩
  · unfold chg at hk
    by_cases e : i = k
    · subst e
      rw [List.getElem?_set_self hi] at hk
      cases hk
      rw [List.length_set]; exact h1
    · rw [List.getElem?_set_ne e] at hk
      exact h.len k row hk
  · unfold chg at hm
    rcases List.mem_or_eq_of_mem_set hm with hm | rfl
    · exact h.lt row hm k hk
    · rcases List.mem_or_eq_of_mem_set hk with hk | rfl
      · exact h.lt _ h2 k hk
      · exact hp
/-- all that differ at one place, in the program's sequence -/
def nearL (n : Nat) (pl : Pl) : List Pl := (en pl).flatMap fun q => (en q.2).flatMap fun r => ((List.range n).filter fun p => !decide (p = r.2)).map fun p => chg pl q.1 r.1 p
theorem mem_nearL {n : Nat} {pl c : Pl} (h : c ∈ nearL n pl) : ∃ i j p, i < pl.length ∧ j < (pl.getD i []).length ∧ p < n ∧ c = chg pl i j p := by
  simp only [nearL, List.mem_flatMap, List.mem_map, List.mem_filter, List.mem_range] at h
  obtain ⟨q, hq, r, hr, p, ⟨hp, _⟩, rfl⟩ := h
  have h1 := en_mem hq
  have h2 := en_mem hr
  have e : pl.getD q.1 [] = q.2 := by rw [List.getD_eq_getElem?_getD, h1]; rfl
  exact ⟨q.1, r.1, p, (List.getElem?_eq_some_iff.mp h1).1, by rw [e]; exact (List.getElem?_eq_some_iff.mp h2).1, hp, rfl⟩
theorem nearL_tri {n : Nat} {pl c : Pl} (ht : Tri n pl) (h : c ∈ nearL n pl) : Tri n c ∧ c.length = pl.length ∧ c ≠ [] := by
  obtain ⟨i, j, p, hi, hj, hp, rfl⟩ := mem_nearL h
  refine ⟨tri_chg ht hi hp, by rw [chg, List.length_set], fun e => ?_⟩
  have := congrArg List.length e
  rw [chg, List.length_set] at this
  simp at this
  subst this
  simp at hi
def nearS (T : Tab) (pl : Pl) : List Pl := srt plD ((nearL T.back.length pl).filter fun c => letAll T.masks c)
theorem alike_rw (a b : List Nat) : PySem.W.alike (rwD a) (rwD b) = true := by
  unfold rwD
  rw [PySem.W.alike]
  induction a generalizing b with
  | nil => cases b <;> rfl
  | cons x a ih =>
    cases b with
    | nil => rfl
    | cons y b => rw [List.map_cons, List.map_cons, PySem.W.alikeAll, alike_nn, ih]; rfl
theorem alike_pl (a b : Pl) : PySem.W.alike (plD a) (plD b) = true := by
  unfold plD
  rw [PySem.W.alike]
  induction a generalizing b with
  | nil => cases b <;> rfl
  | cons x a ih =>
    cases b with
    | nil => rfl
    | cons y b => rw [List.map_cons, List.map_cons, PySem.W.alikeAll, alike_rw, ih]; rfl
theorem shp_rw (row : List Nat) : Shp 1 (rwD row) := shp_t fun n _ => shp_n n
theorem shp_pl (pl : Pl) : Shp 2 (plD pl) := shp_t fun r _ => shp_rw r
theorem sort_pl (L : List Pl) (h : ∀ c ∈ L, c ≠ []) : PySem.W.AllAlike (L.map plD) ∧ PySem.W.Sortable (L.map plD) ∧ ∀ d ∈ L.map plD, d.depth ≤ 50 := by
  refine ⟨fun d hd d' hd' => ?_, .inl fun d hd => ?_, fun d hd => ?_⟩
  · obtain ⟨x, _, rfl⟩ := List.mem_map.mp hd
    obtain ⟨y, _, rfl⟩ := List.mem_map.mp hd'
    exact alike_pl x y
  · obtain ⟨x, hx, rfl⟩ := List.mem_map.mp hd
    cases x with
    | nil => exact absurd rfl (h _ hx)
    | cons r x => exact ⟨_, _, rfl⟩
  · obtain ⟨x, _, rfl⟩ := List.mem_map.mp hd
    exact Nat.le_trans (shp_pl x).dep (by omega)
section
variable {M : Md} (nb : NoB M.mg) {CT CS : Addr} (tc : TbF M.K CT) (sc : ScF M.K CS)
theorem sc_changed : FnScope ["places", "i", "j", "place", "row"] ["places", "i", "j", "place"] (defScope (topS 40)) := ⟨rfl, rfl, rfl, by decide +kernel, rfl, by decide +kernel, by decide +kernel⟩
structure ChOk (pl : Pl) (i j : Nat) : Prop where
  hi : i < pl.length
  hj : j < (pl.getD i []).length
  z1 : pl.length ≤ 12
  z2 : (pl.getD i []).length ≤ 12
abbrev chArgs (M : Md) : { i : Pl × Nat × Nat × Nat // ChOk i.1 i.2.1 i.2.2.1 } → List DL.Arg := fun i => [.z (isD M.K (plD i.1.1)), .z (isD M.K (nD i.1.2.1)), .z (isD M.K (nD i.1.2.2.1)), .z (isD M.K (nD i.1.2.2.2))]
theorem ok_changed (F : FnD M "changed" (topS 40) ["places", "i", "j", "place"]) : FK M "changed" 1 ["places", "i", "j", "place"] (chArgs M) (fun i => dD M.K (plD (chg i.1.1 i.1.2.1 i.1.2.2.1 i.1.2.2.2))) := by
  refine fk (N := ["places", "i", "j", "place", "row"]) F sc_changed (fun _ => rfl) ?_
  rintro X rfl B hr ⟨⟨pl, i, j, p⟩, hi, hj, z1, z2⟩ G vs hv
  obtain ⟨v1, v2, v3, v4, rfl⟩ := len4 hv
  simp only at hi hj z1 z2
  have hsz := sizeLine_eq
  have hl1 : ((pl.getD i []).map nD).length = (pl.getD i []).length := List.length_map _
  have hl2 : (pl.map rwD).length = pl.length := List.length_map _
  have g1 := ixd_t (X := X) (plD_at hi)
  have c1 : DL.cutD ((pl.getD i []).map nD) none (some (j : Int)) = ((pl.getD i []).map nD).take j := cut_to (by omega)
  have c2 : DL.cutD ((pl.getD i []).map nD) (some ((j : Int) + 1)) none = ((pl.getD i []).map nD).drop (j + 1) := cut_from (j := j + 1) (by omega)
  have c3 : DL.cutD (pl.map rwD) none (some (i : Int)) = (pl.map rwD).take i := cut_to (by omega)
  have c4 : DL.cutD (pl.map rwD) (some ((i : Int) + 1)) none = (pl.map rwD).drop (i + 1) := cut_from (j := i + 1) (by omega)
  have t1 := List.length_take_le j ((pl.getD i []).map nD)
  have t2 := List.length_drop (i := j + 1) (l := (pl.getD i []).map nD)
  have t3 := List.length_take_le i (pl.map rwD)
  have t4 := List.length_drop (i := i + 1) (l := pl.map rwD)
  refine dss_go (env1 := [some (dD X.K (plD pl)), some (dD X.K (nD i)), some (dD X.K (nD j)), some (dD X.K (nD p)), some (dD X.K (rwD ((pl.getD i []).set j p)))]) (ds_set B 4 (de_eq (de_bin (de_bin (de_slT (de_ix (de_name B 0) (de_name B 1) g1) rfl do_none (do_some (de_name B 2))) (de_tupD (dad_cons (de_name B 3) rfl dad_nil)) (opd_catT (by rw [c1]; simp only [List.length_cons, List.length_nil]; omega))) (de_slT (de_ix (de_name B 0) (de_name B 1) g1) rfl (do_some (de_bin (de_name B 2) de_int (opd_add _ _))) do_none) (opd_catT (by rw [c1, c2]; simp only [List.length_append, List.length_cons, List.length_nil]; omega))) ?_)) ?_
  · rw [c1, c2, set_cut (by omega), ← List.map_set]; rfl
  refine dss_end (ds_ret (de_eq (de_bin (de_bin (de_slT (de_name B 0) rfl do_none (do_some (de_name B 1))) (de_tupD (dad_cons (de_name B 4) rfl dad_nil)) (opd_catT (by rw [c3]; simp only [List.length_cons, List.length_nil]; omega))) (de_slT (de_name B 0) rfl (do_some (de_bin (de_name B 1) de_int (opd_add _ _))) do_none) (opd_catT (by rw [c3, c4]; simp only [List.length_append, List.length_cons, List.length_nil]; omega))) ?_) ⟨rfl, trivial⟩)
  rw [c3, c4, set_cut (by omega), ← List.map_set]; rfl
end
end K7

set_option maxHeartbeats 4000000
namespace K7
open PySem PySem.Spec PyProof.Rows L2 DL Hd
theorem nearL_le {n : Nat} {pl : Pl} (ht : Tri n pl) (hn : n ≤ 5) : (nearL n pl).length ≤ 720 := by
  refine Nat.le_trans (flat_bound _ 60 _ fun q hq => ?_) ?_
  · refine Nat.le_trans (flat_bound _ 5 _ fun r hr => ?_) ?_
    · rw [List.length_map]
      exact Nat.le_trans (List.length_filter_le _ _) (by rw [List.length_range]; exact hn)
    · rw [en_len]
      have h1 := en_mem hq
      have h2 := ht.row (List.mem_of_getElem? h1)
      have := ht.sz
      omega
  · rw [en_len]
    have := ht.sz
    omega
theorem flat_take_le {α β : Type} (f : α → List β) (xs : List α) (t : Nat) : ((xs.take t).flatMap f).length ≤ (xs.flatMap f).length := by
  conv => rhs; rw [← List.take_append_drop t xs]
  rw [List.flatMap_append, List.length_append]; omega
section
variable {M : Md} (nb : NoB M.mg) {CT CS : Addr} (tc : TbF M.K CT) (sc : ScF M.K CS)
theorem sc_rows_near : FnScope ["table", "places", "found", "many", "i", "row", "j", "old", "place", "rows"] ["table", "places"] (defScope (topS 41)) := ⟨rfl, rfl, rfl, by decide +kernel, rfl, by decide +kernel, by decide +kernel⟩
include nb tc in
theorem ok_rows_near (F : FnD M "rows_near" (topS 41) ["table", "places"]) (f1 : FK M "changed" 1 ["places", "i", "j", "place"] (chArgs M) (fun i => dD M.K (plD (chg i.1.1 i.1.2.1 i.1.2.2.1 i.1.2.2.2)))) (f2 : FK M "cells_of" 1 ["table", "places"] (coArgs M CT) (fun i => dD M.K (ceT (cellsL (bk i.1.1.back) i.1.2))))
    (f3 : FK M "are_let" 2 ["table", "cells"] (alArgs M CT) (fun i => dD M.K (.bool (letAll i.1.1.masks i.1.2)))) : FK M "rows_near" 3 ["table", "places"] (swArgs M CT) (fun i => oLn M.K ((nearS i.1.1 i.1.2).map plD)) := by
  refine fk (N := ["table", "places", "found", "many", "i", "row", "j", "old", "place", "rows"]) F sc_rows_near (fun _ => rfl) ?_
  rintro X rfl B hr ⟨⟨T, pl⟩, hs⟩ G vs hv
  obtain ⟨v, w, rfl⟩ := len2 hv
  simp only at hs
  have ht := hs.tri
  have h12 := ht.sz
  have hsz := sizeLine_eq
  have hok := hs.t.ok
  have hn5 := hok.hi
  have hu := B.un
  have hnl := nearL_le ht hn5
  let n := T.back.length
  let E1 : List Pl → Ev := fun L => [some (.fz (isTb X.K CT T)), some (dD X.K (plD pl)), some (oLn X.K (L.map plD)), some (dD X.K (nD n)), none, none, none, none, none, none]
  refine dss_go (env1 := E1 []) (ds_par2 B 2 3 (da_cons (de_lstD dad_nil) (da_cons (de_eq (de_nc B (nc_b (cd_lenT (ds := sDs T.ways)) nb.len) (da_cons (de_t0 (de_fld (de_name B 0) tc.cl tc.nw) rfl) da_nil) (.inl rfl)) (B := dD X.K (nD n)) (by rw [sDs, List.length_map, hok.len]; rfl)) da_nil))) ?_
  let f1' : Nat × List Nat → List Pl := fun q => (en q.2).flatMap fun r => ((List.range n).filter fun p => !decide (p = r.2)).map fun p => chg pl q.1 r.1 p
  let F1 : Nat → List Pl := fun t => ((en pl).take t).flatMap f1'
  refine dss_go (env1 := E1 (nearL n pl)) (ds_forN B (di_eT' pl rwD B (de_name B 1) rfl nb.enumerate) (fun t => E1 (F1 t)) (Wk.refl _) (fun t P hP => ?_) (by
    show NX _ (.nx (E1 (F1 _)))
    have : F1 ((en pl).map fun q => isD X.K (.tuple [nD q.1, rwD q.2])).length = nearL n pl := by
      show ((en pl).take _).flatMap _ = _
      rw [List.length_map, List.take_length]; rfl
    rw [this]; rfl)) ?_
  · rw [List.getElem?_map, Option.map_eq_some_iff] at hP
    obtain ⟨⟨i, row⟩, hq, rfl⟩ := hP
    obtain ⟨hrow, hi⟩ := en_get hq
    simp only at hrow hi
    subst hi
    have hil : i < pl.length := (List.getElem?_eq_some_iff.mp hrow).1
    have hgd : pl.getD i [] = row := by rw [List.getD_eq_getElem?_getD, hrow]; rfl
    have hrl := ht.row (List.mem_of_getElem? hrow)
    have hF : F1 (i + 1) = F1 i ++ f1' (i, row) := by
      show ((en pl).take (i + 1)).flatMap _ = _
      rw [take_succ_f hq, List.flatMap_append]; simp [F1]
    have hFl : (F1 (i + 1)).length ≤ 720 := Nat.le_trans (flat_take_le f1' (en pl) (i + 1)) hnl
    let E2 : List Pl → Ev := fun L => [some (.fz (isTb X.K CT T)), some (dD X.K (plD pl)), some (oLn X.K (L.map plD)), some (dD X.K (nD n)), some (dD X.K (nD i)), some (dD X.K (rwD row)), none, none, none, none]
    refine ⟨_, E2 (F1 i), dg_tup B (ds := [nD i, rwD row]) (dgs_cons (dg_name B 4) (dgs_cons (dg_name B 5) dgs_nil)), dss_end ?_⟩
    let g2 : Nat × Nat → List Pl := fun r => ((List.range n).filter fun p => !decide (p = r.2)).map fun p => chg pl i r.1 p
    let F2 : Nat → List Pl := fun j => F1 i ++ ((en row).take j).flatMap g2
    refine ds_forN (Pt := LpW (E1 (F1 (i + 1))) _) B (di_eT' row nD B (de_name B 5) rfl nb.enumerate) (fun j => E2 (F2 j)) (by
      have : F2 0 = F1 i := by simp [F2]
      rw [this]; exact Wk.refl _) (fun j P hP => ?_) ?_
    · rw [List.getElem?_map, Option.map_eq_some_iff] at hP
      obtain ⟨⟨j', old⟩, hq2, rfl⟩ := hP
      obtain ⟨hp, hj⟩ := en_get hq2
      simp only at hp hj
      subst hj
      have hjr : j' < row.length := (List.getElem?_eq_some_iff.mp hp).1
      have hF2 : F2 (j' + 1) = F2 j' ++ g2 (j', old) := by
        show F1 i ++ ((en row).take (j' + 1)).flatMap g2 = _
        rw [take_succ_f hq2, List.flatMap_append, ← List.append_assoc]; simp [F2]
      have hF2l : (F2 (j' + 1)).length ≤ 720 := by
        have h1 := flat_take_le g2 (en row) (j' + 1)
        have h2 : (F1 (i + 1)).length = (F1 i).length + ((en row).flatMap g2).length := by rw [hF, List.length_append]
        have h3 : (F2 (j' + 1)).length = (F1 i).length + (((en row).take (j' + 1)).flatMap g2).length := by rw [List.length_append]
        omega
      let E3 : List Pl → Ev := fun L => [some (.fz (isTb X.K CT T)), some (dD X.K (plD pl)), some (oLn X.K (L.map plD)), some (dD X.K (nD n)), some (dD X.K (nD i)), some (dD X.K (rwD row)), some (dD X.K (nD j')), some (dD X.K (nD old)), none, none]
      refine ⟨_, E3 (F2 j'), dg_tup B (ds := [nD j', nD old]) (dgs_cons (dg_name B 6) (dgs_cons (dg_name B 7) dgs_nil)), dss_end ?_⟩
      refine ds_last (env1 := E3 (F2 (j' + 1))) (ds_expr (de_wk (de_extend (ds := (F2 j').map plD) (ds2 := (g2 (j', old)).map plD) B 2 (de_lcr (lc1 8 (List.range n) (fun p => isD X.K (.int (p : Nat))) (fun p => !decide (p = old)) (fun p => plD (chg pl i j' p)) B ⟨by decide +kernel, by decide +kernel, by decide +kernel, by decide +kernel, by decide +kernel⟩ (di_rn B (de_name B 3) nb.range (by omega)) (by rw [List.length_range]; omega) rfl fun s0 H0 C cl fp B' p hp' => ⟨dts_one (dt_eq (dt_cmp (de_name B' 8) (de_name B' 7) (opd_neI (p : Nat) (old : Nat) hr.units)) ?_), fun _ => ?_⟩)) ?_ (hz := ?_)) ?_)) ?_
      · congr 1
        exact decide_eq_decide.mpr (by omega)
      · exact ⟨_, rfl, de_nc B' (nk (X := BY X s0 H0 _ C cl fp) f1 hr ⟨(pl, i, j', p), hil, by rw [hgd]; exact hjr, h12, by rw [hgd]; omega⟩) (da_cons (de_name B' 1) (da_cons (de_name B' 4) (da_cons (de_name B' 6) (da_cons (de_name B' 8) da_nil)))) (.inl rfl)⟩
      · show isD X.K (.list (((List.range n).filter fun p => !decide (p = old)).map fun p => plD (chg pl i j' p))) = isD X.K (.list ((g2 (j', old)).map plD))
        rw [List.map_map]; rfl
      · have := hF2l
        rw [hF2, List.length_append] at this
        rw [List.length_map, List.length_map]; omega
      · have e5 : (F2 (j' + 1)).map plD = (F2 j').map plD ++ (g2 (j', old)).map plD := by rw [hF2, List.map_append]
        refine Drop.wk ?_
        show Drop _ [some (.fz (isTb X.K CT T)), some (dD X.K (plD pl)), some (oLn X.K ((F2 (j' + 1)).map plD)), some (dD X.K (nD n)), some (dD X.K (nD i)), some (dD X.K (rwD row)), some (dD X.K (nD j')), some (dD X.K (nD old)), none, none]
        rw [e5]
        repeat (first | exact Drop.nil | apply Drop.keep | apply Drop.skip)
      · refine Drop.wk ?_
        repeat (first | exact Drop.nil | apply Drop.keep | apply Drop.skip)
    · show Wk (E2 (F2 _)) (E1 (F1 (i + 1)))
      have e4 : F2 ((en row).map fun q => isD X.K (.tuple [nD q.1, nD q.2])).length = F1 (i + 1) := by
        rw [hF]
        show F1 i ++ ((en row).take _).flatMap _ = _
        rw [List.length_map, List.take_length]
      rw [e4]
      refine Drop.wk ?_
      repeat (first | exact Drop.nil | apply Drop.keep | apply Drop.skip)
  have hall : ∀ c ∈ (nearL n pl).filter (fun c => letAll T.masks c), c ∈ nearL n pl := fun c hc => (List.mem_filter.mp hc).1
  obtain ⟨s1, s2, s3⟩ := sort_pl ((nearL n pl).filter fun c => letAll T.masks c) fun c hc => (nearL_tri ht (hall c hc)).2.2
  have cd := cd_sorted (X := X) hu s1 s2 s3
  rw [sortD_map] at cd
  refine dss_end (ds_ret (de_nc B (nc_b cd nb.sorted) (da_cons (de_lcr (lc1 9 (nearL n pl) (fun c => isD X.K (plD c)) (fun c => letAll T.masks c) plD B ⟨by decide +kernel, by decide +kernel, by decide +kernel, by decide +kernel, by decide +kernel⟩ (di_ldm (nearL n pl) plD (de_move B 2) rfl) (show (nearL T.back.length pl).length ≤ sizeLine by omega) rfl fun s0 H0 C cl fp B' c hc => ?_)) da_nil) (.inl rfl)) ⟨rfl, trivial⟩)
  have htc := (nearL_tri ht hc).1
  exact ⟨dts_one (dt_val (de_nc B' (nk (X := BY X s0 H0 _ C cl fp) f3 hr ⟨(T, c), htc, hs.t.sq⟩) (da_cons (de_name B' 0) (da_cons (de_nc B' (nk (X := BY X s0 H0 _ C cl fp) f2 hr ⟨(T, c), ⟨htc⟩⟩) (da_cons (de_name B' 0) (da_cons (de_name B' 9) da_nil)) (.inl rfl)) da_nil)) (.inl rfl))), fun _ => ⟨_, rfl, de_name B' 9⟩⟩
end
end K7

set_option maxHeartbeats 4000000
namespace K7
open PySem PySem.Spec PyProof.Rows L2 DL Hd
/-- an own list of scenes -/
abbrev oSs (K : PySem.W.Frag) (CT CS : Addr) (T : Tab) (L : List Pl) : As := (oA (L.map fun c => As.fz (isSc K CT CS T c))).at none
theorem mem_nearS {T : Tab} {pl c : Pl} (h : c ∈ nearS T pl) : c ∈ nearL T.back.length pl ∧ letAll T.masks c = true := by
  rw [nearS, mem_srt, List.mem_filter] at h
  exact h
theorem nearS_ok {T : Tab} {pl c : Pl} (hs : SOk T pl) (h : c ∈ nearS T pl) : SOk T c ∧ c.length = pl.length := by
  have h1 := nearL_tri hs.tri (mem_nearS h).1
  exact ⟨⟨hs.t, h1.1⟩, h1.2.1⟩
theorem nearS_le {T : Tab} {pl : Pl} (hs : SOk T pl) : (nearS T pl).length ≤ 720 := by
  rw [nearS, srt, List.length_mergeSort]
  exact Nat.le_trans (List.length_filter_le _ _) (nearL_le hs.tri hs.t.ok.hi)
/-! ### the search -/
abbrev Fd := List (Pl × Option Pl)
def visit (here : Pl) (s : Fd × List Pl) (c : Pl) : Fd × List Pl := if c ∈ s.1.map (·.1) then s else (s.1 ++ [(c, some here)], s.2 ++ [c])
def turnF (T : Tab) (s : Fd × List Pl) (here : Pl) : Fd × List Pl := (nearS T here).foldl (visit here) s
def levelF (T : Tab) (fd : Fd) (fresh : List Pl) : Fd × List Pl := fresh.foldl (turnF T) (fd, [])
def rwK (row : List Nat) : NK := .tup (row.map fun n => .num (n : Nat))
def plK (pl : Pl) : List NK := pl.map rwK
theorem datas_map {α : Type} (f : α → NK) : ∀ l : List α, NestedKey.datas (l.map f) = l.map fun a => (f a).data
  | [] => rfl
  | a :: l => by
    show (f a).data :: NestedKey.datas (l.map f) = _
    rw [datas_map f l]; rfl
theorem rwK_data (row : List Nat) : (rwK row).data = rwD row := by
  show PyData.tuple (NestedKey.datas _) = _
  rw [datas_map]; rfl
theorem plK_data (pl : Pl) : PyData.tuple (NestedKey.datas (plK pl)) = plD pl := by
  rw [plK, datas_map]
  show PyData.tuple _ = PyData.tuple _
  congr 1
  exact List.map_congr_left fun r _ => rwK_data r
theorem num_inj {a b : List Nat} (h : (a.map fun n => NestedKey.num (n : Nat)) = b.map fun n => NestedKey.num (n : Nat)) : a = b := by
  induction a generalizing b with
  | nil => cases b with | nil => rfl | cons _ _ => cases h
  | cons x a ih =>
    cases b with
    | nil => cases h
    | cons y b =>
      simp only [List.map_cons, List.cons.injEq, NestedKey.num.injEq] at h
      rw [ih h.2]
      congr 1
      omega
theorem plK_inj {a b : Pl} (h : plK a = plK b) : a = b := by
  induction a generalizing b with
  | nil => cases b with | nil => rfl | cons _ _ => cases h
  | cons x a ih =>
    cases b with
    | nil => cases h
    | cons y b =>
      simp only [plK, List.map_cons, List.cons.injEq, rwK, NestedKey.tup.injEq] at h
      rw [ih h.2, num_inj h.1]
theorem depth_leaf : ∀ row : List Nat, NestedKey.depthAll (row.map fun n => NestedKey.num (n : Nat)) = 0
  | [] => rfl
  | n :: row => by
    show max 0 (NestedKey.depthAll _) = 0
    rw [depth_leaf row]; rfl
theorem depth_pl (pl : Pl) : (NestedKey.tup (plK pl)).depth ≤ 8 := by
  show NestedKey.depthAll (plK pl) + 1 ≤ 8
  have : NestedKey.depthAll (plK pl) ≤ 1 := by
    induction pl with
    | nil => show 0 ≤ 1; omega
    | cons r pl ih =>
      show max (NestedKey.depthAll _ + 1) (NestedKey.depthAll (plK pl)) ≤ 1
      rw [depth_leaf]
      omega
  omega
def optD : Option Pl → PyData
  | none => .none
  | some h => plD h
def fdT (fd : Fd) : Tb := fd.map fun p => (.tup (plK p.1), optD p.2)
def getF (fd : Fd) (c : Pl) : Option (Option Pl) := (fd.find? fun p => decide (p.1 = c)).map (·.2)
theorem getL_fd (fd : Fd) (c : Pl) : getL (fdT fd) (.tup (plK c)) = (getF fd c).map optD := by
  induction fd with
  | nil => rfl
  | cons p fd ih =>
    unfold getL getF fdT at ih ⊢
    rw [List.map_cons, List.find?_cons, List.find?_cons]
    by_cases h : p.1 = c
    · subst h; simp
    · have h' : ¬ NestedKey.tup (plK p.1) = .tup (plK c) := fun e => h (plK_inj (by simpa using e))
      simp only [h, h', decide_false]
      exact ih
theorem getF_some (fd : Fd) (c : Pl) : (getF fd c).isSome = decide (c ∈ fd.map (·.1)) := by
  induction fd with
  | nil => rfl
  | cons p fd ih =>
    unfold getF at ih ⊢
    rw [List.find?_cons]
    by_cases h : p.1 = c
    · subst h; simp
    · simp only [h, decide_false]
      rw [ih]
      have : c ≠ p.1 := fun e => h e.symm
      simp [this]
theorem getL_some (fd : Fd) (c : Pl) : (getL (fdT fd) (.tup (plK c))).isSome = decide (c ∈ fd.map (·.1)) := by
  rw [getL_fd, Option.isSome_map, getF_some]
theorem putL_new (fd : Fd) (c : Pl) (h : Option Pl) (hn : c ∉ fd.map (·.1)) : putL (fdT fd) (.tup (plK c)) (optD h) = fdT (fd ++ [(c, h)]) := by
  unfold putL
  rw [getL_some, if_neg (by simpa using hn), fdT, fdT, List.map_append]; rfl
/-! all of one form -/
def rowsA (n : Nat) : Nat → List (List Nat)
  | 0 => [[]]
  | k + 1 => (rowsA n k).flatMap fun r => (List.range n).map fun x => r ++ [x]
def allP (n : Nat) : Nat → List Pl
  | 0 => [[]]
  | k + 1 => (allP n k).flatMap fun pl => (rowsA n k).map fun r => pl ++ [r]
theorem snoc_of {α : Type} {k : Nat} {l : List α} (h : l.length = k + 1) : ∃ (m : List α) (a : α), l = m ++ [a] ∧ m.length = k := by
  have hne : l ≠ [] := fun e => by rw [e] at h; cases h
  exact ⟨l.dropLast, l.getLast hne, (List.dropLast_concat_getLast hne).symm, by rw [List.length_dropLast, h]; rfl⟩
theorem mem_rowsA {n : Nat} : ∀ {k : Nat} {row : List Nat}, row.length = k → (∀ x ∈ row, x < n) → row ∈ rowsA n k
  | 0, row, h, _ => by rw [List.eq_nil_of_length_eq_zero h]; simp [rowsA]
  | k + 1, row, h, hx => by
    obtain ⟨m, a, rfl, hm⟩ := snoc_of h
    simp only [rowsA, List.mem_flatMap, List.mem_map, List.mem_range]
    exact ⟨m, mem_rowsA hm fun x hx' => hx x (by simp [hx']), a, hx a (by simp), rfl⟩
theorem mem_allP {n : Nat} : ∀ {k : Nat} {pl : Pl}, pl.length = k → Tri n pl → pl ∈ allP n k
  | 0, pl, h, _ => by rw [List.eq_nil_of_length_eq_zero h]; simp [allP]
  | k + 1, pl, h, ht => by
    obtain ⟨m, a, rfl, hm⟩ := snoc_of h
    simp only [allP, List.mem_flatMap, List.mem_map]
    refine ⟨m, mem_allP hm ⟨fun i row hi => ht.len i row (by rw [List.getElem?_append_left (List.getElem?_eq_some_iff.mp hi).1]; exact hi), fun row hr => ht.lt row (by simp [hr]), by have := ht.sz; simp at this; omega⟩, a, mem_rowsA ?_ (ht.lt a (by simp)), rfl⟩
    have := ht.len m.length a (by simp)
    omega
theorem nodup_le {α : Type} [DecidableEq α] : ∀ {l m : List α}, l.Nodup → (∀ a ∈ l, a ∈ m) → l.length ≤ m.length
  | [], m, _, _ => Nat.zero_le _
  | a :: l, m, hn, hs => by
    rw [List.nodup_cons] at hn
    have h1 : a ∈ m := hs a List.mem_cons_self
    have h2 := nodup_le (l := l) (m := m.erase a) hn.2 fun b hb => (List.mem_erase_of_ne (fun (e : b = a) => hn.1 (by rw [← e]; exact hb))).mpr (hs b (List.mem_cons_of_mem _ hb))
    rw [List.length_erase_of_mem h1] at h2
    have : 0 < m.length := List.length_pos_of_mem h1
    rw [List.length_cons]; omega
/-- how the search stands -/
structure FdOk (T : Tab) (k : Nat) (fd : Fd) : Prop where
  nd : (fd.map (·.1)).Nodup
  mem : ∀ c ∈ fd.map (·.1), SOk T c ∧ c.length = k
structure BfOk (T : Tab) (k : Nat) (s : Fd × List Pl) : Prop where
  fd : FdOk T k s.1
  fr : ∀ c ∈ s.2, c ∈ s.1.map (·.1)
theorem FdOk.le {T : Tab} {k : Nat} {fd : Fd} (h : FdOk T k fd) : fd.length ≤ (allP T.back.length k).length := by
  have := nodup_le h.nd fun c hc => mem_allP (h.mem c hc).2 (h.mem c hc).1.tri
  rwa [List.length_map] at this
theorem visit_ok {T : Tab} {k : Nat} {here c : Pl} {s : Fd × List Pl} (h : BfOk T k s) (hc : SOk T c ∧ c.length = k) : BfOk T k (visit here s c) := by
  unfold visit
  split
  · exact h
  · rename_i hn
    refine ⟨⟨?_, fun d hd => ?_⟩, fun d hd => ?_⟩
    · simp only [List.map_append, List.map_cons, List.map_nil]
      rw [List.nodup_append]
      exact ⟨h.fd.nd, by simp, fun a ha b hb e => hn (by simp only [List.mem_singleton] at hb; rw [← hb, ← e]; exact ha)⟩
    · simp only [List.map_append, List.map_cons, List.map_nil, List.mem_append, List.mem_singleton] at hd
      rcases hd with hd | rfl
      · exact h.fd.mem d hd
      · exact hc
    · simp only [List.mem_append, List.mem_singleton] at hd
      simp only [List.map_append, List.map_cons, List.map_nil, List.mem_append, List.mem_singleton]
      rcases hd with hd | rfl
      · exact .inl (h.fr d hd)
      · exact .inr rfl
theorem visits_ok {T : Tab} {k : Nat} {here : Pl} : ∀ (l : List Pl) (s : Fd × List Pl), BfOk T k s → (∀ c ∈ l, SOk T c ∧ c.length = k) → BfOk T k (l.foldl (visit here) s)
  | [], _, h, _ => h
  | c :: l, s, h, hl => visits_ok l _ (visit_ok h (hl c List.mem_cons_self)) fun d hd => hl d (List.mem_cons_of_mem _ hd)
theorem turn_ok {T : Tab} {k : Nat} {here : Pl} {s : Fd × List Pl} (h : BfOk T k s) (hh : SOk T here ∧ here.length = k) : BfOk T k (turnF T s here) :=
  visits_ok _ _ h fun c hc => let z := nearS_ok hh.1 hc; ⟨z.1, z.2.trans hh.2⟩
theorem turns_ok {T : Tab} {k : Nat} : ∀ (l : List Pl) (s : Fd × List Pl), BfOk T k s → (∀ c ∈ l, SOk T c ∧ c.length = k) → BfOk T k (l.foldl (turnF T) s)
  | [], _, h, _ => h
  | c :: l, s, h, hl => turns_ok l _ (turn_ok h (hl c List.mem_cons_self)) fun d hd => hl d (List.mem_cons_of_mem _ hd)
/-- what a search gathers at a level is what it adds -/
theorem visits_len {here : Pl} : ∀ (l : List Pl) (s : Fd × List Pl), (l.foldl (visit here) s).1.length + s.2.length = s.1.length + (l.foldl (visit here) s).2.length
  | [], s => rfl
  | c :: l, s => by
    have h := visits_len (here := here) l (visit here s c)
    have h2 : (visit here s c).1.length + s.2.length = s.1.length + (visit here s c).2.length := by
      unfold visit
      split
      · rfl
      · simp; omega
    show ((l.foldl (visit here) (visit here s c))).1.length + _ = _ + (l.foldl (visit here) (visit here s c)).2.length
    omega
theorem turns_len {T : Tab} : ∀ (l : List Pl) (s : Fd × List Pl), (l.foldl (turnF T) s).1.length + s.2.length = s.1.length + (l.foldl (turnF T) s).2.length
  | [], s => rfl
  | c :: l, s => by
    have h := turns_len (T := T) l (turnF T s c)
    have h2 := visits_len (here := c) (nearS T c) s
    show (l.foldl (turnF T) (turnF T s c)).1.length + _ = _ + (l.foldl (turnF T) (turnF T s c)).2.length
    have e : turnF T s c = (nearS T c).foldl (visit c) s := rfl
    rw [← e] at h2
    omega
end K7

set_option maxHeartbeats 4000000
namespace K7
open PySem PySem.Spec PyProof.Rows L2 DL Hd
/-! ### level by level -/
def bfs (T : Tab) : Nat → Fd × List Pl → Fd
  | 0, s => s.1
  | n + 1, s => if s.2 = [] then s.1 else bfs T n (levelF T s.1 s.2)
def msr (T : Tab) (k : Nat) (s : Fd × List Pl) : Nat := 2 * ((allP T.back.length k).length - s.1.length) + (if s.2 = [] then 0 else 1)
def ledF (T : Tab) (pl : Pl) : Fd := bfs T (msr T pl.length ([(pl, none)], [pl])) ([(pl, none)], [pl])
theorem level_ok {T : Tab} {k : Nat} {s : Fd × List Pl} (h : BfOk T k s) : BfOk T k (levelF T s.1 s.2) :=
  turns_ok s.2 (s.1, []) ⟨h.fd, fun _ z => (by cases z)⟩ fun c hc => h.fd.mem c (h.fr c hc)
theorem level_msr {T : Tab} {k : Nat} {s : Fd × List Pl} (h : BfOk T k s) (hs : s.2 ≠ []) : msr T k (levelF T s.1 s.2) < msr T k s := by
  have h1 := (level_ok h).fd.le
  have h2 : (levelF T s.1 s.2).1.length + 0 = s.1.length + (levelF T s.1 s.2).2.length := turns_len s.2 (s.1, [])
  have h3 := h.fd.le
  unfold msr
  rw [if_neg hs]
  by_cases e : (levelF T s.1 s.2).2 = []
  · rw [if_pos e]
    rw [e] at h2
    simp at h2
    omega
  · rw [if_neg e]
    have := List.length_pos_iff.mpr e
    omega
theorem bf_init {T : Tab} {pl : Pl} (h : SOk T pl) : BfOk T pl.length ([(pl, none)], [pl]) :=
  ⟨⟨by simp, fun c hc => by simp at hc; subst hc; exact ⟨h, rfl⟩⟩, fun c hc => by simpa using hc⟩
theorem eqv_nil (L : List PyData) : PyData.eqv (.list L) (.list []) = decide (L = []) := by
  cases L with
  | nil => simp [PyData.eqv, PyData.eqvAll]
  | cons a L => simp [PyData.eqv, PyData.eqvAll]
section
variable {M : Md} (nb : NoB M.mg) {CT CS : Addr} (tc : TbF M.K CT) (sc : ScF M.K CS)
theorem sc_neighbours : FnScope ["scene", "rows"] ["scene"] (defScope (topS 42)) := ⟨rfl, rfl, rfl, by decide +kernel, rfl, by decide +kernel, by decide +kernel⟩
include sc in
theorem ok_neighbours (F : FnD M "neighbours" (topS 42) ["scene"]) (f1 : FK M "rows_near" 3 ["table", "places"] (swArgs M CT) (fun i => oLn M.K ((nearS i.1.1 i.1.2).map plD))) (f2 : FK M "scene_with" 5 ["table", "places"] (swArgs M CT) (fun i => .fz (isSc M.K CT CS i.1.1 i.1.2))) :
    FK M "neighbours" 6 ["scene"] (srArgs M CT CS) (fun i => oSs M.K CT CS i.1.1 (nearS i.1.1 i.1.2)) := by
  refine fk (N := ["scene", "rows"]) F sc_neighbours (fun _ => rfl) ?_
  rintro X rfl B hr ⟨⟨T, pl⟩, hs⟩ G vs hv
  obtain ⟨v, rfl⟩ := len1 hv
  simp only at hs
  have hsz := sizeLine_eq
  have hle := nearS_le hs
  refine dss_end (ds_ret (de_lcr (lc1An 1 (nearS T pl) (fun c => isD X.K (plD c)) (fun c => .fz (isSc X.K CT CS T c)) B ⟨by decide +kernel, by decide +kernel, by decide +kernel, by decide +kernel, by decide +kernel⟩ (di_ldm (nearS T pl) plD (de_nc B (nk f1 hr ⟨(T, pl), hs⟩) (da_cons (de_fld (de_name B 0) sc.cl sc.nt) (da_cons (de_fld (de_name B 0) sc.cl sc.np) da_nil)) (.inl rfl)) rfl) (by omega) rfl fun s0 H0 C cl fp B' c hc => ?_)) ⟨rfl, trivial⟩)
  exact de_nc B' (nk (X := BY X s0 H0 _ C cl fp) f2 hr ⟨(T, c), (nearS_ok hs hc).1⟩) (da_cons (de_fld (de_name B' 0) sc.cl sc.nt) (da_cons (de_name B' 1) da_nil)) (.inl rfl)
theorem sc_led_from : FnScope ["table", "places", "found", "fresh", "further", "here", "there"] ["table", "places"] (defScope (topS 44)) := ⟨rfl, rfl, rfl, by decide +kernel, rfl, by decide +kernel, by decide +kernel⟩
structure LfOk (T : Tab) (pl : Pl) : Prop where
  s : SOk T pl
  few : (allP T.back.length pl.length).length ≤ 1000000
abbrev lfArgs (M : Md) (CT : Addr) : { i : Tab × Pl // LfOk i.1 i.2 } → List DL.Arg := fun i => [.z (isTb M.K CT i.1.1), .z (isD M.K (plD i.1.2))]
theorem ok_led_from (F : FnD M "led_from" (topS 44) ["table", "places"]) (f1 : FK M "rows_near" 3 ["table", "places"] (swArgs M CT) (fun i => oLn M.K ((nearS i.1.1 i.1.2).map plD))) : FK M "led_from" 4 ["table", "places"] (lfArgs M CT) (fun i => .fz (isX M.P M.w M.K (fdT (ledF i.1.1 i.1.2)))) := by
  refine fk (N := ["table", "places", "found", "fresh", "further", "here", "there"]) F sc_led_from (fun _ => rfl) ?_
  rintro X rfl B hr ⟨⟨T, pl⟩, hs, hfew⟩ G vs hv
  obtain ⟨v, w, rfl⟩ := len2 hv
  simp only at hs hfew
  have hsz := sizeLine_eq
  have hu := B.un
  let k := pl.length
  let Ow (s : Fd × List Pl) : Ev := [some (.fz (isTb X.K CT T)), some (dD X.K (plD pl)), some ((oDc X.prog X.w X.K (fdT s.1)).at none), some (oLn X.K (s.2.map plD)), none, none, none]
  refine dss_go (env1 := Ow ([(pl, none)], [pl])) (ds_par2 B 2 3 (da_cons (de_disp1 (ks := plK pl) (d := .none) hu (de_name B 1) (by rw [plK_data]; rfl) de_non rfl (depth_pl pl)) (da_cons (de_lstD (dad_cons (de_name B 1) rfl dad_nil)) da_nil))) ?_
  let R := ledF T pl
  refine dss_go (env1 := Ow (R, [])) (ds_whileN (α := Fd × List Pl) B (msr T k) Ow (fun s => BfOk T k s ∧ ∃ n, msr T k s ≤ n ∧ bfs T n s = R) ([(pl, none)], [pl]) ⟨bf_init hs, _, Nat.le_refl _, rfl⟩ (Wk.refl _) (fun s hI => ?_)) ?_
  · obtain ⟨hb, n, hn, hR⟩ := hI
    refine ⟨!decide (s.2 = []), Ow s, dt_thaw (fun G' => dt_eq (dt_cmp (de_name B 3) (de_lstD dad_nil) (opd_ne (d := .list (s.2.map plD)) (d' := .list []) hr.units ((shp_l fun c _ => shp_pl c).ok (by omega)) (by decide +kernel))) ?_), fun hk => ?_, fun hk => ?_⟩
    · rw [eqv_nil]
      congr 1
      exact decide_eq_decide.mpr (by simp)
    · have hne : s.2 ≠ [] := by simpa using hk
      have hmsr := level_msr hb hne
      refine ⟨levelF T s.1 s.2, hmsr, ⟨level_ok hb, ?_⟩, ?_⟩
      · cases n with
        | zero =>
          unfold msr at hn
          rw [if_neg hne] at hn
          omega
        | succ n =>
          refine ⟨n, by omega, ?_⟩
          have e : bfs T (n + 1) s = bfs T n (levelF T s.1 s.2) := by
            show (if s.2 = [] then _ else _) = _
            rw [if_neg hne]
          rw [← e]; exact hR
      · let O2 (a : Fd × List Pl) : Ev := [some (.fz (isTb X.K CT T)), some (dD X.K (plD pl)), some ((oDc X.prog X.w X.K (fdT a.1)).at none), some (oLn X.K (s.2.map plD)), some (oLn X.K (a.2.map plD)), none, none]
        let O3 (a : Fd × List Pl) : Ev := [some (.fz (isTb X.K CT T)), some (dD X.K (plD pl)), some ((oDc X.prog X.w X.K (fdT a.1)).at none), none, some (oLn X.K (a.2.map plD)), none, none]
        let F1 : Nat → Fd × List Pl := fun t => (s.2.take t).foldl (turnF T) (s.1, [])
        have hF1 : ∀ t, BfOk T k (F1 t) := fun t => turns_ok _ _ ⟨hb.fd, fun _ z => (by cases z)⟩ fun c hc => hb.fd.mem c (hb.fr c (List.mem_of_mem_take hc))
        refine dss_go (env1 := O2 (s.1, [])) (ds_set B 4 (de_lstD dad_nil)) ?_
        refine dss_go (env1 := O3 (levelF T s.1 s.2)) (ds_forN B (di_ldm s.2 plD (de_move B 3) rfl) (fun t => O3 (F1 t)) (Wk.refl _) (fun t P hP => ?_) (by
          show NX _ (.nx (O3 (F1 _)))
          have : F1 (s.2.map fun a => isD X.K (plD a)).length = levelF T s.1 s.2 := by
            show (s.2.take _).foldl _ _ = _
            rw [List.length_map, List.take_length]; rfl
          rw [this]; rfl)) (dss_end (ds_last (ds_set B 3 (de_move B 4)) ?_))
        · rw [List.getElem?_map, Option.map_eq_some_iff] at hP
          obtain ⟨here, hh, rfl⟩ := hP
          have hhm := List.mem_of_getElem? hh
          have hok := hb.fd.mem here (hb.fr here hhm)
          have hF : F1 (t + 1) = (nearS T here).foldl (visit here) (F1 t) := by
            show (s.2.take (t + 1)).foldl _ _ = _
            rw [take_succ_f hh, List.foldl_append]; rfl
          let O4 (a : Fd × List Pl) : Ev := [some (.fz (isTb X.K CT T)), some (dD X.K (plD pl)), some ((oDc X.prog X.w X.K (fdT a.1)).at none), none, some (oLn X.K (a.2.map plD)), some (dD X.K (plD here)), none]
          let O5 (a : Fd × List Pl) (c : Pl) : Ev := [some (.fz (isTb X.K CT T)), some (dD X.K (plD pl)), some ((oDc X.prog X.w X.K (fdT a.1)).at none), none, some (oLn X.K (a.2.map plD)), some (dD X.K (plD here)), some (dD X.K (plD c))]
          refine ⟨_, O4 (F1 t), dg_name B 5, dss_end ?_⟩
          let F2 : Nat → Fd × List Pl := fun j => ((nearS T here).take j).foldl (visit here) (F1 t)
          have hF2 : ∀ j, BfOk T k (F2 j) := fun j => visits_ok _ _ (hF1 t) fun c hc => let z := nearS_ok hok.1 (List.mem_of_mem_take hc); ⟨z.1, z.2.trans hok.2⟩
          refine ds_forN (Pt := LpW (O3 (F1 (t + 1))) _) B (di_ldm (nearS T here) plD (de_nc B (nk f1 hr ⟨(T, here), hok.1⟩) (da_cons (de_name B 0) (da_cons (de_name B 5) da_nil)) (.inl rfl)) rfl) (fun j => O4 (F2 j)) (Wk.refl _) (fun j P hP => ?_) ?_
          · rw [List.getElem?_map, Option.map_eq_some_iff] at hP
            obtain ⟨c, hc, rfl⟩ := hP
            have hcm := List.mem_of_getElem? hc
            have hstep : F2 (j + 1) = visit here (F2 j) c := by
              show ((nearS T here).take (j + 1)).foldl _ _ = _
              rw [take_succ_f hc, List.foldl_append]; rfl
            have hle := (hF2 j).fd.le
            have hlen : (fdT (F2 j).1).length < sizeLine := by
              rw [fdT, List.length_map]
              have : (allP T.back.length k).length ≤ 1000000 := hfew
              omega
            have hlen2 : ((F2 j).2.map plD).length < sizeLine := by
              have e1 := visits_len (here := here) ((nearS T here).take j) (F1 t)
              have e2 : (F1 t).1.length + 0 = s.1.length + (F1 t).2.length := turns_len (T := T) (s.2.take t) (s.1, [])
              have : (allP T.back.length k).length ≤ 1000000 := hfew
              have e3 : (F2 j).1.length + (F1 t).2.length = (F1 t).1.length + (F2 j).2.length := e1
              rw [List.length_map]
              omega
            refine ⟨_, O5 (F2 j) c, dg_name B 6, dss_end (ds_if (k := !decide (c ∈ (F2 j).1.map (·.1))) (dt_thaw (fun G' => dt_eq (dt_cmp (de_name B 6) (de_name B 2) (by
              rw [show As.fr (dD X.K (plD c)) = isD X.K (.tuple (NestedKey.datas (plK c))) by rw [plK_data]; rfl]
              exact opd_notInX hu (depth_pl c))) (by rw [getL_some]))) (fun hk => ?_) (fun hk => ?_))⟩
            · have hnm : c ∉ (F2 j).1.map (·.1) := by simpa using hk
              have hv : visit here (F2 j) c = ((F2 j).1 ++ [(c, some here)], (F2 j).2 ++ [c]) := by
                unfold visit
                rw [if_neg hnm]
              have e1 := putL_new (F2 j).1 c (some here) hnm
              refine dss_go (ds_asg (de_name B 5) (dg_setX (q := none) (L := fdT (F2 j).1) (ks := plK c) (d := plD here) B 2 rfl (de_name B 6) (by rw [plK_data]; rfl) (depth_pl c) hlen hu)) ?_
              rw [show putL (fdT (F2 j).1) (.tup (plK c)) (plD here) = fdT ((F2 j).1 ++ [(c, some here)]) from e1]
              refine dss_end (ds_last (ds_expr (de_append (q := none) (ds := (F2 j).2.map plD) (d := plD c) B 4 (de_name B 6) rfl (hz := hlen2))) ?_)
              have e5 : (F2 j).2.map plD ++ [plD c] = (F2 (j + 1)).2.map plD := by rw [hstep, hv, List.map_append]; rfl
              have e6 : (F2 j).1 ++ [(c, some here)] = (F2 (j + 1)).1 := by rw [hstep, hv]
              rw [e5, e6]
              refine Drop.wk ?_
              repeat (first | exact Drop.nil | apply Drop.keep | apply Drop.skip)
            · have hm : c ∈ (F2 j).1.map (·.1) := by simpa using hk
              have hv : visit here (F2 j) c = F2 j := by
                unfold visit
                rw [if_pos hm]
              refine dss_nil ?_
              show Wk (O5 (F2 j) c) (O4 (F2 (j + 1)))
              rw [hstep, hv]
              refine Drop.wk ?_
              repeat (first | exact Drop.nil | apply Drop.keep | apply Drop.skip)
          · show Wk (O4 (F2 _)) (O3 (F1 (t + 1)))
            have e4 : F2 ((nearS T here).map fun a => isD X.K (plD a)).length = F1 (t + 1) := by
              rw [hF]
              show ((nearS T here).take _).foldl _ _ = _
              rw [List.length_map, List.take_length]
            rw [e4]
            refine Drop.wk ?_
            repeat (first | exact Drop.nil | apply Drop.keep | apply Drop.skip)
        · refine Drop.wk ?_
          repeat (first | exact Drop.nil | apply Drop.keep | apply Drop.skip)
    · have he : s.2 = [] := by simpa using hk
      have e : R = s.1 := by
        rw [← hR]
        cases n with
        | zero => rfl
        | succ n =>
          show (if s.2 = [] then _ else _) = _
          rw [if_pos he]
      have e2 : Ow s = Ow (R, []) := by
        obtain ⟨s1, s2⟩ := s
        simp only at he e
        subst he
        rw [e]
      show NX _ (.nx (Ow s))
      rw [e2]; rfl
  · exact dss_end (ds_ret (de_frz (A := (oDc X.prog X.w X.K (fdT R)).at none) (de_move B 2)) ⟨rfl, trivial⟩)
end
end K7

set_option maxHeartbeats 4000000
namespace K7
open PySem PySem.Spec PyProof.Rows L2 DL Hd
/-! ### the rows that lead back -/
abbrev keysF (fd : Fd) : List Pl := fd.map (·.1)
def RankOk (fd : Fd) : Prop := ∀ c h, getF fd c = some (some h) → h ∈ keysF fd ∧ (keysF fd).idxOf h < (keysF fd).idxOf c
theorem getF_app (fd : Fd) (c d : Pl) (o : Option Pl) (hn : c ∉ keysF fd) : getF (fd ++ [(c, o)]) d = if d = c then some o else getF fd d := by
  unfold getF
  rw [List.find?_append]
  by_cases h : d = c
  · subst h
    rw [if_pos rfl]
    have : fd.find? (fun p => decide (p.1 = d)) = none := List.find?_eq_none.mpr fun p hp => by
      simp only [decide_eq_true_eq]
      exact fun e => hn (List.mem_map.mpr ⟨p, hp, e⟩)
    rw [this]; simp
  · rw [if_neg h]
    have : [(c, o)].find? (fun p : Pl × Option Pl => decide (p.1 = d)) = none := by
      simp
      exact fun e => h e.symm
    rw [this, Option.or_none]
theorem getF_mem {fd : Fd} {c : Pl} {o : Option Pl} (h : getF fd c = some o) : c ∈ keysF fd := by
  have := getF_some fd c
  rw [h] at this
  simpa using this
theorem rank_visit {here c : Pl} {s : Fd × List Pl} (h : RankOk s.1) (hh : here ∈ keysF s.1) : RankOk (visit here s c).1 := by
  unfold visit
  split
  · exact h
  · rename_i hn
    intro d g hd
    simp only at hd
    rw [getF_app _ _ _ _ hn] at hd
    have ek : keysF (s.1 ++ [(c, some here)]) = keysF s.1 ++ [c] := by simp [keysF]
    show g ∈ keysF (s.1 ++ [(c, some here)]) ∧ (keysF (s.1 ++ [(c, some here)])).idxOf g < (keysF (s.1 ++ [(c, some here)])).idxOf d
    rw [ek]
    by_cases e : d = c
    · subst e
      rw [if_pos rfl] at hd
      cases hd
      refine ⟨by simp [hh], ?_⟩
      rw [List.idxOf_append, if_pos hh, List.idxOf_append, if_neg hn]
      have := List.idxOf_lt_length_of_mem hh
      omega
    · rw [if_neg e] at hd
      obtain ⟨h1, h2⟩ := h d g hd
      have hdm : d ∈ keysF s.1 := getF_mem hd
      refine ⟨by simp [h1], ?_⟩
      rw [List.idxOf_append, if_pos h1, List.idxOf_append, if_pos hdm]
      exact h2
theorem keys_visit {here c d : Pl} {s : Fd × List Pl} (h : d ∈ keysF s.1) : d ∈ keysF (visit here s c).1 := by
  unfold visit
  split
  · exact h
  · simp only [keysF, List.map_append, List.mem_append]
    exact .inl h
theorem rank_visits {here : Pl} : ∀ (l : List Pl) (s : Fd × List Pl), RankOk s.1 → here ∈ keysF s.1 → RankOk (l.foldl (visit here) s).1 ∧ ∀ d, d ∈ keysF s.1 → d ∈ keysF (l.foldl (visit here) s).1
  | [], s, h, _ => ⟨h, fun _ z => z⟩
  | c :: l, s, h, hh => by
    obtain ⟨h1, h2⟩ := rank_visits l (visit here s c) (rank_visit h hh) (keys_visit hh)
    exact ⟨h1, fun d hd => h2 d (keys_visit hd)⟩
theorem rank_turns {T : Tab} : ∀ (l : List Pl) (s : Fd × List Pl), RankOk s.1 → (∀ c ∈ l, c ∈ keysF s.1) → RankOk (l.foldl (turnF T) s).1 ∧ ∀ d, d ∈ keysF s.1 → d ∈ keysF (l.foldl (turnF T) s).1
  | [], s, h, _ => ⟨h, fun _ z => z⟩
  | c :: l, s, h, hl => by
    obtain ⟨h1, h2⟩ := rank_visits (here := c) (nearS T c) s h (hl c List.mem_cons_self)
    obtain ⟨h3, h4⟩ := rank_turns l (turnF T s c) h1 fun d hd => h2 d (hl d (List.mem_cons_of_mem _ hd))
    exact ⟨h3, fun d hd => h4 d (h2 d hd)⟩
theorem bfs_ok {T : Tab} {k : Nat} : ∀ (n : Nat) (s : Fd × List Pl), BfOk T k s → RankOk s.1 → FdOk T k (bfs T n s) ∧ RankOk (bfs T n s)
  | 0, s, h, r => ⟨h.fd, r⟩
  | n + 1, s, h, r => by
    unfold bfs
    split
    · exact ⟨h.fd, r⟩
    · exact bfs_ok n _ (level_ok h) (rank_turns s.2 (s.1, []) r h.fr).1
theorem ledF_ok {T : Tab} {pl : Pl} (h : SOk T pl) : FdOk T pl.length (ledF T pl) ∧ RankOk (ledF T pl) :=
  bfs_ok _ _ (bf_init h) fun c g hc => by
    unfold getF at hc
    rw [List.find?_cons] at hc
    by_cases e : pl = c
    · simp [e] at hc
    · simp [e] at hc
def rankO (fd : Fd) : Option Pl → Nat
  | none => 0
  | some c => (keysF fd).idxOf c + 1
def pathN (fd : Fd) : Nat → Option Pl → List Pl
  | 0, _ => []
  | _ + 1, none => []
  | n + 1, some c => c :: pathN fd n ((getF fd c).getD none)
theorem pathN_more {fd : Fd} (h : RankOk fd) : ∀ (n m : Nat) (o : Option Pl), rankO fd o ≤ n → rankO fd o ≤ m → pathN fd n o = pathN fd m o
  | 0, 0, _, _, _ => rfl
  | 0, m + 1, none, _, _ => rfl
  | 0, m + 1, some c, hn, _ => by simp [rankO] at hn
  | n + 1, 0, none, _, _ => rfl
  | n + 1, 0, some c, _, hm => by simp [rankO] at hm
  | n + 1, m + 1, none, _, _ => rfl
  | n + 1, m + 1, some c, hn, hm => by
    show c :: _ = c :: _
    congr 1
    have hr : rankO fd ((getF fd c).getD none) ≤ (keysF fd).idxOf c := by
      cases e : getF fd c with
      | none => simp [rankO]
      | some o =>
        cases o with
        | none => simp [rankO]
        | some g =>
          have := (h c g e).2
          show (keysF fd).idxOf g + 1 ≤ _
          omega
    simp only [rankO] at hn hm
    exact pathN_more h n m _ (by omega) (by omega)
def pathF (fd : Fd) (goal : Pl) : List Pl := pathN fd (rankO fd (some goal)) (some goal)
def stepsF (T : Tab) (pl goal : Pl) : Option (List Pl) := if goal ∈ keysF (ledF T pl) then some (pathF (ledF T pl) goal).reverse else none
end K7

set_option maxHeartbeats 4000000
namespace K7
open PySem PySem.Spec PyProof.Rows L2 DL Hd
theorem pathN_len (fd : Fd) : ∀ (n : Nat) (o : Option Pl), (pathN fd n o).length ≤ n
  | 0, _ => Nat.le_refl _
  | n + 1, none => by simp [pathN]
  | n + 1, some c => by
    have := pathN_len fd n ((getF fd c).getD none)
    show (c :: _).length ≤ n + 1
    rw [List.length_cons]; omega
theorem optD_none (o : Option Pl) : (match optD o with | .none => true | _ => false) = o.isNone := by
  cases o with
  | none => rfl
  | some c => rfl
/-- how == and != of a class are asked -/
structure EqF (K : PySem.W.Frag) (C f : Addr) : Prop where
  eq : PySem.W.findIn K (.ref C) "__eq__" = some (some (.ref f))
  fn : PySem.W.isFn K (.ref f) = true
  ne : PySem.W.findIn K (.ref C) "__ne__" = some (some (.builtin "object.__ne__"))
  mo : PySem.W.mroIn K C (.type "object") = some true
structure LnF (K : PySem.W.Frag) (C f : Addr) : Prop where
  ln : PySem.W.findIn K (.ref C) "__len__" = some (some (.ref f))
  fn : PySem.W.isFn K (.ref f) = true
section
variable {X : Cx} {CT CS : Addr} {f : Addr} {k m : Nat}
theorem opd_eqTb (F : FM (mdOf X) f k ["self", "other"] (teArgs (mdOf X) CT) (fun i => dD X.K (.bool (tabEq i.1.1 i.1.2)))) (e : EqF X.K CT f) (hr : Room m X.A) {T T' : Tab} (h1 : TabS T) (h2 : TabS T') (h : k ≤ m := by omega) : OpD X (compareOp .Eq) (isTb X.K CT T) (isTb X.K CT T') (dD X.K (.bool (tabEq T T'))) := by
  obtain ⟨fd, hb, F⟩ := F
  exact opd_own (c := tabEq T T') (g := id) (op_eqO F e.eq e.fn hb (hr.mono h)) (⟨(T, T'), h1, h2⟩ : { i : Tab × Tab // TabS i.1 ∧ TabS i.2 }) rfl rfl isIns_I isIns_I
theorem opd_neTb (F : FM (mdOf X) f k ["self", "other"] (teArgs (mdOf X) CT) (fun i => dD X.K (.bool (tabEq i.1.1 i.1.2)))) (e : EqF X.K CT f) (hr : Room m X.A) {T T' : Tab} (h1 : TabS T) (h2 : TabS T') (h : k + 1 ≤ m := by omega) : OpD X (compareOp .NotEq) (isTb X.K CT T) (isTb X.K CT T') (dD X.K (.bool (!tabEq T T'))) := by
  obtain ⟨fd, hb, F⟩ := F
  exact opd_own (c := tabEq T T') (g := fun b => !b) (op_neO F e.eq e.fn e.ne e.mo hb (hr.mono h)) (⟨(T, T'), h1, h2⟩ : { i : Tab × Tab // TabS i.1 ∧ TabS i.2 }) rfl rfl isIns_I isIns_I
theorem cd_lenSc (F : FM (mdOf X) f k ["self"] (slArgs (mdOf X) CT CS) (fun i => dD X.K (nD i.2.length))) (e : LnF X.K CS f) (hr : Room m X.A) (T : Tab) (pl : Pl) (hz : pl.length < 2 ^ 62) (h : k + 1 ≤ m := by omega) : CallD X (.builtin "len") [.fz (isSc X.K CT CS T pl)] [.fz (isSc X.K CT CS T pl)] (dD X.K (nD pl.length)) := by
  obtain ⟨fd, hb, F⟩ := F
  exact cd_lenO F e.ln e.fn hb (hr.mono h) ((T, pl) : Tab × Pl) rfl rfl isIns_I hz
end
section
variable {M : Md} (nb : NoB M.mg) {CT CS : Addr} (tc : TbF M.K CT) (sc : ScF M.K CS) (si : InsF M.K CS)
theorem sc_check_other : FnScope ["one", "other"] ["one", "other"] (defScope (topS 43)) := ⟨rfl, rfl, rfl, by decide +kernel, rfl, by decide +kernel, by decide +kernel⟩
structure CkOk (T : Tab) (pl : Pl) (T' : Tab) (pl' : Pl) : Prop where
  s : SOk T pl
  s' : SOk T' pl'
  t : TabS T
  t' : TabS T'
  e : tabEq T' T = true
  l : pl'.length = pl.length
abbrev ckArgs (M : Md) (CT CS : Addr) : { i : (Tab × Pl) × Tab × Pl // CkOk i.1.1 i.1.2 i.2.1 i.2.2 } → List DL.Arg := fun i => [.z (isSc M.K CT CS i.1.1.1 i.1.1.2), .z (isSc M.K CT CS i.1.2.1 i.1.2.2)]
include nb sc si in
theorem ok_check_other {fe fl : Addr} (F : FnD M "check_other" (topS 43) ["one", "other"]) (hS : M.mg "Scene" = some (.ref CS)) (f1 : FM M fe 1 ["self", "other"] (teArgs M CT) (fun i => dD M.K (.bool (tabEq i.1.1 i.1.2)))) (e1 : EqF M.K CT fe) (f2 : FM M fl 1 ["self"] (slArgs M CT CS) (fun i => dD M.K (nD i.2.length))) (e2 : LnF M.K CS fl) :
    FK M "check_other" 3 ["one", "other"] (ckArgs M CT CS) (fun _ => dD M.K .none) := by
  refine fk (N := ["one", "other"]) F sc_check_other (fun _ => rfl) ?_
  rintro X rfl B hr ⟨⟨⟨T, pl⟩, T', pl'⟩, hs, hs', t1, t2, he, hl⟩ G vs hv
  obtain ⟨v, w, rfl⟩ := len2 hv
  simp only at hs hs' t1 t2 he hl
  have z1 := hs.tri.sz
  have z2 := hs'.tri.sz
  let E0 : Ev := [some (.fz (isSc X.K CT CS T pl)), some (.fz (isSc X.K CT CS T' pl'))]
  refine dss_if (env1 := E0) (k := false) (dt_eq (dt_w (dw_or (dt_not (dt_val (de_nc B (nc_b (cd_isi si.ty (.own CS) (kit_refl _ (by simp))) nb.isinstance) (da_cons (de_name B 1) (da_cons (de_glob (v := .ref CS) (P := isV (.ref CS)) B hS rfl (fun _ => rfl)) da_nil)) (.inl rfl)))) fun _ => dw_or (dt_cmp (de_fld (de_name B 1) sc.cl sc.nt) (de_fld (de_name B 0) sc.cl sc.nt) (opd_neTb f1 e1 hr t2 t1)) fun _ => dw_or1 (dt_cmp (de_nc B (nc_b (cd_lenSc f2 e2 hr T' pl' (by omega)) nb.len) (da_cons (de_name B 1) da_nil) (.inl rfl)) (de_nc B (nc_b (cd_lenSc f2 e2 hr T pl (by omega)) nb.len) (da_cons (de_name B 0) da_nil) (.inl rfl)) (opd_neI _ _ hr.units)))) ?_) (fun h => (nomatch h)) (fun _ => ?_)
  · rw [he, hl]; simp
  · exact dss_nil ⟨fun HF => ⟨rfl, Dp.non⟩, trivial⟩
theorem sc_steps : FnScope ["one", "other", "ways", "here", "found"] ["one", "other"] (defScope (topS 45)) := ⟨rfl, rfl, rfl, by decide +kernel, rfl, by decide +kernel, by decide +kernel⟩
structure StOk (T : Tab) (pl : Pl) (T' : Tab) (pl' : Pl) : Prop where
  ck : CkOk T pl T' pl'
  few : (allP T.back.length pl.length).length ≤ 1000000
abbrev stArgs (M : Md) (CT CS : Addr) : { i : (Tab × Pl) × Tab × Pl // StOk i.1.1 i.1.2 i.2.1 i.2.2 } → List DL.Arg := fun i => [.z (isSc M.K CT CS i.1.1.1 i.1.1.2), .z (isSc M.K CT CS i.1.2.1 i.1.2.2)]
def optSs (K : PySem.W.Frag) (CT CS : Addr) (T : Tab) : Option (List Pl) → As
  | none => dD K .none
  | some L => oSs K CT CS T L
include sc in
theorem ok_steps (F : FnD M "steps" (topS 45) ["one", "other"]) (f1 : FK M "check_other" 3 ["one", "other"] (ckArgs M CT CS) (fun _ => dD M.K .none)) (f2 : FK M "led_from" 4 ["table", "places"] (lfArgs M CT) (fun i => .fz (isX M.P M.w M.K (fdT (ledF i.1.1 i.1.2))))) (f3 : FK M "scene_with" 5 ["table", "places"] (swArgs M CT) (fun i => .fz (isSc M.K CT CS i.1.1 i.1.2))) :
    FK M "steps" 6 ["one", "other"] (stArgs M CT CS) (fun i => optSs M.K CT CS i.1.1.1 (stepsF i.1.1.1 i.1.1.2 i.1.2.2)) := by
  refine fk (N := ["one", "other", "ways", "here", "found"]) F sc_steps (fun _ => rfl) ?_
  rintro X rfl B hr ⟨⟨⟨T, pl⟩, T', goal⟩, hck, hfew⟩ G vs hv
  obtain ⟨v, w, rfl⟩ := len2 hv
  simp only at hck hfew
  have hsz := sizeLine_eq
  have hu := B.un
  have hs := hck.s
  obtain ⟨hfd, hrk⟩ := ledF_ok hs
  let E0 : Ev := [some (.fz (isSc X.K CT CS T pl)), some (.fz (isSc X.K CT CS T' goal)), none, none, none]
  refine dss_go (env1 := E0) (ds_expr (de_nc B (nk f1 hr ⟨((T, pl), T', goal), hck⟩) (da_cons (de_name B 0) (da_cons (de_name B 1) da_nil)) (.inl rfl))) ?_
  let E1 (a : Option Pl × List Pl) : Ev := [some (.fz (isSc X.K CT CS T pl)), some (.fz (isSc X.K CT CS T' goal)), some (.fz (isX X.prog X.w X.K (fdT (ledF T pl)))), some (dD X.K (optD a.1)), some (oSs X.K CT CS T a.2)]
  refine dss_go (env1 := E1 (some goal, [])) (ds_par3 B 2 3 4 (da_cons (de_nc B (nk f2 hr ⟨(T, pl), hs, hfew⟩) (da_cons (de_fld (de_name B 0) sc.cl sc.nt) (da_cons (de_fld (de_name B 0) sc.cl sc.np) da_nil)) (.inl rfl)) (da_cons (de_fld (de_name B 1) sc.cl sc.np) (da_cons (de_say (B := oSs X.K CT CS T []) (de_lstD dad_nil) (fun HF v o hp => ?_)) da_nil)))) ?_
  · obtain ⟨hq, a, xs, e1, e2, e3⟩ := hp
    cases e3
    exact ⟨hq, a, [], [], e1, e2, rfl, .nil⟩
  have hin : ∀ c, OpD X (compareOp .NotIn) (dD X.K (plD c)).fr (isX X.prog X.w X.K (fdT (ledF T pl))) (dD X.K (.bool (!decide (c ∈ keysF (ledF T pl))))) := fun c => by
    have h := opd_notInX (X := X) (L := fdT (ledF T pl)) (ks := plK c) hu (depth_pl c)
    rw [getL_some, plK_data] at h
    exact h
  refine dss_if (env1 := E1 (some goal, [])) (k := !decide (goal ∈ keysF (ledF T pl))) (dt_cmp (de_name (P := isD X.K (plD goal)) B 3) (de_name B 2) (hin goal)) (fun h => ?_) (fun h => ?_)
  · have hn : goal ∉ keysF (ledF T pl) := by simpa using h
    have e : stepsF T pl goal = none := by unfold stepsF; rw [if_neg hn]
    refine dss_end (ds_ret (A := dD X.K .none) de_non ⟨⟨?_, trivial⟩, fun _ z => (nomatch z)⟩)
    show _ = optSs _ _ _ _ (stepsF T pl goal)
    rw [e]; rfl
  · have hm : goal ∈ keysF (ledF T pl) := by simpa using h
    have e : stepsF T pl goal = some (pathF (ledF T pl) goal).reverse := by unfold stepsF; rw [if_pos hm]
    have hfl : (ledF T pl).length ≤ 1000000 := Nat.le_trans hfd.le hfew
    have hpl : (pathF (ledF T pl) goal).length ≤ 1000000 := by
      refine Nat.le_trans (pathN_len (ledF T pl) _ _) ?_
      show (keysF (ledF T pl)).idxOf goal + 1 ≤ _
      have h1 := List.idxOf_lt_length_of_mem hm
      rw [List.length_map] at h1
      have : (ledF T pl).length ≤ 1000000 := hfl
      omega
    refine dss_go (env1 := E1 (none, pathF (ledF T pl) goal)) (ds_whileN (α := Option Pl × List Pl) B (fun a => rankO (ledF T pl) a.1) E1 (fun a => (∀ c, a.1 = some c → c ∈ keysF (ledF T pl)) ∧ a.2 ++ pathN (ledF T pl) (rankO (ledF T pl) a.1) a.1 = pathF (ledF T pl) goal) (some goal, []) ⟨fun c hc => by cases hc; exact hm, rfl⟩ (Wk.refl _) (fun a hI => ?_)) ?_
    · obtain ⟨hk, hp⟩ := hI
      refine ⟨!(a.1.isNone), E1 a, dt_eq (dt_notN (de_name B 3) (nonB_d (optD a.1))) (by obtain ⟨o, L⟩ := a; cases o <;> rfl), fun hc => ?_, fun hc => ?_⟩
      · obtain ⟨o, L⟩ := a
        cases o with
        | none => cases hc
        | some c =>
          have hcm : c ∈ keysF (ledF T pl) := hk c rfl
          obtain ⟨o', ho'⟩ : ∃ o', getF (ledF T pl) c = some o' := by
            have := getF_some (ledF T pl) c
            rw [decide_eq_true hcm] at this
            exact Option.isSome_iff_exists.mp this
          have hlt : rankO (ledF T pl) o' < rankO (ledF T pl) (some c) := by
            cases o' with
            | none => show 0 < _ + 1; omega
            | some g =>
              have := (hrk c g ho').2
              show (keysF (ledF T pl)).idxOf g + 1 < (keysF (ledF T pl)).idxOf c + 1
              omega
          refine ⟨(o', L ++ [c]), hlt, ⟨fun d hd => ?_, ?_⟩, ?_⟩
          · simp only at hd
            subst hd
            exact (hrk c d ho').1
          · have e1 : pathN (ledF T pl) (rankO (ledF T pl) (some c)) (some c) = c :: pathN (ledF T pl) ((keysF (ledF T pl)).idxOf c) ((getF (ledF T pl) c).getD none) := rfl
            simp only at hp ⊢
            rw [e1, ho'] at hp
            rw [List.append_assoc, ← hp]
            show L ++ (c :: pathN (ledF T pl) (rankO (ledF T pl) o') o') = L ++ (c :: pathN (ledF T pl) ((keysF (ledF T pl)).idxOf c) o')
            rw [pathN_more hrk (rankO (ledF T pl) o') ((keysF (ledF T pl)).idxOf c) o' (Nat.le_refl _) (by simp only [rankO] at hlt ⊢; omega)]
          · have hL : L.length ≤ 1000000 := by
              have := congrArg List.length hp
              rw [List.length_append] at this
              show L.length ≤ 1000000
              simp only at this
              omega
            refine dss_go (ds_expr (de_appendA (q := none) (L := L.map fun d => As.fz (isSc X.K CT CS T d)) B 4 (de_nc B (nk f3 hr ⟨(T, c), (hfd.mem c hcm).1⟩) (da_cons (de_fld (de_name B 0) sc.cl sc.nt) (da_cons (de_name (P := isD X.K (plD c)) B 3) da_nil)) (.inl rfl)) (hz := by rw [List.length_map]; omega))) ?_
            refine dss_end (ds_last (ds_set B 3 (de_getX (d := optD o') (ks := plK c) (L := fdT (ledF T pl)) (de_name B 2) rfl (de_name (P := isD X.K (plD c)) B 3) (by rw [plK_data]; rfl) hu (depth_pl c) (by rw [getL_fd, ho']; rfl))) ?_)
            have e5 : (L.map fun d => As.fz (isSc X.K CT CS T d)) ++ [As.fz (isSc X.K CT CS T c)] = (L ++ [c]).map fun d => As.fz (isSc X.K CT CS T d) := by rw [List.map_append]; rfl
            show Wk [some (.fz (isSc X.K CT CS T pl)), some (.fz (isSc X.K CT CS T' goal)), some (.fz (isX X.prog X.w X.K (fdT (ledF T pl)))), some (dD X.K (optD o')), some ((oA ((L.map fun d => As.fz (isSc X.K CT CS T d)) ++ [As.fz (isSc X.K CT CS T c)])).at none)] (E1 (o', L ++ [c]))
            rw [e5]
            exact Wk.refl _
      · obtain ⟨o, L⟩ := a
        cases o with
        | some c => cases hc
        | none =>
          simp only at hp
          have e6 : L = pathF (ledF T pl) goal := by rw [← hp]; simp [pathN, rankO]
          rw [e6]; rfl
    · refine dss_end (ds_ret (de_revL (Ps := (pathF (ledF T pl) goal).map fun d => isSc X.K CT CS T d) (A := oSs X.K CT CS T (pathF (ledF T pl) goal)) (de_move B 4) (by
        show isL (((pathF (ledF T pl) goal).map fun d => As.fz (isSc X.K CT CS T d)).map As.fr) = _
        rw [List.map_map]; rfl)) ⟨?_, trivial⟩)
      show _ = optSs _ _ _ _ (stepsF T pl goal)
      rw [e, ← List.map_reverse, List.map_map]; rfl
end
end K7

set_option maxHeartbeats 4000000
namespace DL
open PySem PySem.Spec PyProof.Rows L2
section
variable {X : Cx} {G : Reg} {env env1 : Ev} {a : Expr} {pos : Pos}
theorem de_neg {m : Int} (h : DE X G env a env1 (dD X.K (.int m))) : DE X G env (.UnaryOp .USub a pos) env1 (dD X.K (.int (-m))) :=
  de_of (pe_un un_neg cE_pe) fun T σ H hs Q q => h T σ H hs _ fun v H' h1 => by
    obtain ⟨HF, o, o1, k1, k2, ⟨_, k3⟩, _⟩ := h1.freeze.top
    have e := dpI k3
    subst e
    exact ⟨m, rfl, q _ H' (h1.pop.push (isD_int (i := -m)))⟩
end
end DL
namespace K7
open PySem PySem.Spec PyProof.Rows L2 DL Hd
section
variable {M : Md} (nb : NoB M.mg)
theorem sc__law_key : FnScope ["rows", "row"] ["rows"] (defScope (topS 68)) := ⟨rfl, rfl, rfl, by decide +kernel, rfl, by decide +kernel, by decide +kernel⟩
abbrev keyArgs (M : Md) : { pl : Pl // pl.length ≤ 12 } → List DL.Arg := fun i => [.z (isD M.K (plL i.1))]
include nb in
theorem ok__law_key (F : FnD M "_law_key" (topS 68) ["rows"]) : FK M "_law_key" 1 ["rows"] (keyArgs M) (fun i => dD M.K (plD i.1)) := by
  refine fk (N := ["rows", "row"]) F sc__law_key (fun _ => rfl) ?_
  rintro X rfl B hr ⟨pl, hz⟩ G vs hv
  obtain ⟨v, rfl⟩ := len1 hv
  have hsz := sizeLine_eq
  have hz : pl.length ≤ 12 := hz
  exact dss_end (ds_ret (de_nc B (nc_t (cd_tupleL (ds := pl.map rwD)) nb.tuple) (da_cons (de_lcr (lc1n 1 pl (fun row => isD X.K (lsD row)) rwD B ⟨by decide +kernel, by decide +kernel, by decide +kernel, by decide +kernel, by decide +kernel⟩ (di_ldm pl lsD (de_name B 0) rfl) (by omega) rfl fun s0 H0 C cl fp B' row hrow => ⟨_, rfl, de_nc B' (nc_t (cd_tupleL (ds := row.map nD)) nb.tuple) (da_cons (de_name B' 1) da_nil) (.inl rfl)⟩)) da_nil) (.inl rfl)) ⟨rfl, trivial⟩)
theorem sc__law_changed : FnScope ["rows", "i", "j", "place", "found", "row"] ["rows", "i", "j", "place"] (defScope (topS 64)) := ⟨rfl, rfl, rfl, by decide +kernel, rfl, by decide +kernel, by decide +kernel⟩
def rowsL (pl : Pl) : List (List PyData) := pl.map fun row => row.map nD
abbrev oP (K : PySem.W.Frag) (pl : Pl) : As := (oM K (rowsL pl)).at none
abbrev lchArgs (M : Md) : { i : Pl × Nat × Nat × Nat // ChOk i.1 i.2.1 i.2.2.1 } → List DL.Arg := fun i => [.z (isD M.K (plL i.1.1)), .z (isD M.K (nD i.1.2.1)), .z (isD M.K (nD i.1.2.2.1)), .z (isD M.K (nD i.1.2.2.2))]
theorem rowsL_set (pl : Pl) (i j p : Nat) : rowsL (chg pl i j p) = (rowsL pl).set i (((pl.getD i []).map nD).set j (nD p)) := by
  unfold rowsL chg
  rw [List.map_set, List.map_set]
theorem rowsL_at {pl : Pl} {i : Nat} (h : i < pl.length) : (rowsL pl)[i]? = some ((pl.getD i []).map nD) := by
  unfold rowsL
  rw [List.getElem?_map, List.getD_eq_getElem?_getD, List.getElem?_eq_getElem h]; rfl
include nb in
theorem ok__law_changed (F : FnD M "_law_changed" (topS 64) ["rows", "i", "j", "place"]) : FK M "_law_changed" 1 ["rows", "i", "j", "place"] (lchArgs M) (fun i => oP M.K (chg i.1.1 i.1.2.1 i.1.2.2.1 i.1.2.2.2)) := by
  refine fk (N := ["rows", "i", "j", "place", "found", "row"]) F sc__law_changed (fun _ => rfl) ?_
  rintro X rfl B hr ⟨⟨pl, i, j, p⟩, hi, hj, z1, z2⟩ G vs hv
  obtain ⟨v1, v2, v3, v4, rfl⟩ := len4 hv
  simp only at hi hj z1 z2
  have hsz := sizeLine_eq
  let E1 (c : Pl) : Ev := [some (dD X.K (plL pl)), some (dD X.K (nD i)), some (dD X.K (nD j)), some (dD X.K (nD p)), some (oP X.K c), none]
  refine dss_go (env1 := E1 pl) (ds_lcr B 4 (lcr_say (lc1An 5 pl (fun row => isD X.K (lsD row)) (fun row => oLn X.K (row.map nD)) B ⟨by decide +kernel, by decide +kernel, by decide +kernel, by decide +kernel, by decide +kernel⟩ (di_ldm pl lsD (de_name B 0) rfl) (by omega) rfl fun s0 H0 C cl fp B' row hrow => ?_) ?_)) ?_
  · exact de_nc B' (nc_t (cd_listL (ds := row.map nD)) nb.list) (da_cons (de_name B' 5) da_nil) (.inl rfl)
  · intro HF v o hp
    rw [oM_of] at hp
    exact hp
  have es : E1 (chg pl i j p) = [some (dD X.K (plL pl)), some (dD X.K (nD i)), some (dD X.K (nD j)), some (dD X.K (nD p)), some ((oM X.K ((rowsL pl).set i (((pl.getD i []).map nD).set j (nD p)))).at none), none] := by rw [← rowsL_set]
  refine dss_go (env1 := E1 (chg pl i j p)) (by rw [es]; exact ds_asg (env1 := E1 pl) (A := dD X.K (nD p)) (de_name B 3) (dg_setM (env := E1 pl) (rows := rowsL pl) (row := (pl.getD i []).map nD) (d := nD p) (m := (i : Nat)) (n := (j : Nat)) (k := i) (j := j) B 4 rfl (de_name B 1) (de_name B 2) (ixN_n (by simp [rowsL]; exact hi)) (rowsL_at hi) (ixN_n (by rw [List.length_map]; exact hj)) (hi := rfl))) ?_
  exact dss_end (ds_ret (de_move B 4) ⟨rfl, trivial⟩)
end
end K7

set_option maxHeartbeats 4000000
namespace K7
open PySem PySem.Spec PyProof.Rows L2 DL Hd
theorem en_at {α : Type} {xs : List α} {i : Nat} {a : α} (h : xs[i]? = some a) : (en xs)[i]? = some (i, a) := by
  unfold en
  rw [List.getElem?_mapIdx, h]; rfl
/-! ### the law's own world -/
structure Wo where
  names : List Str
  back : List Nat
  lots : List Tr
  lets : List Tr
def woL (P : Program) (w : World) (K : PySem.W.Frag) (W : Wo) : List (Str × FP) := [("names", isD K (.list (W.names.map .str))), ("back", isD K (.list (bD W.back))), ("lots", isD K (.list (W.lots.map tD))), ("lets", isX P w K (W.lets.map fT)), ("many", isD K (nD W.back.length))]
def isWo (P : Program) (w : World) (K : PySem.W.Frag) (W : Wo) : FP := isW (woL P w K W)
section
variable {M : Md} (nb : NoB M.mg)
theorem sc__law_six : FnScope ["back", "three", "r", "s", "t"] ["back", "three"] (defScope (topS 53)) := ⟨rfl, rfl, rfl, by decide +kernel, rfl, by decide +kernel, by decide +kernel⟩
abbrev sixArgs (M : Md) : { i : List Nat × Tr // trIn i.1.length i.2 } → List DL.Arg := fun i => [.z (isD M.K (.list (bD i.1.1))), .z (isD M.K (tD i.1.2))]
theorem ok__law_six (F : FnD M "_law_six" (topS 53) ["back", "three"]) : FK M "_law_six" 1 ["back", "three"] (sixArgs M) (fun i => oLn M.K ((six (bk i.1.1) i.1.2).map tD)) := by
  refine fk (N := ["back", "three", "r", "s", "t"]) F sc__law_six (fun _ => rfl) ?_
  rintro X rfl B hr ⟨⟨back, r, s, t⟩, h1, h2, h3⟩ G vs hv
  obtain ⟨v, w, rfl⟩ := len2 hv
  simp only at h1 h2 h3
  have g1 := ixd_l (X := X) (bD_get h1)
  have g2 := ixd_l (X := X) (bD_get h2)
  have g3 := ixd_l (X := X) (bD_get h3)
  refine dss_go (ds_asg (de_name B 1) (dg_tup B (ds := [nD r, nD s, nD t]) (dgs_cons (dg_name B 2) (dgs_cons (dg_name B 3) (dgs_cons (dg_name B 4) dgs_nil))))) ?_
  exact dss_end (ds_ret (de_lstD (dad_cons (de_tupD (dad_cons (de_name B 2) rfl (dad_cons (de_name B 3) rfl (dad_cons (de_name B 4) rfl dad_nil)))) rfl (dad_cons (de_tupD (dad_cons (de_ix (de_name B 0) (de_name B 2) g1) rfl (dad_cons (de_name B 4) rfl (dad_cons (de_name B 3) rfl dad_nil)))) rfl (dad_cons (de_tupD (dad_cons (de_name B 4) rfl (dad_cons (de_ix (de_name B 0) (de_name B 3) g2) rfl (dad_cons (de_name B 2) rfl dad_nil)))) rfl (dad_cons (de_tupD (dad_cons (de_ix (de_name B 0) (de_name B 3) g2) rfl (dad_cons (de_ix (de_name B 0) (de_name B 2) g1) rfl (dad_cons (de_ix (de_name B 0) (de_name B 4) g3) rfl dad_nil)))) rfl (dad_cons (de_tupD (dad_cons (de_ix (de_name B 0) (de_name B 4) g3) rfl (dad_cons (de_name B 2) rfl (dad_cons (de_ix (de_name B 0) (de_name B 3) g2) rfl dad_nil)))) rfl (dad_cons (de_tupD (dad_cons (de_name B 3) rfl (dad_cons (de_ix (de_name B 0) (de_name B 4) g3) rfl (dad_cons (de_ix (de_name B 0) (de_name B 2) g1) rfl dad_nil)))) rfl dad_nil))))))) ⟨rfl, trivial⟩)
theorem sc__law_cells : FnScope ["world", "rows", "cells", "row", "i", "j"] ["world", "rows"] (defScope (topS 59)) := ⟨rfl, rfl, rfl, by decide +kernel, rfl, by decide +kernel, by decide +kernel⟩
abbrev lceArgs (M : Md) : { i : Wo × Pl // Tri i.1.back.length i.2 } → List DL.Arg := fun i => [.z (isWo M.P M.w M.K i.1.1), .z (isD M.K (plL i.1.2))]
include nb in
theorem ok__law_cells (F : FnD M "_law_cells" (topS 59) ["world", "rows"]) : FK M "_law_cells" 1 ["world", "rows"] (lceArgs M) (fun i => (oM M.K (ceD (cellsL (bk i.1.1.back) i.1.2))).at none) := by
  refine fk (N := ["world", "rows", "cells", "row", "i", "j"]) F sc__law_cells (fun _ => rfl) ?_
  rintro X rfl B hr ⟨⟨W, pl⟩, ht⟩ G vs hv
  obtain ⟨v, w, rfl⟩ := len2 hv
  have ht : Tri W.back.length pl := ht
  have hsz := sizeLine_eq
  have hu := B.un
  have h12 := ht.sz
  have hlen : (pl.map lsD).length = pl.length := List.length_map _
  let E1 : Ce → Ev := fun C => [some (.fz (isWo X.prog X.w X.K W)), some (dD X.K (plL pl)), some ((oM X.K (ceD C)).at none), none, none, none]
  refine dss_go (env1 := E1 (negM pl.length)) (ds_lcr B 2 (lcr_say (lc1An 3 pl (fun row => isD X.K (lsD row)) (fun _ => oLn X.K (List.replicate pl.length (.int (-1)))) B ⟨by decide +kernel, by decide +kernel, by decide +kernel, by decide +kernel, by decide +kernel⟩ (di_ldm pl lsD (de_name B 1) rfl) (by omega) rfl fun s0 H0 C cl fp B' row hrow => ?_) ?_)) ?_
  · refine de_eq (de_bin (de_lstD (dad_cons (de_neg de_int) rfl dad_nil)) (de_eq (de_nc B' (nc_b (cd_lenL (ds := pl.map lsD)) nb.len) (da_cons (de_name B' 1) da_nil) (.inl rfl)) (by rw [hlen])) (opd_repL (ds := [.int (-1)]) (n := (pl.length : Nat)) (by omega) (by omega) (by simp; omega))) ?_
    simp [List.flatten_replicate_singleton]
  · intro HF v o hp
    rw [oM_of] at hp
    have e : pl.map (fun _ => List.replicate pl.length (PyData.int (-1))) = ceD (negM pl.length) := by
      simp [ceD, negM, List.map_map, Function.comp_def, List.map_const']
    rw [e] at hp
    exact hp
  let F1 : Nat → Ce := fun t => ((en pl).take t).foldl (rowStep (bk W.back)) (negM pl.length)
  have hsq : ∀ t, t ≤ pl.length → Sqc pl.length (F1 t) := fun t h => (rows_ (b := bk W.back) ht rfl t h).1
  refine dss_go (env1 := E1 (cellsL (bk W.back) pl)) (ds_forN B (di_rn B (de_eq (de_nc B (nc_b (cd_lenL (ds := pl.map lsD)) nb.len) (da_cons (de_name B 1) da_nil) (.inl rfl)) (by rw [hlen])) nb.range (by omega)) (fun t => E1 (F1 t)) (Wk.refl _) (fun t P hP => ?_) (by
    show NX _ (.nx (E1 (F1 _)))
    have : F1 ((List.range pl.length).map fun i => isD X.K (.int (i : Nat))).length = cellsL (bk W.back) pl := by
      show ((en pl).take _).foldl _ _ = _
      rw [List.length_map, List.length_range]
      have e := List.take_length (l := en pl)
      rw [en_len] at e
      rw [e]; rfl
    rw [this]; rfl)) ?_
  · rw [List.getElem?_map, Option.map_eq_some_iff] at hP
    obtain ⟨i, hq, rfl⟩ := hP
    obtain ⟨hi, hti⟩ := List.getElem?_eq_some_iff.mp hq
    rw [List.length_range] at hi
    rw [List.getElem_range] at hti
    subst hti
    have hil : t < pl.length := hi
    obtain ⟨hrl, hrm⟩ := tri_row ht hil
    have hrow : pl[t]? = some (pl.getD t []) := by rw [List.getD_eq_getElem?_getD, List.getElem?_eq_getElem hil]; rfl
    have hF : F1 (t + 1) = (en (pl.getD t [])).foldl (colStep (bk W.back) t) (F1 t) := by
      show ((en pl).take (t + 1)).foldl _ _ = _
      have hq' : (en pl)[t]? = some (t, pl.getD t []) := en_at hrow
      rw [take_succ_f hq', List.foldl_append]; rfl
    have hsi := hsq t (by omega)
    let E2 : Ce → Ev := fun C => [some (.fz (isWo X.prog X.w X.K W)), some (dD X.K (plL pl)), some ((oM X.K (ceD C)).at none), none, some (dD X.K (nD t)), none]
    refine ⟨_, E2 (F1 t), dg_name B 4, dss_end ?_⟩
    let F2 : Nat → Ce := fun j => ((en (pl.getD t [])).take j).foldl (colStep (bk W.back) t) (F1 t)
    have hsq2 : ∀ j, j ≤ (pl.getD t []).length → Sqc pl.length (F2 j) := fun j h => (cols (b := bk W.back) hsi hil hrl j h).1
    refine ds_forN (Pt := LpW (E1 (F1 (t + 1))) _) B (di_rn (n := t) B (de_name B 4) nb.range (by omega)) (fun j => E2 (F2 j)) (Wk.refl _) (fun j P hP => ?_) ?_
    · rw [List.getElem?_map, Option.map_eq_some_iff] at hP
      obtain ⟨j', hq2, rfl⟩ := hP
      obtain ⟨hj, hjt⟩ := List.getElem?_eq_some_iff.mp hq2
      rw [List.length_range] at hj
      rw [List.getElem_range] at hjt
      subst hjt
      have hjr : j < (pl.getD t []).length := by omega
      have hjl : j < pl.length := by omega
      have hp : (pl.getD t [])[j]? = some ((pl.getD t []).getD j 0) := by rw [List.getD_eq_getElem?_getD (l := pl.getD t []), List.getElem?_eq_getElem hjr]; rfl
      generalize hpe : (pl.getD t []).getD j 0 = p at hp
      have hpb : p < W.back.length := ht.lt _ hrm p (List.mem_of_getElem? hp)
      have hsj := hsq2 j (by omega)
      have hF2 : F2 (j + 1) = setC (setC (F2 j) t j p) j t (bk W.back p) := by
        show ((en (pl.getD t [])).take (j + 1)).foldl _ _ = _
        have hq' : (en (pl.getD t []))[j]? = some (j, p) := en_at hp
        rw [take_succ_f hq', List.foldl_append]; rfl
      have hsj2 : Sqc pl.length (setC (F2 j) t j p) := sqc_set hsj hil
      have g1 : atI (pl.map lsD) ((t : Nat) : Int) = some (lsD (pl.getD t [])) := atI_nat (by rw [List.getElem?_map, hrow]; rfl)
      have g2 : atI ((pl.getD t []).map nD) ((j : Nat) : Int) = some (nD p) := atI_nat (by rw [List.getElem?_map, hp]; rfl)
      refine ⟨_, _, dg_name B 5, dss_end ?_⟩
      refine ds_last (ds_tup (L := [dD X.K (nD p), dD X.K (nD (bk W.back p))]) B (da_cons (de_ix (de_ix (de_name B 1) (de_name B 4) (ixd_l g1)) (de_name B 5) (ixd_l g2)) (da_cons (de_ix (de_getW (de_name B 0) rfl (by omega)) (de_ix (de_ix (de_name B 1) (de_name B 4) (ixd_l g1)) (de_name B 5) (ixd_l g2)) (ixd_l (bk_in hpb))) da_nil)) (dga_cons (dg_setM (rows := ceD (F2 j)) (row := ((F2 j).getD t []).map .int) (d := nD p) (m := (t : Nat)) (n := (j : Nat)) (k := t) (j := j) B 2 rfl (de_name B 4) (de_name B 5) (ixN_n (by simp [ceD, hsj.len]; exact hil)) (ceD_row hsj hil) (ixN_n (by rw [List.length_map, (sqc_at hsj hil).2]; exact hjl)))
        (dga_cons (dg_setM (rows := ceD (setC (F2 j) t j p)) (row := ((setC (F2 j) t j p).getD j []).map .int) (d := nD (bk W.back p)) (m := (j : Nat)) (n := (t : Nat)) (k := j) (j := t) B 2 rfl (de_name B 5) (de_name B 4) (ixN_n (by simp [ceD, hsj2.len]; exact hjl)) (ceD_row hsj2 hjl) (ixN_n (by rw [List.length_map, (sqc_at hsj2 hjl).2]; exact hil)) (hi := by rw [ceD_set]; rfl)) dga_nil))) ?_
      have e3 : ceD (F2 (j + 1)) = (ceD (setC (F2 j) t j p)).set j ((((setC (F2 j) t j p).getD j []).map .int).set t (nD (bk W.back p))) := by rw [hF2, ceD_set]; rfl
      refine Drop.wk ?_
      show Drop _ [some (.fz (isWo X.prog X.w X.K W)), some (dD X.K (plL pl)), some ((oM X.K (ceD (F2 (j + 1)))).at none), none, some (dD X.K (nD t)), none]
      rw [e3]
      repeat (first | exact Drop.nil | apply Drop.keep | apply Drop.skip)
    · show Wk (E2 (F2 _)) (E1 (F1 (t + 1)))
      have e4 : F2 ((List.range t).map fun i => isD X.K (.int (i : Nat))).length = F1 (t + 1) := by
        rw [hF]
        show ((en (pl.getD t [])).take _).foldl _ _ = _
        rw [List.length_map, List.length_range]
        have e := List.take_length (l := en (pl.getD t []))
        rw [en_len, hrl] at e
        rw [e]
      rw [e4]
      refine Drop.wk ?_
      repeat (first | exact Drop.nil | apply Drop.keep | apply Drop.skip)
  exact dss_end (ds_ret (de_move B 2) ⟨rfl, trivial⟩)
end
end K7

set_option maxHeartbeats 4000000
namespace DL
open PySem PySem.Spec PyProof.Rows L2
section
variable {X : Cx} {N : List Str} {sc : Scope} {ok : Str → Bool} {G : Reg} {env env1 env2 : Ev} {pos : Pos} {Pt : Out → Prop}
/-- how a turn of a search ends: the slots then, and what is known then -/
def LpI (E' : Ev) (I' : Prop) (Pt : Out → Prop) : Out → Prop
  | .nx env => Wk env E' ∧ I'
  | .ct env => Wk env E' ∧ I'
  | .bk env => Pt (.nx env)
  | .rt env A => Pt (.rt env A)
/-- for, with what is known at each turn -/
theorem ds_forI {tg iter : Expr} {body : List Stmt} {its : List FP} (B : Bx true X N sc ok) (hI : DI true X G env tg iter env1 its) (E : Nat → Ev) (I : Nat → Prop) (i0 : I 0) (h0 : Wk env1 (E 0))
    (step : ∀ i P, its[i]? = some P → I i → ∃ ws env2, DGt X G (E i) (.fz P) tg ws env2 ∧ DSs X G env2 body (LpI (E (i + 1)) (I (i + 1)) Pt)) (done : I its.length → Pt (.nx (E its.length)))
    (hs : ∀ x, foldedSetIterable iter X.env x = pure x := by intro _; rfl) : DS X G env (.For tg iter body [] pos) Pt := by
  have hI' : DI true X G env tg iter (E 0) its := by
    obtain ⟨wi, h1, h2⟩ := hI
    exact ⟨wi, h1, fun T σ H hs R r => h2 T σ H hs R fun J H' tmp st wk => r J H' tmp (h0 _ _ _ _ st) wk⟩
  refine ds_for B hI' (fun i env' => env' = E i ∧ I i) ⟨rfl, i0⟩ (fun i P env' hP he => ?_) (fun env' he => by rw [he.1]; exact done he.2) hs
  obtain ⟨rfl, hi⟩ := he
  obtain ⟨ws, env2, hg, hb⟩ := step i P hP hi
  refine ⟨ws, env2, hg, fun T σ H st D d => hb T σ H st D ⟨fun env σ' H' p h => d.nx (E (i + 1)) σ' H' ⟨rfl, p.2⟩ (p.1 _ _ _ _ h), fun env A v σ' H' p h => d.rt env A v σ' H' p h, fun env σ' H' p h => d.bk env σ' H' p h, fun env σ' H' p h => d.ct (E (i + 1)) σ' H' ⟨rfl, p.2⟩ (p.1 _ _ _ _ h)⟩⟩
end
end DL

set_option maxHeartbeats 4000000
namespace K7
open PySem PySem.Spec PyProof.Rows L2 DL Hd
def hasL (W : Wo) (a : Nat) (c : Int) (b : Nat) : Bool := (getL (W.lets.map fT) (.tup [.num a, .num c, .num b])).isSome
def goesI (W : Wo) (C : Ce) (look : List Nat) (i : Nat) : Bool := (List.range i).all fun j => hasL W (look.getD i 0) (getC C i j) (look.getD j 0)
def goesB (W : Wo) (C : Ce) (look : List Nat) : Bool := (List.range look.length).all fun i => goesI W C look i
section
variable {M : Md} (nb : NoB M.mg)
theorem sc__law_goes : FnScope ["world", "cells", "look", "i", "j"] ["world", "cells", "look"] (defScope (topS 60)) := ⟨rfl, rfl, rfl, by decide +kernel, rfl, by decide +kernel, by decide +kernel⟩
structure GoOk (C : Ce) (look : List Nat) : Prop where
  sz : look.length ≤ 12
  row : ∀ i, i < look.length → ∃ row, C[i]? = some row ∧ i ≤ row.length
abbrev goArgs (M : Md) : { i : Wo × Ce × List Nat // GoOk i.2.1 i.2.2 } → List DL.Arg := fun i => [.z (isWo M.P M.w M.K i.1.1), .z (isD M.K (.list ((ceD i.1.2.1).map .list))), .z (isD M.K (lsD i.1.2.2))]
include nb in
theorem ok__law_goes (F : FnD M "_law_goes" (topS 60) ["world", "cells", "look"]) : FK M "_law_goes" 1 ["world", "cells", "look"] (goArgs M) (fun i => dD M.K (.bool (goesB i.1.1 i.1.2.1 i.1.2.2))) := by
  refine fk (N := ["world", "cells", "look", "i", "j"]) F sc__law_goes (fun _ => rfl) ?_
  rintro X rfl B hr ⟨⟨W, C, look⟩, hok⟩ G vs hv
  obtain ⟨v, w, u, rfl⟩ := len3 hv
  have hok : GoOk C look := hok
  have hsz := sizeLine_eq
  have hu := B.un
  have h12 := hok.sz
  have hlen : (look.map nD).length = look.length := List.length_map _
  let E0 : Ev := [some (.fz (isWo X.prog X.w X.K W)), some (dD X.K (.list ((ceD C).map .list))), some (dD X.K (lsD look)), none, none]
  let I0 : Nat → Prop := fun t => (List.range t).all (fun i => goesI W C look i) = true
  let Pt : Out → Prop := fun o => match o with
    | .nx e => e = E0 ∧ goesB W C look = true
    | .rt e A => Fin (goArgs (mdOf X) ⟨(W, C, look), hok⟩) (dD X.K (.bool (goesB W C look))) [v, w, u] (.rt e A)
    | _ => False
  refine dss_cons (P1 := Pt) (ds_forI B (di_rn B (de_eq (de_nc B (nc_b (cd_lenL (ds := look.map nD)) nb.len) (da_cons (de_name B 2) da_nil) (.inl rfl)) (by rw [hlen])) nb.range (by omega)) (fun _ => E0) I0 rfl (Wk.refl _) (fun t P hP hI => ?_) (fun hI => ⟨rfl, ?_⟩)) (fun e he => ?_) (fun _ _ z => z) (fun _ z => z.elim) (fun _ z => z.elim)
  · rw [List.getElem?_map, Option.map_eq_some_iff] at hP
    obtain ⟨i, hq, rfl⟩ := hP
    obtain ⟨hi, hti⟩ := List.getElem?_eq_some_iff.mp hq
    rw [List.length_range] at hi
    rw [List.getElem_range] at hti
    subst hti
    obtain ⟨row, hrow, hrl⟩ := hok.row t hi
    let E2 : Ev := [some (.fz (isWo X.prog X.w X.K W)), some (dD X.K (.list ((ceD C).map .list))), some (dD X.K (lsD look)), some (dD X.K (nD t)), none]
    let I2 : Nat → Prop := fun s => (List.range s).all (fun j => hasL W (look.getD t 0) (getC C t j) (look.getD j 0)) = true
    refine ⟨_, E2, dg_name B 3, dss_end (ds_forI B (di_rn (n := t) B (de_name B 3) nb.range (by omega)) (fun _ => E2) I2 rfl (Wk.refl _) (fun j P hP hI2 => ?_) (fun hI2 => ⟨?_, ?_⟩))⟩
    · rw [List.getElem?_map, Option.map_eq_some_iff] at hP
      obtain ⟨j', hq2, rfl⟩ := hP
      obtain ⟨hj, hjt⟩ := List.getElem?_eq_some_iff.mp hq2
      rw [List.length_range] at hj
      rw [List.getElem_range] at hjt
      subst hjt
      have a1 : ∀ k, k < look.length → atI (look.map nD) ((k : Nat) : Int) = some (nD (look.getD k 0)) := fun k hk => atI_nat (by rw [List.getElem?_map, List.getD_eq_getElem?_getD, List.getElem?_eq_getElem hk]; rfl)
      have a2 : atI ((ceD C).map PyData.list) ((t : Nat) : Int) = some (PyData.list (row.map PyData.int)) := atI_nat (by unfold ceD; rw [List.getElem?_map, List.getElem?_map, hrow]; rfl)
      have a3 : atI (row.map PyData.int) ((j : Nat) : Int) = some (.int (getC C t j)) := atI_nat (by
        have e : getC C t j = row.getD j 0 := by unfold getC; rw [List.getD_eq_getElem?_getD (l := C), hrow]; rfl
        rw [e, List.getElem?_map, List.getD_eq_getElem?_getD, List.getElem?_eq_getElem (by omega)]; rfl)
      refine ⟨_, _, dg_name B 4, dss_if (k := !(hasL W (look.getD t 0) (getC C t j) (look.getD j 0))) (dt_cmp (de_tupD (dad_cons (de_ix (de_name B 2) (de_name B 3) (ixd_l (a1 t hi))) rfl (dad_cons (de_ix (de_ix (de_name B 1) (de_name B 3) (ixd_l a2)) (de_name B 4) (ixd_l a3)) rfl (dad_cons (de_ix (de_name B 2) (de_name B 4) (ixd_l (a1 j (by omega)))) rfl dad_nil)))) (de_getW (de_name B 0) rfl (by omega)) (opd_notInX (ks := [.num (look.getD t 0), .num (getC C t j), .num (look.getD j 0)]) hu (show (1 : Nat) ≤ 8 by decide))) (fun h => ?_) (fun h => ?_)⟩
      · refine dss_end (ds_ret de_bl ⟨⟨?_, trivial⟩, fun _ z => (nomatch z)⟩)
        have hf : goesB W C look = false := by
          rw [Bool.eq_false_iff]
          intro hg
          unfold goesB goesI at hg
          rw [List.all_eq_true] at hg
          have := hg t (List.mem_range.mpr hi)
          rw [List.all_eq_true] at this
          rw [this j (List.mem_range.mpr hj)] at h
          cases h
        show _ = dD X.K (.bool (goesB W C look))
        rw [hf]
      · refine dss_nil ⟨?_, ?_⟩
        · refine Drop.wk ?_
          repeat (first | exact Drop.nil | apply Drop.keep | apply Drop.skip)
        · show (List.range (j + 1)).all _ = true
          rw [List.range_succ, List.all_append, hI2]
          simpa using h
    · refine Drop.wk ?_
      repeat (first | exact Drop.nil | apply Drop.keep | apply Drop.skip)
    · rw [List.length_map, List.length_range] at hI2
      show (List.range (t + 1)).all _ = true
      rw [List.range_succ, List.all_append, hI]
      show (true && (goesI W C look t && true)) = true
      have h2 : goesI W C look t = true := hI2
      rw [h2]; rfl
  · rw [List.length_map, List.length_range] at hI
    exact hI
  · obtain ⟨rfl, hg⟩ := he
    exact dss_end (ds_ret de_bl ⟨by rw [hg]; rfl, trivial⟩)
end
end K7

set_option maxHeartbeats 4000000
namespace K7
open PySem PySem.Spec PyProof.Rows L2 DL Hd
def cutC (C : Ce) (i : Nat) : Ce := (C.take i).map fun row => row.take i
def sceneB (W : Wo) (pl : Pl) : Bool := (List.range pl.length).all fun i => goesB W (cutC (cellsL (bk W.back) pl) i) (pl.getD i [])
theorem cut_ok {n m i : Nat} {C : Ce} {pl : Pl} (h : Sqc n C) (hp : Tri m pl) (hn : n = pl.length) (hi : i < n) : GoOk (cutC C i) (pl.getD i []) := by
  obtain ⟨h1, h2⟩ := tri_row hp (hn ▸ hi)
  refine ⟨by have := hp.sz; omega, fun k hk => ?_⟩
  rw [h1] at hk
  have hkn : k < n := by omega
  obtain ⟨e1, e2⟩ := sqc_at h hkn
  refine ⟨(C.getD k []).take i, ?_, by rw [List.length_take, e2]; omega⟩
  unfold cutC
  rw [List.getElem?_map, List.getElem?_take, if_pos hk, e1]; rfl
section
variable {M : Md} (nb : NoB M.mg)
theorem sc__law_is_scene : FnScope ["world", "rows", "cells", "i", "row"] ["world", "rows"] (defScope (topS 65)) := ⟨rfl, rfl, rfl, by decide +kernel, rfl, by decide +kernel, by decide +kernel⟩
include nb in
theorem ok__law_is_scene (F : FnD M "_law_is_scene" (topS 65) ["world", "rows"]) (f1 : FK M "_law_cells" 1 ["world", "rows"] (lceArgs M) (fun i => (oM M.K (ceD (cellsL (bk i.1.1.back) i.1.2))).at none)) (f2 : FK M "_law_goes" 1 ["world", "cells", "look"] (goArgs M) (fun i => dD M.K (.bool (goesB i.1.1 i.1.2.1 i.1.2.2)))) :
    FK M "_law_is_scene" 2 ["world", "rows"] (lceArgs M) (fun i => dD M.K (.bool (sceneB i.1.1 i.1.2))) := by
  refine fk (N := ["world", "rows", "cells", "i", "row"]) F sc__law_is_scene (fun _ => rfl) ?_
  rintro X rfl B hr ⟨⟨W, pl⟩, ht'⟩ G vs hv
  obtain ⟨v, w, rfl⟩ := len2 hv
  have ht : Tri W.back.length pl := ht'
  have hsz := sizeLine_eq
  have h12 := ht.sz
  have hlen : (pl.map lsD).length = pl.length := List.length_map _
  have hsq := cellsL_sq (b := bk W.back) ht
  generalize hC : cellsL (bk W.back) pl = C at hsq
  let cD : PyData := .list ((ceD C).map PyData.list)
  let E0 : Ev := [some (.fz (isWo X.prog X.w X.K W)), some (dD X.K (plL pl)), some (dD X.K cD), none, none]
  let I0 : Nat → Prop := fun t => (List.range t).all (fun i => goesB W (cutC C i) (pl.getD i [])) = true
  have hsB : sceneB W pl = (List.range pl.length).all fun i => goesB W (cutC C i) (pl.getD i []) := by unfold sceneB; rw [hC]
  refine dss_go (env1 := E0) (ds_set B 2 (de_oM (A := (oM X.K (ceD C)).at none) (de_eq (de_nc B (nk f1 hr ⟨(W, pl), ht⟩) (da_cons (de_name B 0) (da_cons (de_name B 1) da_nil)) (.inl rfl)) (by show (oM X.K (ceD (cellsL _ _))).at none = _; rw [hC])) rfl)) ?_
  let Pt : Out → Prop := fun o => match o with
    | .nx e => e = E0 ∧ sceneB W pl = true
    | .rt e A => Fin (lceArgs (mdOf X) ⟨(W, pl), ht⟩) (dD X.K (.bool (sceneB W pl))) [v, w] (.rt e A)
    | _ => False
  refine dss_cons (P1 := Pt) (ds_forI B (di_rn B (de_eq (de_nc B (nc_b (cd_lenL (ds := pl.map lsD)) nb.len) (da_cons (de_name B 1) da_nil) (.inl rfl)) (by rw [hlen])) nb.range (by omega)) (fun _ => E0) I0 rfl (Wk.refl _) (fun t P hP hI => ?_) (fun hI => ⟨rfl, ?_⟩)) (fun e he => ?_) (fun _ _ z => z) (fun _ z => z.elim) (fun _ z => z.elim)
  · rw [List.getElem?_map, Option.map_eq_some_iff] at hP
    obtain ⟨i, hq, rfl⟩ := hP
    obtain ⟨hi, hti⟩ := List.getElem?_eq_some_iff.mp hq
    rw [List.length_range] at hi
    rw [List.getElem_range] at hti
    subst hti
    have hgo : GoOk (cutC C t) (pl.getD t []) := cut_ok hsq ht rfl hi
    have g1 : atI (pl.map lsD) ((t : Nat) : Int) = some (lsD (pl.getD t [])) := atI_nat (by rw [List.getElem?_map, List.getD_eq_getElem?_getD, List.getElem?_eq_getElem hi]; rfl)
    have c1 : DL.cutD ((ceD C).map PyData.list) none (some (t : Int)) = (C.take t).map fun r => PyData.list (r.map .int) := by
      rw [cut_to (by unfold ceD; rw [List.length_map, List.length_map, hsq.len]; omega)]
      unfold ceD
      rw [List.map_map, ← List.map_take]; rfl
    let E2 : Ev := [some (.fz (isWo X.prog X.w X.K W)), some (dD X.K (plL pl)), some (dD X.K cD), some (dD X.K (nD t)), none]
    refine ⟨_, E2, dg_name B 3, dss_if (env1 := E2) (k := !(goesB W (cutC C t) (pl.getD t []))) (dt_not (dt_val (de_nc B (nk f2 hr ⟨(W, cutC C t, pl.getD t []), hgo⟩) (da_cons (de_name B 0) (da_cons (de_eq (B := oLn X.K ((ceD (cutC C t)).map PyData.list)) (de_lcr (lc1n 4 (C.take t) (fun r => isD X.K (.list (r.map .int))) (fun r => .list ((r.take t).map .int)) B ⟨by decide +kernel, by decide +kernel, by decide +kernel, by decide +kernel, by decide +kernel⟩ (di_ldm (C.take t) (fun r => .list (r.map .int)) (de_eq (de_slL (de_name B 2) rfl do_none (do_some (de_name B 3))) (by rw [c1])) rfl) (by rw [List.length_take, hsq.len]; omega) rfl fun s0 H0 C' cl fp B' r hrow => ?_)) ?_) (da_cons (de_ix (de_name B 1) (de_name B 3) (ixd_l g1)) da_nil))) (.inl rfl)))) (fun h => ?_) (fun h => ?_)⟩
    · have c2 : DL.cutD (r.map PyData.int) none (some (t : Int)) = (r.take t).map .int := by
        rw [cut_to (by rw [List.length_map, hsq.row r (List.mem_of_mem_take hrow)]; omega), List.map_take]
      exact ⟨_, rfl, de_eq (de_slL (ds := r.map PyData.int) (de_name B' 4) rfl do_none (do_some (de_name B' 3))) (by rw [c2])⟩
    · unfold cutC ceD
      rw [List.map_map, List.map_map]; rfl
    · refine dss_end (ds_ret de_bl ⟨⟨?_, trivial⟩, fun _ z => (nomatch z)⟩)
      have hf : sceneB W pl = false := by
        rw [Bool.eq_false_iff, hsB]
        intro hg
        rw [List.all_eq_true] at hg
        rw [hg t (List.mem_range.mpr hi)] at h
        cases h
      show _ = dD X.K (.bool (sceneB W pl))
      rw [hf]
    · refine dss_nil ⟨?_, ?_⟩
      · refine Drop.wk ?_
        repeat (first | exact Drop.nil | apply Drop.keep | apply Drop.skip)
      · show (List.range (t + 1)).all _ = true
        rw [List.range_succ, List.all_append, hI]
        simpa using h
  · rw [List.length_map, List.length_range] at hI
    rw [hsB]; exact hI
  · obtain ⟨rfl, hg⟩ := he
    exact dss_end (ds_ret de_bl ⟨by rw [hg]; rfl, trivial⟩)
end
end K7

set_option maxHeartbeats 4000000
/-! DX1: own exceptions with one field given by __init__, over own bases over Exception: made, raised, read. -/
namespace PySem
namespace GvX
open PySem.W PySem.Calls PyProof.Rows PySem.HandSPX
abbrev exTl : List Value := [.type "Exception", .type "BaseException", .type "object"]
/-! ### the text of __init__ -/
def iA (g : Str) (p1 p2 : Pos) : Arguments := { posonlyargs := [], args := [{ arg := "self", annotation := none, pos := p1 }, { arg := g, annotation := none, pos := p2 }], vararg := none, kwonlyargs := [], kw_defaults := [], kwarg := none, defaults := [] }
def iB (g : Str) (q1 q2 q3 q4 : Pos) : List Stmt := [.Assign [.Attribute (.Name "self" q1) g q2] (.Name g q3) q4]
def iS (g : Str) : Scope := { kind := .function, names := [(PySem.Str.ofString "self", .local), (g, .local)], isGenerator := false, isCoroutine := false, more := [] }
/-- what the written part says of the class x, at C, and of its __init__, at fI, that keeps g -/
structure GvT (g : Str) (K : Frag) (mg : Str → Option Value) (x : Str) (C fI : Addr) : Prop where
  gC : mg x = some (.ref C)
  q : excInitIn K C exTl "Exception.__new__" = true
  ov : excOver K C exTl = true
  sa : findIn K (.ref C) "__setattr__" = some (some (.builtin "object.__setattr__"))
  ga : findIn K (.ref C) "__getattribute__" = some (some (.builtin "BaseException.__getattribute__"))
  gg : findIn K (.ref C) "__getattr__" = some none
  noN : findIn K (.ref C) g = some none
  iC : findIn K (.ref C) "__init__" = some (some (.ref fI))
  tC : typeIn K (.ref fI) = some (.type "function")
  kC : keepIn K (.ref C) = true
  exC : subIn K (.ref C) (.type "BaseException") = some true
  tyC : typeIn K (.ref C) = some (.type "type")
  hdC : hasDictIn K C = true
  te : exmOne K (.ref C) (.ref C) = some true
  fn : ∃ (qual : Str) (oc : Value) (od : Option Addr) (doc pm : Value) (an : Option Addr) (cdv ct : Value) (osl : Array (Option Value)) (p1 p2 q1 q2 q3 q4 : Pos),
    K.lookup fI = some ⟨oc, od, .func (fnOf "__init__" qual (iA g p1 p2) (iB g q1 q2 q3 q4) (iS g) .none .none doc pm an cdv ct), osl⟩ ∧ codeIn K cdv qual = true
theorem one_size (v : Value) : [v].length ≤ sizeLine := by
  rw [sizeLine_eq]
  exact (by decide : 1 ≤ 16777216)
theorem ldC {M : Model} {s : Shared} {name : Str} {scope : Scope} {L a : Addr} {cd : Value} {m : Str → Option Value} {x : Str} {pos : Pos} {v : Value} {Q : Value → Shared → Prop} {A : Around} {E : Value → Shared → Prop} (hn : s.heap.Ns L m) (hv : m x = some v) (h : Q v s)
    (hk : scope.kind = .function := by rfl) (hl : (envOfC name scope L a cd).kindOf x = some .local := by rfl) (hd : (x == ("__debug__" : Str)) = false := by decide) :
    wpAny M A (eval (.Name x pos) (envOfC name scope L a cd)) Q E s := wpAny_Name (wpAny_loadName_local hk hl hn hv h) hd
structure InitEnd (g : Str) (h h' : Heap) (x C dx t1 : Addr) (v : Value) : Prop where
  keep : ∀ b o, b ≠ x → h.get? b = some o → h'.get? b = some o
  obj : h'.get? x = some { cls := .ref C, dict := some dx, data := .fields #[.ref t1, .none, .none, .none, .bool false, .none] }
  dbig : h.objs.size ≤ dx
  dne : dx ≠ x
  ns : h'.Ns1 dx (fun y => if y = g then some v else none)
structure OwnMade (g : Str) (h h' : Heap) (e C d : Addr) (v : Value) : Prop where
  keep : ∀ b o, h.get? b = some o → h'.get? b = some o
  new : h.objs.size ≤ e
  obj : ∃ t1, h'.get? e = some { cls := .ref C, dict := some d, data := .fields #[.ref t1, .none, .none, .none, .bool false, .none] }
  dbig : h.objs.size ≤ d
  dne : d ≠ e
  ns : h'.Ns1 d (fun y => if y = g then some v else none)
section
open Builtin Builtin.ObjectAttr
variable {prog : Program} {w : World} {A : Around} {E : Value → Shared → Prop} {R : Result → Shared → Prop} {hp : Heap} {g : Array GenState} {d : Drawn} {t : Nat} {os : OsState}
theorem osa_newX {K : W.Frag} {name : Str} {tk : Tok} {v : Value} {x C : Addr} {fv : Array Value}
    (X : K.In hp) (hx : hp.get? x = some { cls := .ref C, data := .fields fv }) (ov : excOver K C exTl = true) (hh : hasDictIn K C = true) (ha : W.findIn K (.ref C) name = some none)
    (hq : ∀ h' tk' dx, (∀ b o, b ≠ x → hp.get? b = some o → h'.get? b = some o) → hp.objs.size ≤ dx → dx ≠ x → h'.get? x = some { cls := .ref C, dict := some dx, data := .fields fv } →
      h'.Ns1 dx (fun y => if y = name then some v else none) → R (.ok (.ret .none)) ⟨h', g, d, tk', os⟩) :
    codeAny (model prog w) A (.call (.builtin "object.__setattr__") ⟨[.ref x, .str name tk, v], []⟩) R ⟨hp, g, d, t, os⟩ := by
  have I : W.InstAt hp x { cls := .ref C, data := .fields fv } C none := ⟨hx, rfl, rfl, trivial⟩
  have hxs : x ≠ hp.objs.size := Nat.ne_of_lt (Heap.lt_size hx)
  have ht : takerIn K C name = some none := by
    unfold takerIn
    rw [ha]
    rfl
  refine osa_openX (s := ⟨hp, g, d, t, os⟩) F.store_Exception X I ov ht fun b => ?_
  obtain ⟨cd, hcd, hd⟩ : ∃ cd, W.clsIn K C = some cd ∧ cd.hasDict = true := by
    unfold hasDictIn at hh
    cases e : W.clsIn K C with
    | none => rw [e] at hh; cases hh
    | some cd =>
      rw [e] at hh
      exact ⟨cd, rfl, by simpa using hh⟩
  have hcls : W.Looks (model prog w) hp (classData C) cd := W.looks_clsIn X hcd
  obtain ⟨nm, bs, mro, ns, qn, hd', sn, sb, ab, col, del⟩ := cd
  dsimp only at hd
  subst hd
  show wpAny _ _ (storeInOwnDict (.ref x) (.ref C) (.str name tk) name v b) _ _ _
  unfold storeInOwnDict ownDictForStores
  repeat (first | with_reducible refine HandSPX.store_in_new ?_ ?_ | with_reducible refine wpAny_loadPart_at hx ?_ | with_reducible refine hcls.at ?_ | wp_step)
  · exact ⟨_, #[], _, (Heap.get?_update_ne _ _ _ _ hxs.symm).trans (Heap.get?_push_at rfl rfl), rfl, fun e he => absurd he (by simp), fun _ => rfl⟩
  · intro h' tk' hn' hs
    have hx₁ : (hp.push { cls := .type "dict", data := .dict #[] }).get? x = some { cls := .ref C, data := .fields fv } := Heap.get?_push_of_some _ hx
    refine hq h' tk' hp.objs.size (fun b o hb ho => ?_) (Nat.le_refl _) hxs.symm ?_ hn'
    · exact (hs.2 b (Nat.ne_of_lt (Heap.lt_size ho))).trans ((Heap.get?_update_ne _ _ _ _ hb).trans (Heap.get?_push_of_some _ ho))
    · exact (hs.2 x hxs).trans (Heap.get?_update_self _ hx₁ rfl)
end
section
variable {prog : Program} {w : World} {A : Around} {E : Value → Shared → Prop} {R : Result → Shared → Prop} {s : Shared} {K : Frag} {mg : Str → Option Value} {C fI : Addr} {g n : Str}
theorem gv_init (T : GvT "given" K mg n C fI) {x t0 : Addr} {v : Value} (X : K.In s.heap) (hlim : s.heap.NoLimit) (hx : s.heap.get? x = some (excO C t0)) (hroom : A.depth < recursionLimit)
    (hq : ∀ h' tk dx, InitEnd "given" s.heap h' x C dx t0 v → R (.ok (.ret .none)) { s with heap := h', toks := tk }) :
    codeAny (model prog w) A (.call (.ref fI) ⟨[.ref x, v], []⟩) R s := by
  obtain ⟨qual, oc, od, doc, pm, an, cdv, ct, osl, p1, p2, q1, q2, q3, q4, ho, hcd⟩ := T.fn
  refine Att.call_fn (binds := [("self", .ref x), ("given", v)]) X hlim ho hcd hroom (BindsTo.of_eq (by first | rfl | with_unfolding_all rfl)) (by first | rfl | decide | with_unfolding_all rfl) (fun s₁ IC => ?_) rfl rfl rfl
  obtain ⟨h₁, tk₁, rfl⟩ := IC.toInCall.same
  have k : ∀ b o, s.heap.get? b = some o → h₁.get? b = some o := IC.toInCall.keep
  have hn := IC.toInCall.ns
  have hxL : s.heap.objs.size ≠ x := Nat.ne_of_gt (Heap.lt_size hx)
  have X₁ : K.In h₁ := X.keeps k
  have hx₁ := k _ _ hx
  show wpAny _ _ (execs _ _) _ _ _
  refine wpAny_execs_cons (plainObj_wpAny_Assign_Attribute ?_)
  refine ldC (v := v) hn (by first | rfl | with_unfolding_all rfl | kernel_rfl) (ldC (v := .ref x) hn (by first | rfl | with_unfolding_all rfl | kernel_rfl) ?_)
  refine set_plain X₁ (ox := excO C t0) (od := none) ⟨hx₁, rfl, rfl, trivial⟩ T.sa ?_
  refine osa_newX X₁ hx₁ T.ov T.hdC T.noN (fun h₃ tk₃ dx k₃ dn dne hx₃ hn₃ => ?_)
  show wpAny _ _ (execs _ _) _ _ _
  have z : s.heap.objs.size < h₁.objs.size := hn.lt
  exact wpAny_execs_nil (hq h₃ tk₃ dx ⟨fun b o hb e => k₃ b o hb (k b o e), hx₃, Nat.le_of_lt (Nat.lt_of_lt_of_le z dn), dne, hn₃⟩)
theorem gv_made (T : GvT "given" K mg n C fI) {v : Value} (X : K.In s.heap) (hlim : s.heap.NoLimit) (hroom : A.depth + 1 < recursionLimit)
    (hq : ∀ h' tk e d, OwnMade "given" s.heap h' e C d v → R (.ok (.ret (.ref e))) { s with heap := h', toks := tk }) :
    codeAny (model prog w) A (.call (.ref C) ⟨[v], []⟩) R s := by
  obtain ⟨nm, N, q, bs, bm, hdct, sn, sub, ab, col, dd, k0, k1, k2, k3, k5, hC, hbm⟩ := excInit_of X T.q
  obtain ⟨hp, g, dr, tk, os⟩ := s
  have k : ∀ b o, hp.get? b = some o → ((hp.push (kdv_tup [v])).push (excO C hp.objs.size)).get? b = some o := fun b o e => Heap.get?_push_of_some _ (Heap.get?_push_of_some _ e)
  have hget : ((hp.push (kdv_tup [v])).push (excO C hp.objs.size)).get? (hp.objs.size + 1) = some (excO C hp.objs.size) := by heap_get
  refine HandSPX.call_own F.excBase_Exception hbm hC (looks_findIn X T.iC) (fun self => bind_fn X self T.tC) (one_size v) ?_
  refine gv_init (s := ⟨(hp.push (kdv_tup [v])).push (excO C hp.objs.size), g, dr, tk, os⟩) T (X.keeps k) (hlim.keeps k) hget ?_ fun h' tk' dx ⟨k', hx, dn, dne, hns⟩ => ?_
  · show A.depth + 1 < recursionLimit
    exact hroom
  · have old : ∀ b o, hp.get? b = some o → h'.get? b = some o := fun b o e => k' b o (Nat.ne_of_lt (Nat.lt_succ_of_lt (Heap.lt_size e))) (k b o e)
    have z : hp.objs.size + 1 + 1 ≤ dx := by
      first
        | (simpa only [Heap.size_push] using dn)
        | exact dn
        | (have q := dn; rw [Heap.size_push, Heap.size_push] at q; exact q)
    exact ⟨rfl, hq h' tk' (hp.objs.size + 1) dx ⟨old, Nat.le_succ _, ⟨_, hx⟩, Nat.le_trans (Nat.le_trans (Nat.le_succ _) (Nat.le_succ _)) z, dne, hns⟩⟩
end
end GvX
end PySem

set_option maxHeartbeats 4000000
/-! DX2: raise, defs that raise, try: the state at each end; a caught exception's field. -/
namespace DL
open PySem PySem.Spec PyProof.Rows L2
open PySem.GvX
/-- an exception's dict, that keeps v -/
def isXd (v : V) : FP := ⟨fun H w => ∃ d, w = .ref d ∧ H d = some (.xd [(("given" : Str), v)]), fun e ⟨d, h1, h2⟩ => ⟨d, h1, e _ _ h2⟩⟩
def xdA (v : V) : As := ⟨fun H w o => ∃ d, w = .ref d ∧ o = [(d, .xd [(("given" : Str), v)])], fun _ h => h, isXd v, fun {H H' w o} e k ⟨d, h1, h2⟩ => by
  subst h1 h2
  exact ⟨d, rfl, k (d, .xd [(("given" : Str), v)]) (List.mem_singleton.mpr rfl)⟩⟩
theorem relO_gv {v : V} {v' : Value} (r : RelV v v') (f : Str) : RelO (List.lookup f [(("given" : Str), v)]) (if f = "given" then some v' else none) := by
  by_cases hw : f = "given"
  · subst hw
    rw [if_pos rfl]
    have q : List.lookup ("given" : Str) [(("given" : Str), v)] = some v := by simp [List.lookup]
    rw [q]
    exact r
  · rw [if_neg hw]
    have qw : (f == ("given" : Str)) = false := by simpa using hw
    have q2 : List.lookup f [(("given" : Str), v)] = none := by simp [List.lookup, qw]
    rw [q2]
    trivial
section
variable {X : Cx} {C fI : Addr} {n : Str}
/-- n(e) -/
def tMkGv (C : Addr) (ta : TA) : L2.St → Hp → XK → Prop := fun σ H Q => ta σ H fun vs H1 => ∃ v, vs = [v] ∧ ∀ d, H1 d = none → Q (.ref C) (some d) (upd H1 d (.xd [(("given" : Str), v)]))
theorem pmk_gv {a : Expr} {ta : TA} {p pos : Pos} {k : Nat} (T : GvT "given" X.K X.mg n C fI) (hr : Room k X.A) (ha : PA X [a] ta) (hg : Gl X n) (hdb : (n == ("__debug__" : Str)) = false)
    (he : starEach (a :: []) X.env = (false, eval a X.env) :: starEach [] X.env := by rfl) (hpl : (backTo pos (starEach [] X.env)).any (·.1) = false := by rfl) :
    L2N.PMk X (.Call (.Name n p) [a] [] pos) (tMkGv C ta) := by
  intro pins s σ H Q I h
  refine wpAny_Call_Name_kw (ld_glob I hg T.gC ?_ hdb)
  refine PySem.W.callWith_K (h₀ := X.base) I.ok.mod.kin T.kC (thn (ha.run pos pins s σ H _ I h) fun us s1 hh => ?_) he hpl
  obtain ⟨vs, H1, I1, r1, v, ev, q1⟩ := hh
  subst ev
  refine ⟨I1.kIn, ?_⟩
  cases r1 with
  | cons rv rn =>
    rename_i v' us'
    cases rn
    show wpAny _ _ (call (.ref C) [v']) _ _ _
    have hlim := I1.nolimit
    obtain ⟨hp, g, dr, tk, os⟩ := s1
    refine wpAny_call (gv_made T I1.kIn hlim (by have := hr.dp; omega) fun h' tk' e d M => ?_)
    show L2N.MkP X pins σ Q (.ref e) ⟨h', g, dr, tk', os⟩
    obtain ⟨t1, hoe⟩ := M.obj
    have hns := M.ns
    obtain ⟨G', g1, g2⟩ := restrict h' fun b => decide (b ≠ e)
    have gk : ∀ b, b ≠ e → G'.get? b = h'.get? b := fun b hb => g1 b (decide_eq_true hb)
    have ge : G'.get? e = none := g2 e (by simp)
    have old : ∀ b o, hp.get? b = some o → G'.get? b = some o := fun b o q => (gk b (Nat.ne_of_lt (Nat.lt_of_lt_of_le (Heap.lt_size q) M.new))).trans (M.keep b o q)
    have ob : ObjOk X.prog X.w (upd H1 d (.xd [(("given" : Str), v)])) G' d (.xd [(("given" : Str), v)]) :=
      ⟨_, hns.at (fun o q => (gk d M.dne).trans q), fun f => relO_gv rv f⟩
    have J : Inv X pins σ (upd H1 d (.xd [(("given" : Str), v)])) ⟨G', g, dr, tk', os⟩ := I1.laid (t' := tk') old M.dbig ob
    refine ⟨e, _, _, ⟨G', g, dr, tk', os⟩, _, .ref C, some d, rfl, J, fun b o q => ?_, ge, hoe, ⟨rfl, rfl, fun vs hv => ?_⟩, rfl, rfl, ?_, rfl, I1.bare, raises_own T.exC T.tyC, q1 d (I1.hok.fresh M.dbig)⟩
    · by_cases hb : b = e
      · have q' : G'.get? b = some o := q
        rw [hb, ge] at q'; cases q'
      · exact (gk b hb).symm.trans q
    · cases hv
      rfl
    · rw [upd_ne (Ne.symm M.dne)]
      exact I1.hok.fresh M.new
end
/-! ### how it stands where an exception leaves -/
def wX (G : Reg) (C : Addr) (q : V → Ev → Prop) : WX := fun cls d σ H => cls = .ref C ∧ ∃ (dd : Addr) (T : List (V × As)) (env : Ev) (v : V), d = some dd ∧ StA G ((.ref dd, xdA v) :: T) env σ H ∧ q v env
section
variable {κ : Bool} {X : Cx} {N : List Str} {sc : Scope} {ok : Str → Bool} {G : Reg} {env env1 env2 : Ev} {A B S : As} {P R : FP} {e a b : Expr} {es : List Expr} {pos : Pos} {x : Str} {Pt : Out → Prop} {C fI : Addr} {W : WX}
/-- raise x(e), e told with its value -/
theorem ds_raise {k : Nat} {v : V} {p pos2 : Pos} (B : Bx true X N sc ok) (T : GvT "given" X.K X.mg x C fI) (hr : Room k X.A) {q : V → Ev → Prop} (tk : L2N.Takes X (wX G C q)) (h : DE X G env e env1 (.fz P)) (hP : ∀ HF w, P.p HF w → w = v) (hq : q v env1) (hg : GlS sc x := by rfl) (hdb : (x == ("__debug__" : Str)) = false := by decide)
    (he : starEach (e :: []) X.env = (false, eval e X.env) :: starEach [] X.env := by rfl) (hpl : (backTo pos (starEach [] X.env)).any (·.1) = false := by rfl) : DS X G env (.Raise (some (.Call (.Name x p) [e] [] pos)) none pos2) Pt := fun Tm σ H st D d => by
  refine of_ps (L2N.ps_raise B.calm tk (pmk_gv T hr (pa_cons cE_pe pa_nil he) (B.gl hg) hdb he hpl)) ?_
  refine h Tm σ H st _ fun w H1 st1 => ⟨w, rfl, fun dd hd => ⟨rfl, dd, Tm, env1, v, rfl, ?_, hq⟩⟩
  obtain ⟨HF, o1, o2, h1, hp, t, s⟩ := st1.one'
  have ew := hP _ _ hp
  subst ew
  exact StA.newO h1 t s hd ⟨dd, rfl, rfl⟩
/-- a value that is this very one -/
def pinV (v : V) (P : FP) : FP := ⟨fun H w => w = v ∧ P.p H w, fun e h => ⟨h.1, P.mono e h.2⟩⟩
end
/-- what a def promises that raises: the exception of the class at C keeps val i -/
def spX {ι : Type} (args : ι → List Arg) (C : Addr) (val : ι → V) : Sp := fun vs H _ E => ∃ (i : ι) (HF : Hp) (os : Own), vs.length = (args i).length ∧ Held ⟨HF, H, os.map (·.1)⟩ HF os H ∧ Tm HF os (vs.zip ((args i).map Arg.pre)) ∧
  ∀ (dd : Addr) (H' HF' : Hp) (o1 o2 : Own), Held ⟨HF, H, os.map (·.1)⟩ HF' (o1 ++ o2) H' → (xdA (val i)).p HF' (.ref dd) o1 → Tm HF' o2 (vs.zip ((args i).map Arg.aft)) → E (.ref C) (some dd) H'
section
variable {P : Program} {w : World} {K : PySem.W.Frag} {mg : Str → Option Value} {base : Heap}
/-- THE RULE for a def that raises -/
theorem fn_okX {ι : Type} {args : ι → List Arg} {C : Addr} {val : ι → V} {x qual : Str} {params : Arguments} {body : List Stmt} {scope : Scope} {f : Addr} {fd : FuncData} {N ps : List Str} {k : Nat}
    (F : FunD K x qual params body scope [] [] f fd) (S : FnScope N ps scope) (hl : ∀ i, (args i).length = ps.length)
    (hb : ∀ (X : Cx), X.prog = P → X.w = w → X.K = K → X.mg = mg → X.base = base → Bx true X N scope (fun _ => true) → Room k X.A → ∀ (i : ι) (G : Reg) (vs : List V), vs.length = ps.length → L2N.Takes X (wX G C fun v env => v = val i ∧ lentOk (args i) vs env) → DSs X G (env0 (args i) vs N) body (fun _ => False)) :
    FnOk P w K mg base (L2N.CX P w) (k + 1) f fd ps (spX args C val) := by
  refine F.ok S (fun vs H Q E h => ?_) (fun cdv A outer s H vs Q E hr h => ?_)
  · obtain ⟨i, _, _, e, _⟩ := h
    rw [e, hl]
  · obtain ⟨i, HF, os, e, h1, h2, hq⟩ := h
    refine ⟨cSs _ _, cSs_pss, ?_⟩
    have hlen : vs.length = ps.length := by rw [e, hl]
    have tk0 := L2N.takes_of (X := cxOf (L2N.CX P w) P w K mg base N qual scope f cdv A outer s H E) (E := E) rfl rfl rfl rfl
    have tk : L2N.Takes (cxOf (L2N.CX P w) P w K mg base N qual scope f cdv A outer s H E) (wX ⟨HF, H, os.map (·.1)⟩ C fun v env => v = val i ∧ lentOk (args i) vs env) := tk0.imp fun cls d σ H' hw => by
      obtain ⟨rfl, dd, T, env, v, rfl, st, rfl, hle⟩ := hw
      obtain ⟨HF', o, o1, o2, k1, ka, k2, k3⟩ := st.top
      obtain ⟨oa, ob, pm, t⟩ := tm_lent (HF0 := HF) k1.sub e hle k3 h2
      refine hq dd H' HF' o oa ?_ ka t
      have k4 : Held _ HF' ((o1 ++ ob) ++ (o ++ oa)) H' := k1.perm (by
        refine (List.Perm.append_left o (List.Perm.append_left o1 pm)).trans ?_
        refine (perm_mid o o1 (oa ++ ob)).trans ?_
        rw [List.append_assoc]
        refine List.Perm.append_left o1 ?_
        rw [← List.append_assoc]
        exact List.perm_append_comm)
      exact k4.drop
    have b := hb (cxOf (L2N.CX P w) P w K mg base N qual scope f cdv A outer s H E) rfl rfl rfl rfl rfl ⟨rfl, rfl, S.nd, rfl, passes_of (K := fun e s'' => L2N.CX P w outer H s E e s'') rfl, by have := hr.un; show (A.deeper (envOfC qual scope s.heap.objs.size f cdv)).units + 100 < _; omega, fun _ => hr.hd, fun _ _ _ => .inl rfl⟩ hr i ⟨HF, H, os.map (·.1)⟩ vs hlen tk
    exact b [] (L2.start N vs) H ⟨HF, [], os, h1, .nil, sl_ents e h2 _⟩ _ ⟨fun env σ' H' p hs => p.elim, fun env A' v σ' H' p hs => p.elim, fun _ _ _ p => p.elim, fun _ _ _ p => p.elim⟩
def FnX (P : Program) (w : World) (K : PySem.W.Frag) (mg : Str → Option Value) (base : Heap) (x : Str) (k : Nat) (ps : List Str) (sp : Sp) : Prop :=
  ∃ (f : Addr) (fd : FuncData), mg x = some (.ref f) ∧ PySem.W.keepIn K (.ref f) = true ∧ Binds K fd ps [] ∧ FnOk P w K mg base (L2N.CX P w) k f fd ps sp
end
section
variable {κ : Bool} {X : Cx} {N : List Str} {sc : Scope} {ok : Str → Bool} {G : Reg} {env env1 env2 : Ev} {A B S : As} {P R : FP} {e a b : Expr} {es : List Expr} {pos : Pos} {x : Str} {Pt : Out → Prop} {C fI : Addr} {W : WX}
theorem StA.thawX {T : List (V × As)} {env : Ev} {σ : L2.St} {H : Hp} (h : StA G T env σ H) : ∃ G2, StA G2 [] (frAll env) σ H ∧ ∀ {T2 : List (V × As)} {env2 : Ev} {σ2 : L2.St} {H2 : Hp} {d : Addr} {v : V}, StA G2 ((.ref d, xdA v) :: T2) env2 σ2 H2 → StA G ((.ref d, xdA v) :: T) env σ H2 := by
  obtain ⟨HF, o1, o2, h1, t, s⟩ := h
  have h1' : Held G HF ((o1 ++ o2) ++ []) H := by rw [List.append_nil]; exact h1
  obtain ⟨k1, k2, k3⟩ := h1'.freeze
  refine ⟨⟨plus HF (o1 ++ o2), H, []⟩, ⟨plus HF (o1 ++ o2), [], [], ⟨Ex.refl _, k1.inH, fun _ z => (nomatch z), by simp, fun _ _ z => .inl z, fun _ _ z => .inr z, fun _ o z => ⟨o, z⟩⟩, .nil, tm_frAll (G := G) k2 s fun q hq => k3 q (List.mem_append_right _ hq)⟩, fun {T2 env2 σ2 H2 d v} h2 => ?_⟩
  obtain ⟨HF2, p0, p1, p2, q1, ⟨d', ed, ep⟩, _, _⟩ := h2.top
  cases ed
  subst ep
  have ex : Ex H H2 := fun a o e => (q1.keep a o e).resolve_left (fun z => (nomatch z))
  obtain ⟨c1, c2, c3⟩ := q1.own (d, .xd [(("given" : Str), v)]) (List.mem_append_left _ (List.mem_singleton.mpr rfl))
  have hd : H d = none := c3.resolve_right (fun z => (nomatch z))
  refine StA.ofTop (o := [(d, .xd [(("given" : Str), v)])]) (o1 := o1) (o2 := o2) (HF := HF) ?_ ⟨d, rfl, rfl⟩ t s
  refine ⟨h1.sub, h1.inH.trans ex, fun q hq => ?_, ?_, h1.new, fun a o e => (h1.keep a o e).imp id (ex a o), fun a o e => let ⟨o', z⟩ := h1.there a o e; ⟨o', ex _ _ z⟩⟩
  · rcases List.mem_cons.mp hq with rfl | hq
    · exact ⟨c1, h1.hf hd, .inl (h1.he hd)⟩
    · have z := h1.own q hq
      exact ⟨ex _ _ z.1, z.2⟩
  · show ((d :: (o1 ++ o2).map (·.1))).Nodup
    exact List.nodup_cons.mpr ⟨h1.notin hd, h1.nd⟩
/-- a call, as a statement, of a def that raises: what it is given is lent frozen -/
theorem callX_at {k : Nat} {p pos' : Pos} {ps : List Str} {ι : Type} {args : ι → List Arg} {val : ι → V} {As' : List As} (B : Bx true X N sc ok) (F : FnX X.prog X.w X.K X.mg X.base x k ps (spX args C val)) (hr : Room k X.A) (tk : L2N.Takes X W) (i : ι)
    (ha : ∀ G, DA X G (frAll env) (e :: es) env1 As') (hA : As'.map (fun A => As.fz A.fr) = (args i).map Arg.pre ∨ As' = (args i).map Arg.pre) (hg : GlS sc x) (hdb : (x == ("__debug__" : Str)) = false)
    (he : starEach (e :: es) X.env = (false, eval e X.env) :: starEach es X.env) (hpl : (backTo pos (starEach es X.env)).any (·.1) = false) (hs : swapsWith (.Call (.Name x p) (e :: es) [] pos) none pos'.line X.env = pure false)
    {T : List (V × As)} {σ : L2.St} {H : Hp} (st : StA G T env σ H) (hW : ∀ (dd : Addr) (H' : Hp), StA G ((.ref dd, xdA (val i)) :: T) env σ H' → W (.ref C) (some dd) σ H') (D : Ends) : cS X (.Expr (.Call (.Name x p) (e :: es) [] pos) pos') D σ H := by
  obtain ⟨f, fd, hm, hk, hb, F⟩ := F
  refine of_ps (ps_expr (pe_callS F hr (B.gl hg) hm hk hb (fun σ => L2N.passAt tk σ) cA_pa hdb he hpl) hs) ?_
  obtain ⟨G2, st2, back⟩ := st.thawX
  refine ha G2 [] σ H st2 _ fun vs H1 hl st3 => ?_
  have st4 := st3.args hA
  obtain ⟨HF, o1, o2, h1, h2, h3⟩ := st4
  obtain ⟨oa, ob, e', h4, h5⟩ := h2.split
  subst e'
  rw [List.append_assoc] at h1
  have hl' : vs.length = (args i).length := by
    rcases hA with z | z
    · have := congrArg List.length z
      simp only [List.length_map] at this
      omega
    · rw [hl, z]
      simp
  refine ⟨i, HF, oa, hl', h1.give, h4, fun dd H' HF' p1 p2 k1 kr ka => hW dd H' ?_⟩
  have h6 := h1.after k1
  have ex : Ex HF HF' := k1.sub
  rw [List.append_assoc] at h6
  exact back (StA.ofTop (o := p1) (o1 := p2 ++ ob) (o2 := o2) (by rw [List.append_assoc]; exact h6) kr (ka.join (h5.mono ex)) (h3.mono ex))
theorem ds_callX {k : Nat} {p pos' : Pos} {ps : List Str} {ι : Type} {args : ι → List Arg} {val : ι → V} {As' : List As} (B : Bx true X N sc ok) (F : FnX X.prog X.w X.K X.mg X.base x k ps (spX args C val)) (hr : Room k X.A) {q : V → Ev → Prop} (tk : L2N.Takes X (wX G C q)) (i : ι)
    (ha : ∀ G, DA X G (frAll env) (e :: es) env1 As') (hA : As'.map (fun A => As.fz A.fr) = (args i).map Arg.pre ∨ As' = (args i).map Arg.pre) (hq : q (val i) env) (hg : GlS sc x := by rfl) (hdb : (x == ("__debug__" : Str)) = false := by decide)
    (he : starEach (e :: es) X.env = (false, eval e X.env) :: starEach es X.env := by rfl) (hpl : (backTo pos (starEach es X.env)).any (·.1) = false := by rfl) (hs : swapsWith (.Call (.Name x p) (e :: es) [] pos) none pos'.line X.env = pure false := by rfl) : DS X G env (.Expr (.Call (.Name x p) (e :: es) [] pos) pos') Pt := fun T σ H st D d =>
  callX_at B F hr tk i ha hA hg hdb he hpl hs st (fun dd H' st' => ⟨rfl, dd, T, env, val i, rfl, st', hq⟩) D
/-! ### try -/
/-- the exception that an except suite holds: at a, its dict at dd keeps v -/
def isEx (a dd : Addr) (v : V) : FP := ⟨fun H w => w = .ref a ∧ H dd = some (.xd [(("given" : Str), v)]), fun e h => ⟨h.1, e _ _ h.2⟩⟩
/-- how a suite ends: its name is gone then -/
def Sut (i : Nat) (Pt : Out → Prop) : Out → Prop
  | .nx env => Pt (.nx (env.set i none))
  | .bk env => Pt (.bk (env.set i none))
  | .ct env => Pt (.ct (env.set i none))
  | .rt env A => Pt (.rt env A)
theorem StA.wipe {T : List (V × As)} {env : Ev} {σ : L2.St} {H : Hp} (h : StA G T env σ H) (i : Nat) : StA G T (env.set i none) (σ.set i none) H := by
  have h1 : StA G T (env.set i none) σ H := by
    cases e : env[i]? with
    | none =>
      have : env.set i none = env := List.set_eq_of_length_le (List.getElem?_eq_none_iff.mp e)
      rw [this]; exact h
    | some o =>
      cases o with
      | none =>
        have : env.set i none = env := by
          apply List.ext_getElem?
          intro j
          by_cases hj : i = j
          · subst hj; rw [List.getElem?_set_self (List.getElem?_eq_some_iff.mp e).1, e]
          · rw [List.getElem?_set_ne hj]
        rw [this]; exact h
      | some A => exact h.forget i A e
  refine h1.resig (by simp) fun j A e => ?_
  by_cases hj : i = j
  · subst hj
    rw [List.getElem?_set] at e
    simp only [if_true] at e
    split at e <;> cases e
  · rw [List.getElem?_set_ne hj]
theorem bx_tr (B : Bx true X N sc ok) (pn : List (Addr × Obj)) (xe : Value → Shared → Prop) (po : PassesOwn (model X.prog X.w) X.A X.env xe) : Bx true (X.tr pn xe) N sc ok :=
  ⟨B.N_, B.sc_, B.nd, B.cm, po, B.un, B.hd', B.fn⟩
theorem bx_suite (B : Bx true X N sc ok) {a : Addr} {oe : Obj} {pn : List (Addr × Obj)} {cls : Value} {d : Option Addr} (hz : L2N.Zn cls d oe) (hf : ∃ vs, oe.data = .fields vs) : Bx false (X.suite a ((a, oe) :: pn)) N sc ok := by
  obtain ⟨vs, hd⟩ := hf
  exact ⟨B.N_, B.sc_, B.nd, ⟨(a, oe), ⟨rfl, vs, hd, hz.2.2 vs hd⟩, List.mem_cons_self⟩, PassesOwn.never, B.un, fun z => (nomatch z), B.fn⟩
/-- try: f(e, ..); .. except n as en: suite, where f raises -/
theorem ds_try {k i : Nat} {p pos1 pos2 np posh pos3 : Pos} {ps : List Str} {ι : Type} {args : ι → List Arg} {val : ι → V} {As' : List As} {n en : Str} {b0 : Stmt} {rest suite : List Stmt} (B : Bx true X N sc ok) (hst : X.stack = X.env :: X.outer) (hfr : X.env.frame = some X.env.locals)
    (F : FnX X.prog X.w X.K X.mg X.base x k ps (spX args C val)) (hr : Room k X.A) (Tx : GvT "given" X.K X.mg n C fI) (j : ι)
    (ha : ∀ pn xe, Bx true (X.tr pn xe) N sc ok → ∀ G, DA (X.tr pn xe) G (frAll env) (e :: es) env1 As') (hA : As'.map (fun A => As.fz A.fr) = (args j).map Arg.pre ∨ As' = (args j).map Arg.pre)
    (hsu : ∀ (a dd : Addr) (oe : Obj) (pn : List (Addr × Obj)), L2N.Zn (.ref C) (some dd) oe → (∃ vs, oe.data = .fields vs) → Bx false (X.suite a ((a, oe) :: pn)) N sc ok → DSs (X.suite a ((a, oe) :: pn)) G (env.set i (some (.fz (isEx a dd (val j))))) (b0 :: suite) (Sut i Pt))
    (hN : N[i]? = some en := by rfl) (hen : sc.names.lookup en = some .local := by rfl) (hil : i < env.length := by exact of_decide_eq_true rfl) (hg : GlS sc x := by rfl) (hgn : GlS sc n := by rfl) (hdb : (x == ("__debug__" : Str)) = false := by decide) (hdn : (n == ("__debug__" : Str)) = false := by decide)
    (he : starEach (e :: es) X.env = (false, eval e X.env) :: starEach es X.env := by rfl) (hpl : (backTo pos (starEach es X.env)).any (·.1) = false := by rfl) (hs : swapsWith (.Call (.Name x p) (e :: es) [] pos) none pos1.line X.env = pure false := by rfl) :
    DS X G env (.Try (.Expr (.Call (.Name x p) (e :: es) [] pos) pos1 :: rest) [.ExceptHandler (some (.Name n np)) (some en) (b0 :: suite) posh] [] [] pos2) Pt := fun T σ H st D d => by
  refine of_ps (L2N.ps_try_as (i := i) (c := .ref C) (Wout := fun _ _ _ _ => False)
    (tb := fun W => fun D σ H => ∀ (pn : List (Addr × Obj)) (xe : Value → Shared → Prop), L2N.Takes (X.tr pn xe) W → PassesOwn (model X.prog X.w) X.A X.env xe → cSs (X.tr pn xe) (.Expr (.Call (.Name x p) (e :: es) [] pos) pos1 :: rest) D σ H)
    (ts := fun a cls dO => fun D σ H => ∀ (oe : Obj) (pn : List (Addr × Obj)), L2N.Zn cls dO oe → (∃ vs, oe.data = .fields vs) → cSs (X.suite a ((a, oe) :: pn)) (b0 :: suite) D σ H)
    hst hfr (by rw [B.N_]; exact B.nd) (by rw [B.N_]; exact hN) (by show X.env.scope.names.lookup en = _; rw [B.sc_]; exact hen) ⟨B.gl hgn, hdn, .inl Tx.gC⟩ (fun u s' ⟨_, _, _, _, _, _, _, _, _, _, _, _, _, _, _, _, w⟩ => w.elim)
    (fun W pn xe tk po => ⟨fun pins s σ' H' D' I h => h pn xe tk po pins s I⟩)
    (fun a oe cls dO pn hz hf => ⟨fun pins s σ' H' D' I h => h oe pn hz hf pins s I⟩)) ?_
  intro pn xe tk po
  have B' := bx_tr B pn xe po
  refine of_pss (pss_cons cS_ps cSs_pss) ?_
  refine callX_at (X := X.tr pn xe) B' F hr tk j (ha pn xe B') hA hg hdb he hpl hs st (fun dd H' st' => ?_) _
  refine ⟨true, Tx.te, fun _ a hna oe pn' hz hf => ?_, fun z => (nomatch z)⟩
  have hS := hsu a dd oe pn' hz hf (bx_suite B hz hf)
  have st5 := st'.freeze
  have st6 : StA G ((.ref a, .fz (isEx a dd (val j))) :: T) env σ H' := by
    obtain ⟨HF, o, o1, o2, h1, ⟨rfl, d2, ed, hx⟩, h3, h4⟩ := st5.top
    cases ed
    exact StA.ofTop (o := []) h1 ⟨rfl, rfl, hx⟩ h3 h4
  refine hS T _ H' (st6.store hil) _ ⟨fun env4 σ4 H4 p h4 => ?_, fun env4 A4 v4 σ4 H4 p h4 => ?_, fun env4 σ4 H4 p h4 => ?_, fun env4 σ4 H4 p h4 => ?_⟩
  · exact d.nx _ _ H4 p (h4.wipe i)
  · exact d.rt _ _ _ _ H4 p h4
  · exact d.bk _ _ H4 p (h4.wipe i)
  · exact d.ct _ _ H4 p (h4.wipe i)
/-- en.given in the suite: the very value, told as slot j tells it -/
theorem pe_gv {a : Addr} {oe : Obj} {cls : Value} {d : Option Addr} {pn : List (Addr × Obj)} {te : TE} {n : Str} (T : GvT "given" X.K X.mg n C fI) (hz : Zc cls d oe) (hf : ∃ vs, oe.data = .fields vs) (he : PE (X.suite a ((a, oe) :: pn)) e te)
    (hb : attributeBase e "given" X.env (eval e X.env) = eval e X.env := by rfl) :
    PE (X.suite a ((a, oe) :: pn)) (.Attribute e "given" pos) (fun σ H Q => te σ H fun x H1 => x = .ref a ∧ cls = .ref C ∧ ∃ (dd : Addr) (v : V), d = some dd ∧ H1 dd = some (.xd [(("given" : Str), v)]) ∧ Q v H1) := by
  refine ⟨fun pins s σ H Q I h => ?_⟩
  refine attr_of hb (thn (he.run pins s σ H _ I h) fun u s1 hh => ?_)
  obtain ⟨x, H1, I1, rx, ex, ec, dd, v, ed, ea, q⟩ := hh
  subst ex
  obtain rfl : u = Value.ref a := rx
  subst ec
  subst ed
  obtain ⟨ha, _⟩ := I1.pin (a, oe) (List.mem_append_left _ List.mem_cons_self)
  obtain ⟨vs, hd⟩ := hf
  have hx : ObjOk X.prog X.w H1 s1.heap dd (.xd [(("given" : Str), v)]) := I1.hok dd _ ea
  obtain ⟨mA, hns, hr⟩ := hx
  obtain ⟨od, ho, hl⟩ := lookIn_ns hns
  have l : List.lookup ("given" : Str) [(("given" : Str), v)] = some v := by simp [List.lookup]
  obtain ⟨u, hu, ru⟩ := RelO.some_of (v := v) (o := mA "given") (by rw [← l]; exact hr "given")
  have J : PySem.W.InstAt s1.heap a oe C (some od) := ⟨ha, hz.1, by unfold PySem.W.notCls; rw [hd] <;> rfl, by rw [hz.2]; exact ho⟩
  exact HandSPX.exc_get I1.kIn J T.ga T.gg T.exC (PySem.W.findObj_own T.hdC T.noN rfl (by rw [hl, hu])) (handed_of ru) ⟨v, H1, I1.tok _, ru, q⟩
theorem de_given {a dd : Addr} {oe : Obj} {pn : List (Addr × Obj)} {n en : Str} {py : Pos} {v : V} (Tx : GvT "given" X.K X.mg n C fI) (hz : L2N.Zn (.ref C) (some dd) oe) (hf : ∃ vs, oe.data = .fields vs) (B : Bx false (X.suite a ((a, oe) :: pn)) N sc ok) (i j : Nat)
    (hi : env[i]? = some (some (.fz (isEx a dd v))) := by rfl) (hj : env[j]? = some (some (.fz (pinV v P))) := by rfl) (hN : N[i]? = some en := by rfl) (hv : Vis sc en := by first | exact Or.inl rfl | exact Or.inr (Or.inl rfl) | exact Or.inr (Or.inr rfl))
    (hd : (en == ("__debug__" : Str)) = false := by decide) (hcd : (en == ("__classdict__" : Str)) = false := by decide) (hb : attributeBase (.Name en py) "given" X.env (eval (.Name en py) X.env) = eval (.Name en py) X.env := by rfl) :
    DE (X.suite a ((a, oe) :: pn)) G env (.Attribute (.Name en py) "given" pos) env (.fz P) := fun T σ H st Q q => by
  refine of_pe (pe_gv Tx hz.zc hf cE_pe hb) ?_
  refine (de_name (X := X.suite a ((a, oe) :: pn)) B i hN hv hi hd hcd) T σ H st _ fun w H1 st1 => ?_
  obtain ⟨HF, ex, ew, hx⟩ := st1.one
  refine ⟨ew, rfl, dd, v, rfl, ex _ _ hx, ?_⟩
  obtain ⟨v', hσ, st2⟩ := st1.pop.read hj
  have ev : v' = v := by
    obtain ⟨HF2, _, h2⟩ := st2.one
    exact h2.1
  subst ev
  exact q _ _ (st2.say fun HF o ha => ⟨ha.1, ha.2.2⟩)
end
end DL

set_option maxHeartbeats 4000000
/-! K21: check_other and steps where they raise. -/
namespace DL
section
open PySem PySem.Spec PyProof.Rows L2
variable {X : Cx} {G : Reg} {env env1 : Ev} {st : Stmt} {sts : List Stmt} {Pt : Out → Prop} {e : Expr} {v : V} {P : FP} {K : PySem.W.Frag}
theorem dss_x (h1 : DS X G env st (fun _ => False)) : DSs X G env (st :: sts) Pt := dss_cons h1 (fun _ p => p.elim) (fun _ _ p => p.elim) (fun _ p => p.elim) (fun _ p => p.elim)
theorem de_unpin (h : DE X G env e env1 (.fz (pinV v P))) : DE X G env e env1 (.fz P) := de_say h fun HF w o hp => ⟨hp.1, hp.2.2⟩
theorem hasTy_pin {t : Value} (h : HasTy K P t) : HasTy K (pinV v P) t := fun HF H w ex hp => h HF H w ex hp.2
end
end DL
namespace K7
open PySem PySem.Spec PyProof.Rows L2 DL Hd
abbrev FX (M : Md) (x : Str) (k : Nat) (ps : List Str) {ι : Type} (args : ι → List DL.Arg) (C : Addr) (val : ι → V) : Prop := FnX M.P M.w M.K M.mg M.base x k ps (spX args C val)
theorem fkx {M : Md} {x : Str} {st : Stmt} {N ps : List Str} {k : Nat} {ι : Type} {args : ι → List DL.Arg} {C : Addr} {val : ι → V} (F : FnD M x st ps) (S : FnScope N ps (defScope st)) (hl : ∀ i, (args i).length = ps.length)
    (hb : ∀ (X : Cx), mdOf X = M → Bx true X N (defScope st) (fun _ => true) → Room k X.A → ∀ (i : ι) (G : Reg) (vs : List V), vs.length = ps.length → L2N.Takes X (wX G C fun v env => v = val i ∧ lentOk (args i) vs env) → DSs X G (env0 (args i) vs N) (defBody st) (fun _ => False)) : FX M x (k + 1) ps args C val := by
  obtain ⟨f, fd, h1, h2, h3⟩ := F
  refine ⟨f, fd, h1, h3.kp, h2, fn_okX (P := M.P) (w := M.w) (K := M.K) (mg := M.mg) (base := M.base) h3 S hl fun X e1 e2 e3 e4 e5 B hr i G vs hv tk => hb X ?_ B hr i G vs hv tk⟩
  obtain ⟨P, w, K, mg, base⟩ := M
  simp only at e1 e2 e3 e4 e5
  subst e1 e2 e3 e4 e5
  rfl
/-- what is no scene of an equal table with as many things -/
inductive BadO (K : PySem.W.Frag) (CT CS : Addr) (T : Tab) (pl : Pl) (P : FP) : Prop
  | ty {t : Value} (h : HasTy K P t) (k : PySem.W.kitOne K t (.ref CS) = some false) : BadO K CT CS T pl P
  | sc {T' : Tab} {pl' : Pl} (e : P = isSc K CT CS T' pl') (s : SOk T pl) (s' : SOk T' pl') (t : TabS T) (t' : TabS T') (b : tabEq T' T = false ∨ pl'.length ≠ pl.length) : BadO K CT CS T pl P
section
variable {M : Md} (nb : NoB M.mg) {CT CS CI fI : Addr} (tc : TbF M.K CT) (sc : ScF M.K CS) (si : InsF M.K CS) (gv : PySem.GvX.GvT "given" M.K M.mg "InvalidOther" CI fI)
abbrev cxArgs (M : Md) (CT CS : Addr) : { i : (Tab × Pl) × V × FP // BadO M.K CT CS i.1.1 i.1.2 i.2.2 } → List DL.Arg := fun i => [.z (isSc M.K CT CS i.1.1.1 i.1.1.2), .z (pinV i.1.2.1 i.1.2.2)]
abbrev cxVal (M : Md) (CT CS : Addr) : { i : (Tab × Pl) × V × FP // BadO M.K CT CS i.1.1 i.1.2 i.2.2 } → V := fun i => i.1.2.1
include nb sc si gv in
theorem ok_check_otherX {fe fl : Addr} (F : FnD M "check_other" (topS 43) ["one", "other"]) (hS : M.mg "Scene" = some (.ref CS)) (f1 : FM M fe 1 ["self", "other"] (teArgs M CT) (fun i => dD M.K (.bool (tabEq i.1.1 i.1.2)))) (e1 : EqF M.K CT fe) (f2 : FM M fl 1 ["self"] (slArgs M CT CS) (fun i => dD M.K (nD i.2.length))) (e2 : LnF M.K CS fl) :
    FX M "check_other" 3 ["one", "other"] (cxArgs M CT CS) CI (cxVal M CT CS) := by
  refine fkx (N := ["one", "other"]) F sc_check_other (fun _ => rfl) ?_
  rintro X rfl B hr ⟨⟨⟨T, pl⟩, u, P⟩, hb⟩ G vs hv tk
  obtain ⟨v, w, rfl⟩ := len2 hv
  simp only at hb
  have tk' : L2N.Takes X (wX G CI fun y env => y = u ∧ lentOk [.z (isSc X.K CT CS T pl), .z (pinV u P)] [v, w] env) := tk
  clear tk
  let E0 : Ev := [some (.fz (isSc X.K CT CS T pl)), some (.fz (pinV u P))]
  have rs : ∀ {Pt : Out → Prop} {pos p1 p2 pos2 : Pos}, DS X G E0 (.Raise (some (.Call (.Name "InvalidOther" p1) [.Name "other" p2] [] pos)) none pos2) Pt := fun {Pt pos p1 p2 pos2} =>
    ds_raise (v := u) B gv hr tk' (de_name (P := pinV u P) B 1) (fun HF w h => h.1) ⟨rfl, trivial⟩
  show DSs X G E0 (defBody (topS 43)) (fun _ => False)
  cases hb with
  | ty ht hk =>
    refine dss_if (env1 := E0) (k := true) (dt_eq (dt_w (dw_or (k := true) (k' := true) (dt_eq (dt_not (dt_val (k := false) (de_nc B (nc_b (cd_isi (hasTy_pin ht) (.own CS) hk) nb.isinstance) (da_cons (de_name B 1) (da_cons (de_glob (v := .ref CS) (P := isV (.ref CS)) B hS rfl (fun _ => rfl)) da_nil)) (.inl rfl)))) rfl) fun h => (nomatch h))) rfl) (fun _ => dss_x rs) (fun h => (nomatch h))
  | sc e hs hs' t1 t2 hbad =>
    subst e
    rename_i T' pl'
    have z1 := hs.tri.sz
    have z2 := hs'.tri.sz
    refine dss_if (env1 := E0) (k := true) (dt_eq (dt_w (dw_or (dt_not (dt_val (de_nc B (nc_b (cd_isi (hasTy_pin si.ty) (.own CS) (kit_refl _ (by simp))) nb.isinstance) (da_cons (de_name B 1) (da_cons (de_glob (v := .ref CS) (P := isV (.ref CS)) B hS rfl (fun _ => rfl)) da_nil)) (.inl rfl)))) fun _ => dw_or (dt_cmp (de_fld (de_unpin (de_name B 1)) sc.cl sc.nt) (de_fld (de_name B 0) sc.cl sc.nt) (opd_neTb f1 e1 hr t2 t1)) fun _ => dw_or1 (dt_cmp (de_nc B (nc_b (cd_lenSc f2 e2 hr T' pl' (by omega)) nb.len) (da_cons (de_unpin (de_name B 1)) da_nil) (.inl rfl)) (de_nc B (nc_b (cd_lenSc f2 e2 hr T pl (by omega)) nb.len) (da_cons (de_name B 0) da_nil) (.inl rfl)) (opd_neI _ _ hr.units)))) ?_) (fun _ => dss_x rs) (fun h => (nomatch h))
    rcases hbad with h | h
    · rw [h]; rfl
    · have : decide (((pl'.length : Nat) : Int) = ((pl.length : Nat) : Int)) = false := decide_eq_false (by omega)
      rw [this]; simp
include sc in
theorem ok_stepsX (F : FnD M "steps" (topS 45) ["one", "other"]) (f1 : FX M "check_other" 3 ["one", "other"] (cxArgs M CT CS) CI (cxVal M CT CS)) : FX M "steps" 4 ["one", "other"] (cxArgs M CT CS) CI (cxVal M CT CS) := by
  refine fkx (N := ["one", "other", "ways", "here", "found"]) F sc_steps (fun _ => rfl) ?_
  rintro X rfl B hr i G vs hv tk
  obtain ⟨v, w, rfl⟩ := len2 hv
  exact dss_x (ds_callX B f1 hr tk i (fun G => da_cons (de_name B 0) (da_cons (de_name B 1) da_nil)) (.inr rfl) ⟨rfl, trivial⟩)
end
end K7

set_option maxHeartbeats 4000000
/-! K22: _law_cell, _law_box, _law_take, _law_mixed, _law_names. -/
namespace DL
section
open PySem PySem.Spec PyProof.Rows L2
variable {κ : Bool} {X : Cx} {N : List Str} {sc : Scope} {ok : Str → Bool} {G : Reg} {env env1 : Ev} {pos py : Pos} {y : Str} {A : As} {e : Expr}
theorem frAll_get {i : Nat} {A : As} (h : env[i]? = some (some A)) : (frAll env)[i]? = some (some (.fz A.fr)) := by
  simp only [frAll, List.getElem?_map, h, Option.map_some]
/-- x[m] of an own list: a scalar -/
theorem de_ownI {q : Option V} {ds : List PyData} {m z : Int} {j} {ip : Pos} (B : Bx κ X N sc ok) (i : Nat) (h : atI ds m = some (.int z)) (hi : env[i]? = some (some ((oL X.K ds).at q)) := by rfl) (hN : N[i]? = some y := by rfl) (hv : Vis sc y := by first | exact Or.inl rfl | exact Or.inr (Or.inl rfl) | exact Or.inr (Or.inr rfl))
    (hd : (y == ("__debug__" : Str)) = false := by decide) (hcd : (y == ("__classdict__" : Str)) = false := by decide) : DE X G env (.Subscript (.Name y py) (.Constant (.int m) j ip) pos) env (dD X.K (.int z)) :=
  de_thaw (fun G => de_ix (de_name (P := isD X.K (.list ds)) B i hN hv (frAll_get hi) hd hcd) de_int (ixd_l h)) sc_int
theorem de_ownB {q : Option V} {ds : List PyData} {m : Int} {z : Bool} {j} {ip : Pos} (B : Bx κ X N sc ok) (i : Nat) (h : atI ds m = some (.bool z)) (hi : env[i]? = some (some ((oL X.K ds).at q)) := by rfl) (hN : N[i]? = some y := by rfl) (hv : Vis sc y := by first | exact Or.inl rfl | exact Or.inr (Or.inl rfl) | exact Or.inr (Or.inr rfl))
    (hd : (y == ("__debug__" : Str)) = false := by decide) (hcd : (y == ("__classdict__" : Str)) = false := by decide) : DE X G env (.Subscript (.Name y py) (.Constant (.int m) j ip) pos) env (dD X.K (.bool z)) :=
  de_thaw (fun G => de_ix (de_name (P := isD X.K (.list ds)) B i hN hv (frAll_get hi) hd hcd) de_int (ixd_l h)) sc_bl
end
end DL
namespace K7
open PySem PySem.Spec PyProof.Rows L2 DL Hd
/-! ### the box of draws -/
structure Bo where
  a : Int
  l : Bool
  c : Int
  k : Nat
def boD (b : Bo) : List PyData := [.int b.a, .bool b.l, .int b.c, nD b.k]
abbrev oB (K : PySem.W.Frag) (b : Bo) : As := oL K (boD b)
/-- so many draws may still come -/
structure BoOk (n : Nat) (b : Bo) : Prop where
  a : 0 ≤ b.a
  c : 0 ≤ b.c
  c2 : b.c < 2147483629
  k : b.k + n ≤ 1099511627776
theorem BoOk.mono {m n : Nat} {b : Bo} (h : BoOk n b) (k : m ≤ n) : BoOk m b := ⟨h.a, h.c, h.c2, by have := h.k; omega⟩
def mixI (b : Bo) : Int := ((b.c + 15486353 * ((b.k + 1 : Nat) : Int) + 179425289) ^ (5 : Nat)) % 2147483647
def takeF (b : Bo) (m : Nat) : Nat × Bo :=
  if b.l && decide (0 < b.a) then ((b.a % m).toNat, { b with a := b.a / m })
  else (((((mixI b * 48271 + 105211 * ((b.k + 1 : Nat) : Int)) ^ (3 : Nat)) % 2147483587 / 64) % m).toNat, { b with k := b.k + 1 })
theorem takeF_lt {b : Bo} {m : Nat} (h : 0 < m) : (takeF b m).1 < m := by
  unfold takeF
  split
  · have h1 := Int.emod_lt_of_pos b.a (show (0 : Int) < m by omega)
    have h2 := Int.emod_nonneg b.a (show (m : Int) ≠ 0 by omega)
    show (b.a % m).toNat < m
    omega
  · have h1 := Int.emod_lt_of_pos ((((mixI b * 48271 + 105211 * ((b.k + 1 : Nat) : Int)) ^ (3 : Nat)) % 2147483587 / 64)) (show (0 : Int) < m by omega)
    have h2 := Int.emod_nonneg ((((mixI b * 48271 + 105211 * ((b.k + 1 : Nat) : Int)) ^ (3 : Nat)) % 2147483587 / 64)) (show (m : Int) ≠ 0 by omega)
    show (_ : Int).toNat < m
    omega
theorem takeF_ok {b : Bo} {m n : Nat} (h : BoOk (n + 1) b) : BoOk n (takeF b m).2 := by
  obtain ⟨h1, h2, h3, h4⟩ := h
  unfold takeF
  split
  · exact ⟨Int.ediv_nonneg h1 (by omega), h2, h3, by show b.k + n ≤ _; omega⟩
  · exact ⟨h1, h2, h3, by show b.k + 1 + n ≤ _; omega⟩
section
variable {M : Md} (nb : NoB M.mg)
theorem sc__law_take : FnScope ["box", "many", "digit", "mixed"] ["box", "many"] (defScope (topS 49)) := ⟨rfl, rfl, rfl, by decide +kernel, rfl, by decide +kernel, by decide +kernel⟩
abbrev takeArgs (M : Md) : { i : Bo × Nat // BoOk 1 i.1 ∧ 0 < i.2 ∧ i.2 < 1073741824 } → List DL.Arg := fun i => [.l (oB M.K i.1.1) (oB M.K (takeF i.1.1 i.1.2).2), .z (isD M.K (nD i.1.2))]
theorem take_nn {x : Int} {m : Nat} (hm : 0 < m) : ((x % (m : Int)).toNat : Int) = x % (m : Int) := Int.toNat_of_nonneg (Int.emod_nonneg x (by omega))
include nb in
theorem ok__law_take (F : FnD M "_law_take" (topS 49) ["box", "many"]) : FK M "_law_take" 1 ["box", "many"] (takeArgs M) (fun i => dD M.K (nD (takeF i.1.1 i.1.2).1)) := by
  refine fk (N := ["box", "many", "digit", "mixed"]) F sc__law_take (fun _ => rfl) ?_
  rintro X rfl B hr ⟨⟨b, m⟩, hb, hm0, hm1⟩ G vs hv
  obtain ⟨v, w, rfl⟩ := len2 hv
  simp only at hb hm0 hm1
  obtain ⟨h1, h2, h3, h4⟩ := hb
  let E (ds : List PyData) (d x : Option As) : Ev := [some ((oL X.K ds).at (some v)), some (dD X.K (nD m)), d, x]
  have ci : ∀ z : Int, NC X "int" [dD X.K (.int z)] [dD X.K (.int z)] (dD X.K (.int z)) := fun z => nc_t (cd_int z) nb.int
  refine dss_if (env1 := E (boD b) none none) (k := b.l && decide (0 < b.a)) (dt_w (dw_and (dt_val (de_ownB (z := b.l) B 0 rfl)) fun _ => dw_and1 (dt_cmp (de_ownI (z := b.a) B 0 rfl) de_int (opd_gt _ _)))) (fun h => ?_) (fun h => ?_)
  · have e : takeF b m = ((b.a % m).toNat, { b with a := b.a / m }) := by unfold takeF; rw [if_pos h]
    refine dss_go (env1 := E (boD b) (some (dD X.K (.int (b.a % m)))) none) (ds_set B 2 (de_bin (de_nc B (ci b.a) (da_cons (de_ownI B 0 rfl) da_nil) (.inl rfl)) (de_name B 1) (opd_mod _ _ (by omega)))) ?_
    refine dss_go (env1 := E ((boD b).set 0 (.int (b.a / m))) (some (dD X.K (.int (b.a % m)))) none) (ds_asg (de_bin (de_nc B (ci b.a) (da_cons (de_ownI B 0 rfl) da_nil) (.inl rfl)) (de_name B 1) (opd_fdiv _ _ ⟨by omega, by omega⟩)) (dg_setI B 0 rfl de_int (by rfl))) ?_
    refine dss_end (ds_ret (A := dD X.K (.int (b.a % m))) (de_name B 2) ⟨⟨?_, ?_, trivial⟩, fun _ z => (nomatch z)⟩)
    · show _ = dD X.K (nD (takeF b m).1)
      rw [e, nD, take_nn hm0]
    · show some _ = some ((oB X.K (takeF b m).2).at (some v))
      rw [e]; rfl
  · have e : takeF b m = (((((mixI b * 48271 + 105211 * ((b.k + 1 : Nat) : Int)) ^ (3 : Nat)) % 2147483587 / 64) % m).toNat, { b with k := b.k + 1 }) := by unfold takeF; rw [if_neg (by rw [h]; simp)]
    have ek : ((b.k + 1 : Nat) : Int) = (b.k : Int) + 1 := by omega
    have hmx : 0 ≤ mixI b ∧ mixI b < 2147483647 := ⟨Int.emod_nonneg _ (by decide), Int.emod_lt_of_pos _ (by decide)⟩
    refine dss_go (env1 := E ((boD b).set 3 (nD (b.k + 1))) none none) (ds_asg (A := dD X.K (nD (b.k + 1))) (de_eq (de_bin (de_ownI (z := ((b.k : Nat) : Int)) B 0 rfl) de_int (opd_add _ _)) (by rw [nD, ek])) (dg_setI B 0 rfl de_int (by rfl))) ?_
    refine dss_go (env1 := E ((boD b).set 3 (nD (b.k + 1))) none (some (dD X.K (.int (mixI b))))) (ds_set B 3 (de_bin (de_nc B (ci ((b.c + 15486353 * ((b.k + 1 : Nat) : Int) + 179425289) ^ (5 : Nat))) (da_cons (de_bin (de_bin (de_bin (de_ownI (z := b.c) B 0 rfl) (de_bin de_int (de_ownI (z := ((b.k + 1 : Nat) : Int)) B 0 rfl) (opd_mul _ _ (.inl ⟨by decide, by decide⟩))) (opd_add _ _)) de_int (opd_add _ _)) de_int (opd_pow _ _ ⟨by decide, by decide, by omega⟩)) da_nil) (.inl rfl)) de_int (opd_mod _ _ (by decide)))) ?_
    refine dss_end (ds_ret (A := dD X.K (.int ((((mixI b * 48271 + 105211 * ((b.k + 1 : Nat) : Int)) ^ (3 : Nat)) % 2147483587 / 64) % m))) (de_bin (de_bin (de_bin (de_nc B (ci ((mixI b * 48271 + 105211 * ((b.k + 1 : Nat) : Int)) ^ (3 : Nat))) (da_cons (de_bin (de_bin (de_bin (de_name B 3) de_int (opd_mul _ _ (.inr ⟨by decide, by decide⟩))) (de_bin de_int (de_ownI (z := ((b.k + 1 : Nat) : Int)) B 0 rfl) (opd_mul _ _ (.inl ⟨by decide, by decide⟩))) (opd_add _ _)) de_int (opd_pow _ _ ⟨by decide, by decide, by omega⟩)) da_nil) (.inl rfl)) de_int (opd_mod _ _ (by decide))) de_int (opd_fdiv _ _ ⟨by decide, by decide⟩)) (de_name B 1) (opd_mod _ _ (by omega))) ⟨?_, ?_, trivial⟩)
    · show _ = dD X.K (nD (takeF b m).1)
      rw [e, nD, take_nn hm0]
    · show some _ = some ((oB X.K (takeF b m).2).at (some v))
      rw [e]; rfl
theorem sc__law_box : FnScope ["great"] ["great"] (defScope (topS 48)) := ⟨rfl, rfl, rfl, by decide +kernel, rfl, by decide +kernel, by decide +kernel⟩
def absI (z : Int) : Int := if z < 0 then -z else z
def boxF (z : Int) : Bo := ⟨absI z, decide ((10 : Int) ^ (18 : Int).toNat ≤ absI z), absI z % 2147483629, 0⟩
theorem boxF_ok (z : Int) : BoOk 1099511627776 (boxF z) := by
  refine ⟨?_, Int.emod_nonneg _ (by decide), Int.emod_lt_of_pos _ (by decide), by show 0 + _ ≤ _; omega⟩
  show 0 ≤ absI z
  unfold absI; split <;> omega
include nb in
theorem ok__law_box (F : FnD M "_law_box" (topS 48) ["great"]) : FK M "_law_box" 1 ["great"] (fun z : Int => [.z (isD M.K (.int z))]) (fun z => oLn M.K (boD (boxF z))) := by
  refine fk (N := ["great"]) F sc__law_box (fun _ => rfl) ?_
  rintro X rfl B hr z G vs hv
  obtain ⟨v, rfl⟩ := len1 hv
  have ca : NC X "abs" [dD X.K (.int z)] [dD X.K (.int z)] (dD X.K (.int (absI z))) := nc_b (cd_abs z) nb.abs
  have ci : NC X "int" [dD X.K (.int (absI z))] [dD X.K (.int (absI z))] (dD X.K (.int (absI z))) := nc_t (cd_int _) nb.int
  exact dss_end (ds_ret (A := oLn X.K (boD (boxF z))) (de_lstD (dad_cons (de_nc B ca (da_cons (de_name B 0) da_nil) (.inl rfl)) rfl (dad_cons (de_cmp (de_nc B ca (da_cons (de_name B 0) da_nil) (.inl rfl)) (de_bin de_int de_int (opd_pow _ _ ⟨by decide, by decide, by decide⟩)) (opd_ge _ _)) rfl (dad_cons (de_bin (de_nc B ci (da_cons (de_nc B ca (da_cons (de_name B 0) da_nil) (.inl rfl)) da_nil) (.inl rfl)) de_int (opd_mod _ _ (by decide))) rfl (dad_cons de_int rfl dad_nil)))) (hz := by show (4 : Nat) ≤ sizeLine; have := sizeLine_eq; omega)) ⟨rfl, trivial⟩)
theorem sc__law_cell : FnScope ["script", "k"] ["script", "k"] (defScope (topS 47)) := ⟨rfl, rfl, rfl, by decide +kernel, rfl, by decide +kernel, by decide +kernel⟩
def cellF (zs : List Int) (k : Nat) : Int := match zs[k]? with
  | some z => z
  | none => 6353 * (k : Int) + (zs.take 1).sum % 1000033
include nb in
theorem ok__law_cell (F : FnD M "_law_cell" (topS 47) ["script", "k"]) : FK M "_law_cell" 1 ["script", "k"] (fun i : List Int × Nat => [.z (isD M.K (.list (i.1.map .int))), .z (isD M.K (nD i.2))]) (fun i => dD M.K (.int (cellF i.1 i.2))) := by
  refine fk (N := ["script", "k"]) F sc__law_cell (fun _ => rfl) ?_
  rintro X rfl B hr ⟨zs, k⟩ G vs hv
  obtain ⟨v, w, rfl⟩ := len2 hv
  let E : Ev := [some (dD X.K (.list (zs.map .int))), some (dD X.K (nD k))]
  refine dss_end (ds_ret (env1 := E) (A := dD X.K (.int (cellF zs k))) (de_if (env1 := E) (k := decide (((k : Nat) : Int) < ((zs.map PyData.int).length : Nat))) (dt_cmp (de_name B 1) (de_nc B (nc_b cd_lenL nb.len) (da_cons (de_name (P := isD X.K (.list (zs.map .int))) B 0) da_nil) (.inl rfl)) (opd_lt _ _)) (fun h => ?_) (fun h => ?_)) ⟨rfl, trivial⟩)
  · have hk : k < zs.length := by simpa using h
    have e : cellF zs k = zs[k] := by unfold cellF; rw [List.getElem?_eq_getElem hk]
    refine de_ix (de_name (P := isD X.K (.list (zs.map .int))) B 0) (de_name (P := isD X.K (nD k)) B 1) (ixd_l (atI_nat ?_))
    rw [List.getElem?_map, List.getElem?_eq_getElem hk, e]; rfl
  · have hk : zs.length ≤ k := by simpa using h
    have e : cellF zs k = 6353 * (k : Int) + (zs.take 1).sum % 1000033 := by unfold cellF; rw [List.getElem?_eq_none hk]
    have ec : DL.cutD (zs.map PyData.int) none (some 1) = (zs.take 1).map .int := by
      cases zs with
      | nil => rfl
      | cons a l => simp [DL.cutD, HT.sIx]
    refine de_eq (de_bin (de_bin de_int (de_name (P := isD X.K (nD k)) B 1) (opd_mul _ _ (.inl ⟨by decide, by decide⟩))) (de_bin (de_nc B (nc_t (cd_int _) nb.int) (da_cons (de_nc B (nc_b (cd_sum B.calm (zs.take 1)) nb.sum) (da_cons (de_eq (de_frz (de_slL (de_name (P := isD X.K (.list (zs.map .int))) B 0) rfl do_none (do_some de_int))) (by show As.fz (isD X.K (.list (DL.cutD _ _ _))) = _; rw [ec])) da_nil) (.inl rfl)) da_nil) (.inl rfl)) de_int (opd_mod _ _ (by decide))) (opd_add _ _)) (by rw [e])
end
end K7

set_option maxHeartbeats 4000000
/-! K23: _law_mixed, _law_names. -/
namespace DL
section
open PySem PySem.Spec PyProof.Rows L2
variable {X : Cx} {G : Reg} {env : Ev}
/-- texts, written out -/
inductive Cs : List Expr → List PyData → Prop
  | nil : Cs [] []
  | cons {z : Str} {j} {p : Pos} {es : List Expr} {ds : List PyData} : Cs es ds → Cs (.Constant (.str z) j p :: es) (.str z :: ds)
theorem dad_cs {es : List Expr} {ds : List PyData} (h : Cs es ds) : DAD X G env es env ds := by
  induction h with
  | nil => exact dad_nil
  | cons _ ih => exact dad_cons de_str rfl ih
theorem star_list (xs : List Expr) (p : Pos) (es : List Expr) (env : Env) : starEach (.List xs p :: es) env = (false, eval (.List xs p) env) :: starEach es env := rfl
theorem star_name (x : Str) (p : Pos) (es : List Expr) (env : Env) : starEach (.Name x p :: es) env = (false, eval (.Name x p) env) :: starEach es env := rfl
theorem star_nil (env : Env) : starEach [] env = [] := rfl
theorem bt_list (pos : Pos) (xs : List Expr) (p : Pos) (env : Env) : (backTo pos (starEach [.List xs p] env)).any (·.1) = false := by rw [star_list, star_nil]; rfl
end
end DL
namespace K7
open PySem PySem.Spec PyProof.Rows L2 DL Hd
section
variable {α β : Type}
theorem erase_map (f : α → β) : ∀ (l : List α) (i : Nat), (l.map f).eraseIdx i = (l.eraseIdx i).map f
  | [], _ => rfl
  | _ :: _, 0 => rfl
  | a :: l, i + 1 => by
    show f a :: (l.map f).eraseIdx i = _
    rw [erase_map f l i]; rfl
theorem erase_perm : ∀ (l : List α) (i : Nat) (h : i < l.length), (l[i] :: l.eraseIdx i).Perm l
  | [], _, h => by cases h
  | _ :: _, 0, _ => List.Perm.refl _
  | a :: l, i + 1, h => (List.Perm.swap a (l[i]'(by simpa using h)) (l.eraseIdx i)).trans (List.Perm.cons a (erase_perm l i (by simpa using h)))
/-- left, drawn one by one behind found -/
def mixF : Nat → Bo → List α → List α → List α × Bo
  | 0, b, _, found => (found, b)
  | n + 1, b, left, found => if left.length = 0 then (found, b) else mixF n (takeF b left.length).2 (left.eraseIdx (takeF b left.length).1) (found ++ left[(takeF b left.length).1]?.toList)
def mixed (b : Bo) (xs : List α) : List α × Bo := mixF xs.length b xs []
theorem mixF_map (f : α → β) : ∀ (n : Nat) (b : Bo) (left found : List α), mixF n b (left.map f) (found.map f) = ((mixF n b left found).1.map f, (mixF n b left found).2)
  | 0, _, _, _ => rfl
  | n + 1, b, left, found => by
    unfold mixF
    rw [List.length_map]
    by_cases h : left.length = 0
    · rw [if_pos h, if_pos h]
    · rw [if_neg h, if_neg h, ← mixF_map f n]
      congr 1
      · rw [erase_map]
      · rw [List.map_append, List.getElem?_map]
        cases left[(takeF b left.length).1]? <;> rfl
theorem mixed_map (f : α → β) (b : Bo) (xs : List α) : mixed b (xs.map f) = ((mixed b xs).1.map f, (mixed b xs).2) := by
  unfold mixed
  rw [List.length_map]
  exact mixF_map f xs.length b xs []
theorem mixF_perm : ∀ (n : Nat) (b : Bo) (left found : List α), left.length ≤ n → (mixF n b left found).1.Perm (found ++ left)
  | 0, _, left, found, h => by
    have : left = [] := List.length_eq_zero_iff.mp (by omega)
    subst this
    rw [List.append_nil]
    exact List.Perm.refl _
  | n + 1, b, left, found, h => by
    unfold mixF
    by_cases h0 : left.length = 0
    · rw [if_pos h0, List.length_eq_zero_iff.mp h0, List.append_nil]
    · rw [if_neg h0]
      have hi := takeF_lt (b := b) (show 0 < left.length by omega)
      refine (mixF_perm n _ _ _ (by rw [List.length_eraseIdx_of_lt hi]; omega)).trans ?_
      rw [List.getElem?_eq_getElem hi]
      show (found ++ [left[(takeF b left.length).1]] ++ left.eraseIdx (takeF b left.length).1).Perm _
      rw [List.append_assoc]
      exact List.Perm.append_left found (erase_perm left _ hi)
theorem mixed_perm (b : Bo) (xs : List α) : (mixed b xs).1.Perm xs := mixF_perm xs.length b xs [] (Nat.le_refl _)
theorem mixF_ok : ∀ (n m : Nat) (b : Bo) (left found : List α), BoOk (m + n) b → BoOk m (mixF n b left found).2
  | 0, m, _, _, _, h => h
  | n + 1, m, b, left, found, h => by
    unfold mixF
    by_cases h0 : left.length = 0
    · rw [if_pos h0]; exact h.mono (by omega)
    · rw [if_neg h0]
      exact mixF_ok n m _ _ _ (takeF_ok (n := m + n) h)
theorem mixed_ok {m : Nat} {b : Bo} {xs : List α} (h : BoOk (m + xs.length) b) : BoOk m (mixed b xs).2 := mixF_ok _ m b xs [] h
end
section
variable {M : Md} (nb : NoB M.mg)
theorem sc__law_mixed : FnScope ["box", "items", "left", "found"] ["box", "items"] (defScope (topS 50)) := ⟨rfl, rfl, rfl, by decide +kernel, rfl, by decide +kernel, by decide +kernel⟩
structure MxOk (b : Bo) (ds : List PyData) : Prop where
  b : BoOk ds.length b
  s : ∀ d ∈ ds, Shp 3 d
  z : ds.length ≤ 1000
abbrev mixArgs (M : Md) : { i : Bo × List PyData // MxOk i.1 i.2 } → List DL.Arg := fun i => [.l (oB M.K i.1.1) (oB M.K (mixed i.1.1 i.1.2).2), .z (isD M.K (.list i.1.2))]
theorem shp_list {n : Nat} {ds : List PyData} (h : ∀ d ∈ ds, Shp n d) : Shp (n + 1) (.list ds) := by
  have := shp_l (f := id) (l := ds) h
  rwa [List.map_id] at this
include nb in
theorem ok__law_mixed (F : FnD M "_law_mixed" (topS 50) ["box", "items"]) (f1 : FK M "_law_take" 1 ["box", "many"] (takeArgs M) (fun i => dD M.K (nD (takeF i.1.1 i.1.2).1))) : FK M "_law_mixed" 2 ["box", "items"] (mixArgs M) (fun i => oLn M.K (mixed i.1.1 i.1.2).1) := by
  refine fk (N := ["box", "items", "left", "found"]) F sc__law_mixed (fun _ => rfl) ?_
  rintro X rfl B hr ⟨⟨b, ds⟩, hb, hs, hz⟩ G vs hv
  obtain ⟨v, w, rfl⟩ := len2 hv
  simp only at hb hs hz
  have hsz := sizeLine_eq
  let E (a : Bo × List PyData × List PyData) : Ev := [some ((oB X.K a.1).at (some v)), some (dD X.K (.list ds)), some (oLn X.K a.2.1), some (oLn X.K a.2.2)]
  refine dss_go (env1 := E (b, ds, [])) (ds_par2 B 2 3 (da_cons (de_nc B (nc_t (cd_listL (ds := ds)) nb.list) (da_cons (de_name B 1) da_nil) (.inl rfl)) (da_cons (de_lstD dad_nil) da_nil))) ?_
  refine dss_go (env1 := E ((mixed b ds).2, [], (mixed b ds).1)) (ds_whileN (α := Bo × List PyData × List PyData) B (fun a => a.2.1.length) E (fun a => mixF a.2.1.length a.1 a.2.1 a.2.2 = mixed b ds ∧ BoOk a.2.1.length a.1 ∧ (∀ d ∈ a.2.1, Shp 3 d) ∧ a.2.1.length + a.2.2.length ≤ 1000) (b, ds, []) ⟨rfl, hb, hs, by simpa using hz⟩ (Wk.refl _) (fun a hI => ?_)) (dss_end (ds_ret (de_move B 3) ⟨rfl, rfl, trivial⟩))
  obtain ⟨b1, left, found⟩ := a
  obtain ⟨h1, h2, h3, h4⟩ := hI
  simp only at h1 h2 h3 h4
  refine ⟨!decide (left = []), E (b1, left, found), dt_thaw (fun G' => dt_eq (dt_cmp (de_name (P := isD X.K (.list left)) B 2) (de_lstD dad_nil) (opd_ne (d := .list left) (d' := .list []) hr.units ((shp_list h3).ok (by omega)) (by decide +kernel))) (by rw [eqv_nil])), fun hk => ?_, fun hk => ?_⟩
  · have hne : left ≠ [] := by simpa using hk
    have hl : 0 < left.length := List.length_pos_iff.mpr hne
    have hi := takeF_lt (b := b1) hl
    have h2' : BoOk (left.length - 1 + 1) b1 := h2.mono (by omega)
    refine ⟨((takeF b1 left.length).2, left.eraseIdx (takeF b1 left.length).1, found ++ [left[(takeF b1 left.length).1]]), ?_, ⟨?_, ?_, fun d hd => h3 d (List.mem_of_mem_eraseIdx hd), ?_⟩, ?_⟩
    · show (left.eraseIdx _).length < left.length
      rw [List.length_eraseIdx_of_lt hi]; omega
    · rw [← h1]
      show mixF (left.eraseIdx _).length _ _ _ = mixF left.length b1 left found
      rw [List.length_eraseIdx_of_lt hi]
      obtain ⟨n, hn⟩ : ∃ n, left.length = n + 1 := ⟨left.length - 1, by omega⟩
      have e : mixF left.length b1 left found = mixF (n + 1) b1 left found := by rw [hn]
      rw [e, mixF, if_neg (by omega), List.getElem?_eq_getElem hi, show left.length - 1 = n by omega]; rfl
    · show BoOk (left.eraseIdx _).length _
      rw [List.length_eraseIdx_of_lt hi]
      exact takeF_ok h2'
    · simp only [List.length_append, List.length_cons, List.length_nil]
      rw [List.length_eraseIdx_of_lt hi]; omega
    · have hlen : ∀ {p1 p2 p3 : Pos}, DE X G (E (b1, left, found)) (.Call (.Name "len" p1) [.Name "left" p2] [] p3) (E (b1, left, found)) (dD X.K (nD left.length)) :=
        fun {p1 p2 p3} => de_thaw (fun G' => de_nc B (nc_b (cd_lenL (ds := left)) nb.len) (da_cons (de_name (P := isD X.K (.list left)) B 2) da_nil) (.inl rfl)) sc_int
      refine dss_end (ds_last (ds_expr (de_append (q := none) (ds := found) (d := left[(takeF b1 left.length).1]) B 3 (de_popAt (q := none) (ds := left) (m := (takeF b1 left.length).1) B 2 (de_ncL (q := some v) (A := oB X.K b1) B 0 (nk f1 hr ⟨(b1, left.length), h2.mono (by omega), hl, by omega⟩) (da_cons hlen da_nil) (.inl rfl) (hf := let ⟨f, _, h, _⟩ := f1; ⟨f, h⟩)) (List.getElem?_eq_getElem hi) (by omega)) rfl (hz := by omega))) ?_)
      exact Wk.refl _
  · have hn : left = [] := by simpa using hk
    subst hn
    have e : (found, b1) = mixed b ds := h1
    rw [← e]; rfl
theorem nc_mixed {X : Cx} {α : Type} {m : Nat} {b : Bo} (f : α → PyData) (xs : List α) (f1 : FK (mdOf X) "_law_mixed" 2 ["box", "items"] (mixArgs (mdOf X)) (fun i => oLn X.K (mixed i.1.1 i.1.2).1)) (hr : Room m X.A) (hb : BoOk xs.length b) (hs : ∀ a ∈ xs, Shp 3 (f a)) (hz : xs.length ≤ 1000) (hm : 2 ≤ m := by omega) :
    NC X "_law_mixed" [(oB X.K b).at none, dD X.K (.list (xs.map f))] [(oB X.K (mixed b xs).2).at none, dD X.K (.list (xs.map f))] (oLn X.K ((mixed b xs).1.map f)) := by
  have C := nk f1 hr ⟨(b, xs.map f), by rw [List.length_map]; exact hb, fun d hd => (by
    obtain ⟨a, ha, rfl⟩ := List.mem_map.mp hd
    exact hs a ha), by rw [List.length_map]; exact hz⟩ hm
  have e := mixed_map f b xs
  have C2 : NC X "_law_mixed" [(oB X.K b).at none, dD X.K (.list (xs.map f))] [(oB X.K (mixed b (xs.map f)).2).at none, dD X.K (.list (xs.map f))] (oLn X.K (mixed b (xs.map f)).1) := C
  rw [e] at C2
  exact C2
theorem nc_take {X : Cx} {m n : Nat} {b : Bo} (f1 : FK (mdOf X) "_law_take" 1 ["box", "many"] (takeArgs (mdOf X)) (fun i => dD X.K (nD (takeF i.1.1 i.1.2).1))) (hr : Room m X.A) (hb : BoOk 1 b) (h0 : 0 < n) (h1 : n < 1073741824) (hm : 1 ≤ m := by omega) :
    NC X "_law_take" [(oB X.K b).at none, dD X.K (nD n)] [(oB X.K (takeF b n).2).at none, dD X.K (nD n)] (dD X.K (nD (takeF b n).1)) := nk f1 hr ⟨(b, n), hb, h0, h1⟩ hm
theorem sc__law_names : FnScope ["box", "many"] ["box", "many"] (defScope (topS 52)) := ⟨rfl, rfl, rfl, by decide +kernel, rfl, by decide +kernel, by decide +kernel⟩
def tenN : List Str := ["up", "down", "tie", "bare", "x", "y", "left", "right", "lone", "zwilling"]
def namesF (b : Bo) (m : Nat) : List Str := (mixed b tenN).1.take m
abbrev lnArgs (M : Md) : { i : Bo × Nat // BoOk 10 i.1 ∧ i.2 ≤ 10 } → List DL.Arg := fun i => [.l (oB M.K i.1.1) (oB M.K (mixed i.1.1 tenN).2), .z (isD M.K (nD i.1.2))]
include nb in
theorem ok__law_names (F : FnD M "_law_names" (topS 52) ["box", "many"]) (f1 : FK M "_law_mixed" 2 ["box", "items"] (mixArgs M) (fun i => oLn M.K (mixed i.1.1 i.1.2).1)) : FK M "_law_names" 3 ["box", "many"] (lnArgs M) (fun i => oLn M.K ((namesF i.1.1 i.1.2).map .str)) := by
  refine fk (N := ["box", "many"]) F sc__law_names (fun _ => rfl) ?_
  rintro X rfl B hr ⟨⟨b, m⟩, hb, hm⟩ G vs hv
  obtain ⟨v, w, rfl⟩ := len2 hv
  simp only at hb hm
  have hsz := sizeLine_eq
  have hml : (mixed b tenN).1.length = 10 := (mixed_perm b tenN).length_eq
  have e1 := mixed_map PyData.str b tenN
  have ec : DL.cutD ((mixed b tenN).1.map PyData.str) none (some ((m : Nat) : Int)) = (namesF b m).map .str := by
    rw [cut_to (by rw [List.length_map]; omega), namesF, List.map_take]
  have C := nc_mixed (b := b) PyData.str tenN f1 hr hb (fun z hz => (shp_s ((by decide +kernel : ∀ z ∈ tenN, PyData.strOk z = true) z hz)).mono (by omega)) (by decide)
  refine dss_end (ds_ret (A := oLn X.K (DL.cutD ((mixed b tenN).1.map PyData.str) none (some ((m : Nat) : Int)))) (de_slL (de_ncL (q := some v) (A := oB X.K b) B 0 C (da_cons (de_lstD (ds := tenN.map .str) (dad_cs (.cons (.cons (.cons (.cons (.cons (.cons (.cons (.cons (.cons (.cons .nil))))))))))) (hz := by rw [List.length_map]; show (10 : Nat) ≤ _; omega)) da_nil (hst := star_list _ _ _ _)) (.inl rfl) (he := star_name _ _ _ _) (hpl := bt_list _ _ _ _) (hf := let ⟨f, _, h, _⟩ := f1; ⟨f, h⟩)) rfl do_none (do_some (de_name B 1))) ⟨by rw [ec]; rfl, rfl, trivial⟩)
end
end K7

set_option maxHeartbeats 4000000
/-! K24: list(range(n)), _law_lots, _law_backs. -/
namespace DL
section
open PySem PySem.Spec PyProof.Rows L2
variable {κ : Bool} {X : Cx} {N : List Str} {sc : Scope} {ok : Str → Bool} {G : Reg} {env env1 : Ev} {a : Expr} {p p2 pos pos2 : Pos}
theorem de_listRg {n : Nat} (B : Bx true X N sc ok) (h : DE X G env a env1 (dD X.K (.int (n : Nat)))) (hml : X.mg "list" = none) (hmr : X.mg "range" = none) (hn : n ≤ 16777216) (hgl : GlS sc "list" := by rfl) (hgr : GlS sc "range" := by rfl)
    (na : starEach [a] X.env = (false, eval a X.env) :: starEach [] X.env := by rfl) (na2 : starEach [.Call (.Name "range" p2) [a] [] pos2] X.env = (false, eval (.Call (.Name "range" p2) [a] [] pos2) X.env) :: starEach [] X.env := by rfl) :
    DE X G env (.Call (.Name "list" p) [.Call (.Name "range" p2) [a] [] pos2] [] pos) env1 (oLn X.K ((List.range n).map fun i => .int (i : Nat))) :=
  de_of (pe_listRg B.calm (B.gl hgl) hml (prg_1 (B.gl hgr) hmr cE_pe na) na2) fun T σ H hs Q q => h T σ H hs _ fun v H1 h1 => by
    obtain ⟨HF, o, o1, o2, k1, ⟨rfl, hv⟩, t, s⟩ := h1.top
    refine ⟨n, dpI hv, RgOk.of_le (by omega) (by omega) (by omega) (by omega), fun q0 hq => q _ _ ?_⟩
    have k1' : Held G HF (o1 ++ o2) H1 := k1
    refine StA.newO k1' t s hq ⟨fun _ z => (nomatch z), q0, _, rfl, rfl, ?_⟩
    have e : rgV 0 (n : Int) = (List.range n).map fun i => V.int (i : Nat) := by
      unfold rgV
      rw [show ((n : Int) - 0).toNat = n by omega]
      exact List.map_congr_left fun i _ => by rw [Int.zero_add]
    rw [e]
    generalize List.range n = l
    induction l with
    | nil => exact .nil
    | cons x l ih => exact .cons (.int _) ih
end
end DL
namespace K7
open PySem PySem.Spec PyProof.Rows L2 DL Hd
section
variable {M : Md} (nb : NoB M.mg)
/-! ### the lots -/
def leastB (back : List Nat) (x : Tr) : Bool := PyData.eqv (PySem.W.minD (tD x) (((six (bk back) x).drop 1).map tD)) (tD x)
def lotsR (back : List Nat) (r s : Nat) : List Tr := ((List.range back.length).filter fun t => leastB back (r, s, t)).map fun t => (r, s, t)
def lotsF (back : List Nat) : List Tr := (List.range back.length).flatMap fun r => (List.range back.length).flatMap fun s => lotsR back r s
theorem lotsR_len (back : List Nat) (r s : Nat) : (lotsR back r s).length ≤ back.length := by
  unfold lotsR
  rw [List.length_map]
  exact Nat.le_trans (List.length_filter_le _ _) (by rw [List.length_range]; omega)
theorem lotsF_in {back : List Nat} {x : Tr} (h : x ∈ lotsF back) : trIn back.length x := by
  simp only [lotsF, lotsR, List.mem_flatMap, List.mem_map, List.mem_filter, List.mem_range] at h
  obtain ⟨r, hr, s, hs, t, ⟨ht, _⟩, rfl⟩ := h
  exact ⟨hr, hs, ht⟩
theorem lotsF_len (back : List Nat) (h : back.length ≤ 5) : (lotsF back).length ≤ 125 := by
  refine Nat.le_trans (flat_bound _ 25 _ fun r _ => Nat.le_trans (flat_bound _ 5 _ fun s _ => Nat.le_trans (lotsR_len back r s) h) ?_) ?_
  · rw [List.length_range]; omega
  · rw [List.length_range]; omega
theorem shp_tD (x : Tr) : Shp 1 (tD x) := by
  have := shp_t (n := 0) (f := nD) (l := [x.1, x.2.1, x.2.2]) fun a _ => shp_n a
  exact this
theorem minD_mem : ∀ (xs : List PyData) (x : PyData), PySem.W.minD x xs ∈ x :: xs
  | [], x => List.mem_singleton.mpr rfl
  | y :: xs, x => by
    have e : PySem.W.minD x (y :: xs) = PySem.W.minD (if PySem.W.dataLt y x then y else x) xs := rfl
    rw [e]
    have h := minD_mem xs (if PySem.W.dataLt y x then y else x)
    rcases List.mem_cons.mp h with h | h
    · rw [h]
      split
      · exact List.mem_cons_of_mem _ List.mem_cons_self
      · exact List.mem_cons_self
    · exact List.mem_cons_of_mem _ (List.mem_cons_of_mem _ h)
theorem six_cons (b : Nat → Nat) (x : Tr) : (six b x).map tD = tD x :: ((six b x).drop 1).map tD := rfl
theorem min_six (b : Nat → Nat) (x : Tr) : ∃ y : Tr, PySem.W.minD (tD x) (((six b x).drop 1).map tD) = tD y := by
  have h := minD_mem (((six b x).drop 1).map tD) (tD x)
  rw [← six_cons] at h
  obtain ⟨y, _, e⟩ := List.mem_map.mp h
  exact ⟨y, e.symm⟩
theorem wk_eq {env env' : Ev} (h : env = env') : Wk env env' := h ▸ Wk.refl env
theorem sc__law_lots : FnScope ["back", "found", "many", "r", "s", "t"] ["back"] (defScope (topS 54)) := ⟨rfl, rfl, rfl, by decide +kernel, rfl, by decide +kernel, by decide +kernel⟩
abbrev lotsArgs (M : Md) : { back : List Nat // BkOk back } → List DL.Arg := fun i => [.z (isD M.K (.list (bD i.1)))]
include nb in
theorem ok__law_lots (F : FnD M "_law_lots" (topS 54) ["back"]) (f1 : FK M "_law_six" 1 ["back", "three"] (sixArgs M) (fun i => oLn M.K ((six (bk i.1.1) i.1.2).map tD))) : FK M "_law_lots" 2 ["back"] (lotsArgs M) (fun i => oLn M.K ((lotsF i.1).map tD)) := by
  refine fk (N := ["back", "found", "many", "r", "s", "t"]) F sc__law_lots (fun _ => rfl) ?_
  rintro X rfl B hr ⟨back, hbk⟩ G vs hv
  obtain ⟨v, rfl⟩ := len1 hv
  have hsz := sizeLine_eq
  have hu := B.un
  have h5 := hbk.hi
  let m := back.length
  let E (l : List Tr) (a b c : Option As) : Ev := [some (dD X.K (.list (bD back))), some (oLn X.K (l.map tD)), some (dD X.K (nD m)), a, b, c]
  have hlb : (bD back).length = m := by rw [bD, List.length_map]
  refine dss_go (env1 := E [] none none none) (ds_par2 B 1 2 (da_cons (de_lstD dad_nil) (da_cons (de_eq (de_nc B (nc_b cd_lenL nb.len) (da_cons (de_name B 0) da_nil) (.inl rfl)) (by rw [hlb]; rfl)) da_nil))) ?_
  let F1 : Nat → List Tr := fun i => ((List.range m).take i).flatMap fun r => (List.range m).flatMap fun s => lotsR back r s
  have hF1 : ∀ i, (F1 i).length ≤ 125 := fun i => Nat.le_trans (flat_take_le _ _ _) (lotsF_len back h5)
  refine dss_go (env1 := E (lotsF back) none none none) (ds_forN B (di_rn B (de_name B 2) nb.range (by omega)) (fun i => E (F1 i) none none none) (Wk.refl _) (fun i P hP => ?_) (by
    show NX _ (.nx (E (F1 _) none none none))
    have : F1 ((List.range m).map fun i => isD X.K (.int (i : Nat))).length = lotsF back := by
      show ((List.range m).take _).flatMap _ = _
      rw [List.length_map, List.take_length]; rfl
    rw [this]; rfl)) (dss_end (ds_ret (de_move B 1) ⟨rfl, trivial⟩))
  rw [List.getElem?_map, Option.map_eq_some_iff] at hP
  obtain ⟨r, hi, rfl⟩ := hP
  have hrm : r < m := by simpa using List.mem_of_getElem? hi
  have hS : F1 (i + 1) = F1 i ++ (List.range m).flatMap fun s => lotsR back r s := by
    show ((List.range m).take (i + 1)).flatMap _ = _
    rw [take_succ_f hi, List.flatMap_append]; simp [F1]
  refine ⟨_, E (F1 i) (some (dD X.K (nD r))) none none, dg_name B 3, dss_end ?_⟩
  let F2 : Nat → List Tr := fun j => F1 i ++ ((List.range m).take j).flatMap fun s => lotsR back r s
  have hF2 : ∀ j, (F2 j).length ≤ 125 := fun j => by
    have h1 := hF1 (i + 1)
    have h2 := flat_take_le (fun s => lotsR back r s) (List.range m) j
    rw [hS, List.length_append] at h1
    show (F1 i ++ _).length ≤ _
    rw [List.length_append]; omega
  refine ds_forN (Pt := LpW (E (F1 (i + 1)) none none none) _) B (di_rn B (de_name B 2) nb.range (by omega)) (fun j => E (F2 j) (some (dD X.K (nD r))) none none) ?_ (fun j P hP => ?_) ?_
  · have : F2 0 = F1 i := by simp [F2]
    rw [this]; exact Wk.refl _
  · rw [List.getElem?_map, Option.map_eq_some_iff] at hP
    obtain ⟨s, hj, rfl⟩ := hP
    have hsm : s < m := by simpa using List.mem_of_getElem? hj
    have hS2 : F2 (j + 1) = F2 j ++ lotsR back r s := by
      show F1 i ++ ((List.range m).take (j + 1)).flatMap _ = _
      rw [take_succ_f hj, List.flatMap_append, ← List.append_assoc]; simp [F2]
    have hb2 := hF2 (j + 1)
    rw [hS2, List.length_append] at hb2
    refine ⟨_, E (F2 j) (some (dD X.K (nD r))) (some (dD X.K (nD s))) none, dg_name B 4, dss_end (ds_last (ds_set B 1 (de_bin (A := oLn X.K ((F2 j).map tD)) (de_move B 1) (de_lcr (lc1 5 (List.range m) (fun t => isD X.K (nD t)) (fun t => leastB back (r, s, t)) (fun t => tD (r, s, t)) B ⟨by decide +kernel, by decide +kernel, by decide +kernel, by decide +kernel, by decide +kernel⟩ (di_rn B (de_name B 2) nb.range (by omega)) (by rw [List.length_range]; omega) rfl fun s0 H0 C cl fp B' t ht => ?_)) (opd_catL (by
      have e1 : (((List.range m).filter fun t => leastB back (r, s, t)).map fun t => tD (r, s, t)).length = (lotsR back r s).length := by rw [lotsR, List.length_map, List.length_map]
      rw [e1, List.length_map]; omega)))) ?_)⟩
    · have htm : t < m := List.mem_range.mp ht
      let E' : Ev := [some (dD X.K (.list (bD back))), none, some (dD X.K (nD m)), some (dD X.K (nD r)), some (dD X.K (nD s)), some (dD X.K (nD t))]
      have tup : ∀ {n : Nat} {p1 p2 p3 p4 : Pos}, DE (BY X s0 H0 _ C cl fp) G E' (.Tuple [.Name "r" p1, .Name "s" p2, .Name "t" p3] n p4) E' (dD X.K (tD (r, s, t))) := fun {n p1 p2 p3 p4} =>
        de_tupD (dad_cons (de_name B' 3) rfl (dad_cons (de_name B' 4) rfl (dad_cons (de_name B' 5) rfl dad_nil)))
      refine ⟨dts_one (dt_cmp (de_nc B' (nc_b (cd_min (X := BY X s0 H0 _ C cl fp) (d := tD (r, s, t)) (ds := ((six (bk back) (r, s, t)).drop 1).map tD) B'.calm hu ?_ ?_) nb.min) (da_cons (de_nc B' (nk (X := BY X s0 H0 _ C cl fp) f1 hr ⟨(back, (r, s, t)), hrm, hsm, htm⟩) (da_cons (de_name B' 0) (da_cons tup da_nil)) (.inl rfl)) da_nil) (.inl rfl)) tup (opd_eq hr.units ?_ ?_)), fun _ => ⟨_, rfl, tup⟩⟩
      · rw [← six_cons]
        refine ⟨fun d hd d' hd' => allAlike_t _ d hd d' hd', fun d hd => ?_⟩
        obtain ⟨y, _, rfl⟩ := List.mem_map.mp hd
        intro z; cases z
      · rw [← six_cons]
        exact Nat.le_trans (depth_map tD 1 _ fun y _ => (shp_tD y).dep) (by omega)
      · obtain ⟨y, e⟩ := min_six (bk back) (r, s, t)
        rw [e]
        exact (shp_tD y).ok (by omega)
      · exact (shp_tD _).ok (by omega)
    · have e1 : (F2 j).map tD ++ ((List.range m).filter fun t => leastB back (r, s, t)).map (fun t => tD (r, s, t)) = (F2 (j + 1)).map tD := by
        have e0 : (lotsR back r s).map tD = ((List.range m).filter fun t => leastB back (r, s, t)).map (fun t => tD (r, s, t)) := by
          rw [lotsR, List.map_map]; rfl
        rw [hS2, ← e0]
        exact List.map_append.symm
      show Wk [some (dD X.K (.list (bD back))), some (oLn X.K ((F2 j).map tD ++ ((List.range m).filter fun t => leastB back (r, s, t)).map (fun t => tD (r, s, t)))), some (dD X.K (nD m)), some (dD X.K (nD r)), some (dD X.K (nD s)), none] (E (F2 (j + 1)) (some (dD X.K (nD r))) none none)
      rw [e1]
      exact (Drop.keep (.keep (.keep (.keep (.skip (.keep .nil)))))).wk
  · have : F2 ((List.range m).map fun i => isD X.K (.int (i : Nat))).length = F1 (i + 1) := by
      show F1 i ++ ((List.range m).take _).flatMap _ = _
      rw [List.length_map, List.take_length, hS]
    show Wk (E (F2 _) _ _ _) _
    rw [this]
    exact (Drop.keep (.keep (.keep (.skip (.keep (.keep .nil)))))).wk
end
end K7

set_option maxHeartbeats 4000000
/-! K25: _law_backs. -/
namespace DL
section
open PySem PySem.Spec PyProof.Rows L2
variable {X : Cx} {G : Reg} {env env1 : Ev} {st : Stmt} {sts : List Stmt} {Pt : Out → Prop}
/-- it goes on, with what env1 says at least -/
def NXW (env1 : Ev) : Out → Prop := fun o => ∃ e, o = .nx e ∧ Wk e env1
theorem dss_goW (h1 : DS X G env st (NXW env1)) (h2 : DSs X G env1 sts Pt) : DSs X G env (st :: sts) Pt :=
  dss_cons h1 (fun e ⟨e', he, w⟩ => by cases he; exact dss_wk w h2) (fun _ _ ⟨_, he, _⟩ => (nomatch he)) (fun _ ⟨_, he, _⟩ => (nomatch he)) (fun _ ⟨_, he, _⟩ => (nomatch he))
end
end DL
namespace K7
open PySem PySem.Spec PyProof.Rows L2 DL Hd
def backT (b : Bo) (left back : List Nat) : Bo × List Nat × List Nat :=
  let one := left.getLastD 0
  let l1 := left.dropLast
  if (takeF b 2).1 = 0 then ((takeF b 2).2, l1.dropLast, (back.set one (l1.getLastD 0)).set (l1.getLastD 0) one) else ((takeF b 2).2, l1, back)
def backL : Nat → Bo → List Nat → List Nat → List Nat × Bo
  | 0, b, _, back => (back, b)
  | n + 1, b, left, back => if left.length ≤ 1 then (back, b) else backL n (backT b left back).1 (backT b left back).2.1 (backT b left back).2.2
def backsF (b : Bo) (m : Nat) : List Nat × Bo := backL m (mixed b (List.range m)).2 (mixed b (List.range m)).1 (List.range m)
/-- an involution so far -/
structure BkI (m : Nat) (left back : List Nat) : Prop where
  len : back.length = m
  nd : left.Nodup
  lt : ∀ x ∈ left, x < m
  fix : ∀ x ∈ left, back.getD x 0 = x
  mem : ∀ x, x < m → back.getD x 0 < m
  inv : ∀ x, x < m → back.getD (back.getD x 0) 0 = x
theorem last_app {l : List Nat} (h : l ≠ []) : l = l.dropLast ++ [l.getLastD 0] := by
  have e : l.getLastD 0 = l.getLast h := by
    rw [List.getLastD_eq_getLast?, List.getLast?_eq_some_getLast h]; rfl
  rw [e]
  exact (List.dropLast_concat_getLast h).symm
theorem last_mem {l : List Nat} (h : l ≠ []) : l.getLastD 0 ∈ l := by
  have e : l.getLastD 0 = l.getLast h := by
    rw [List.getLastD_eq_getLast?, List.getLast?_eq_some_getLast h]; rfl
  rw [e]
  exact List.getLast_mem h
theorem getD_set {l : List Nat} {i j v : Nat} (hi : i < l.length) : (l.set i v).getD j 0 = if j = i then v else l.getD j 0 := by
  simp only [List.getD_eq_getElem?_getD, List.getElem?_set]
  by_cases h : i = j
  · subst h; simp [hi]
  · simp [h, Ne.symm h, fun e => h (Eq.symm e)]
theorem backT_inv {m : Nat} {b : Bo} {left back : List Nat} (h : BkI m left back) (hl : ¬ left.length ≤ 1) : BkI m (backT b left back).2.1 (backT b left back).2.2 := by
  have hne : left ≠ [] := by intro e; subst e; simp at hl
  have e1 := last_app hne
  obtain ⟨l1, hl1⟩ : ∃ l1, l1 = left.dropLast := ⟨_, rfl⟩
  obtain ⟨one, ho⟩ : ∃ one, one = left.getLastD 0 := ⟨_, rfl⟩
  rw [← hl1, ← ho] at e1
  have hl1n : l1 ≠ [] := by intro e; rw [e] at e1; rw [e1] at hl; simp at hl
  unfold backT
  simp only [← hl1, ← ho]
  have nd := h.nd
  rw [e1] at nd
  have ndl := (List.nodup_append.mp nd).1
  have m1 : ∀ x ∈ l1, x ∈ left := fun x hx => by rw [e1]; exact List.mem_append_left _ hx
  have mo : one ∈ left := by rw [e1]; simp
  split
  · have e2 := last_app hl1n
    obtain ⟨l2, hl2⟩ : ∃ l2, l2 = l1.dropLast := ⟨_, rfl⟩
    obtain ⟨two, ht⟩ : ∃ two, two = l1.getLastD 0 := ⟨_, rfl⟩
    rw [← hl2, ← ht] at e2
    simp only [← hl2, ← ht]
    have ndl2 := ndl
    rw [e2] at ndl2
    have m2 : ∀ x ∈ l2, x ∈ l1 := fun x hx => by rw [e2]; exact List.mem_append_left _ hx
    have mt : two ∈ l1 := by rw [e2]; simp
    have hot : one ≠ two := fun e => (List.nodup_append.mp nd).2.2 two mt one (by simp) e.symm
    have lo := h.lt one mo
    have lt2 := h.lt two (m1 two mt)
    have fo := h.fix one mo
    have ft := h.fix two (m1 two mt)
    have hg : ∀ j, ((back.set one two).set two one).getD j 0 = if j = two then one else if j = one then two else back.getD j 0 := fun j => by
      rw [getD_set (by rw [List.length_set, h.len]; exact lt2), getD_set (by rw [h.len]; exact lo)]
    refine ⟨by rw [List.length_set, List.length_set, h.len], (List.nodup_append.mp ndl2).1, fun x hx => h.lt x (m1 x (m2 x hx)), fun x hx => ?_, fun x hx => ?_, fun x hx => ?_⟩
    · have n1 : x ≠ two := fun e => (List.nodup_append.mp ndl2).2.2 x hx two (by simp) e
      have n2 : x ≠ one := fun e => (List.nodup_append.mp nd).2.2 x (m2 x hx) one (by simp) e
      rw [hg, if_neg n1, if_neg n2]
      exact h.fix x (m1 x (m2 x hx))
    · rw [hg]
      split
      · exact lo
      · split
        · exact lt2
        · exact h.mem x hx
    · have hinj : ∀ y, y < m → back.getD x 0 = back.getD y 0 → x = y := fun y hy e => by
        have := h.inv x hx
        rw [e, h.inv y hy] at this
        exact this.symm
      rw [hg x]
      by_cases n1 : x = two
      · rw [if_pos n1, hg, if_neg hot, if_pos rfl, n1]
      · rw [if_neg n1]
        by_cases n2 : x = one
        · rw [if_pos n2, hg, if_pos rfl, n2]
        · rw [if_neg n2, hg, if_neg (fun e => n1 (hinj two lt2 (by rw [e, ft]))), if_neg (fun e => n2 (hinj one lo (by rw [e, fo])))]
          exact h.inv x hx
  · exact ⟨h.len, ndl, fun x hx => h.lt x (m1 x hx), fun x hx => h.fix x (m1 x hx), h.mem, h.inv⟩
theorem backT_len {b : Bo} {left back : List Nat} (hl : ¬ left.length ≤ 1) : (backT b left back).2.1.length < left.length := by
  unfold backT
  dsimp only
  split
  · show (left.dropLast.dropLast).length < _
    rw [List.length_dropLast, List.length_dropLast]; omega
  · show (left.dropLast).length < _
    rw [List.length_dropLast]; omega
theorem backT_ok {n : Nat} {b : Bo} {left back : List Nat} (h : BoOk (n + 1) b) : BoOk n (backT b left back).1 := by
  unfold backT
  dsimp only
  split <;> exact takeF_ok h
theorem backL_inv {m : Nat} : ∀ (n : Nat) (b : Bo) (left back : List Nat), BkI m left back → ∃ left', BkI m left' (backL n b left back).1
  | 0, _, left, _, h => ⟨left, h⟩
  | n + 1, b, left, back, h => by
    unfold backL
    split
    · exact ⟨left, h⟩
    · rename_i hl
      exact backL_inv n _ _ _ (backT_inv h hl)
theorem backL_ok {m : Nat} : ∀ (n : Nat) (b : Bo) (left back : List Nat), BoOk (m + n) b → BoOk m (backL n b left back).2
  | 0, _, _, _, h => h
  | n + 1, b, left, back, h => by
    unfold backL
    split
    · exact h.mono (by omega)
    · exact backL_ok n _ _ _ (backT_ok (n := m + n) h)
theorem bkI_start (b : Bo) (m : Nat) : BkI m (mixed b (List.range m)).1 (List.range m) := by
  have hp := mixed_perm b (List.range m)
  have hg : ∀ x, x < m → (List.range m).getD x 0 = x := fun x hx => by simp [List.getD_eq_getElem?_getD, hx]
  refine ⟨List.length_range, hp.nodup_iff.mpr List.nodup_range, fun x hx => List.mem_range.mp (hp.mem_iff.mp hx), fun x hx => hg x (List.mem_range.mp (hp.mem_iff.mp hx)), fun x hx => by rw [hg x hx]; exact hx, fun x hx => by rw [hg x hx, hg x hx]⟩
theorem backsF_inv (b : Bo) (m : Nat) : ∃ left', BkI m left' (backsF b m).1 := backL_inv m _ _ _ (bkI_start b m)
theorem backsF_ok {n m : Nat} {b : Bo} (h : BoOk (n + m + m) b) : BoOk n (backsF b m).2 := backL_ok m _ _ _ (mixed_ok (xs := List.range m) (by rw [List.length_range]; exact h))
section
variable {M : Md} (nb : NoB M.mg)
theorem sc__law_backs : FnScope ["box", "many", "left", "back", "one", "other"] ["box", "many"] (defScope (topS 55)) := ⟨rfl, rfl, rfl, by decide +kernel, rfl, by decide +kernel, by decide +kernel⟩
abbrev lbArgs (M : Md) : { i : Bo × Nat // BoOk (i.2 + i.2) i.1 ∧ i.2 ≤ 5 } → List DL.Arg := fun i => [.l (oB M.K i.1.1) (oB M.K (backsF i.1.1 i.1.2).2), .z (isD M.K (nD i.1.2))]
include nb in
theorem ok__law_backs (F : FnD M "_law_backs" (topS 55) ["box", "many"]) (f1 : FK M "_law_mixed" 2 ["box", "items"] (mixArgs M) (fun i => oLn M.K (mixed i.1.1 i.1.2).1)) (f2 : FK M "_law_take" 1 ["box", "many"] (takeArgs M) (fun i => dD M.K (nD (takeF i.1.1 i.1.2).1))) :
    FK M "_law_backs" 3 ["box", "many"] (lbArgs M) (fun i => oLn M.K (bD (backsF i.1.1 i.1.2).1)) := by
  refine fk (N := ["box", "many", "left", "back", "one", "other"]) F sc__law_backs (fun _ => rfl) ?_
  rintro X rfl B hr ⟨⟨b, m⟩, hb, hm⟩ G vs hv
  obtain ⟨v, w, rfl⟩ := len2 hv
  simp only at hb hm
  have hsz := sizeLine_eq
  let E (a : Bo × List Nat × List Nat) (x y : Option As) : Ev := [some ((oB X.K a.1).at (some v)), some (dD X.K (nD m)), some (oLn X.K (bD a.2.1)), some (oLn X.K (bD a.2.2)), x, y]
  have em := mixed_map nD b (List.range m)
  have rgl : ∀ {p p2 p3 p4 pos : Pos} {b' : Bo} {x1 x2 x3 x4 : Option As}, DE X G [some ((oB X.K b').at (some v)), some (dD X.K (nD m)), x1, x2, x3, x4] (.Call (.Name "list" p) [.Call (.Name "range" p2) [.Name "many" p3] [] p4] [] pos) [some ((oB X.K b').at (some v)), some (dD X.K (nD m)), x1, x2, x3, x4] (oLn X.K ((List.range m).map nD)) := fun {p p2 p3 p4 pos b' x1 x2 x3 x4} =>
    de_listRg B (de_name B 1) nb.list nb.range (by omega)
  have C := nc_mixed (b := b) nD (List.range m) f1 hr (by rw [List.length_range]; exact hb.mono (by omega)) (fun z _ => (shp_n z).mono (by omega)) (by rw [List.length_range]; omega)
  refine dss_go (env1 := E ((mixed b (List.range m)).2, (mixed b (List.range m)).1, List.range m) none none) (ds_par2 (A1 := oLn X.K ((mixed b (List.range m)).1.map nD)) B 2 3 (da_cons (de_ncL (q := some v) (A := oB X.K b) B 0 C (da_cons rgl da_nil) (.inl rfl) (hf := let ⟨f, _, h, _⟩ := f1; ⟨f, h⟩)) (da_cons rgl da_nil))) ?_
  have hb2 : BoOk m (mixed b (List.range m)).2 := mixed_ok (xs := List.range m) (by rw [List.length_range]; exact hb)
  refine dss_goW (env1 := [some ((oB X.K (backsF b m).2).at (some v)), some (dD X.K (nD m)), none, some (oLn X.K (bD (backsF b m).1)), none, none]) (ds_whileN (α := Bo × List Nat × List Nat) B (fun a => a.2.1.length) (fun a => E a none none) (fun a => (∃ n, a.2.1.length ≤ n ∧ backL n a.1 a.2.1 a.2.2 = backsF b m ∧ BoOk n a.1) ∧ BkI m a.2.1 a.2.2) ((mixed b (List.range m)).2, (mixed b (List.range m)).1, List.range m) ⟨⟨m, ?_, rfl, hb2⟩, bkI_start b m⟩ (Wk.refl _) (fun a hI => ?_)) ?_
  · show (mixed b (List.range m)).1.length ≤ m
    rw [(mixed_perm b (List.range m)).length_eq, List.length_range]; omega
  · obtain ⟨b1, left, back⟩ := a
    obtain ⟨⟨n, h1, h2, h3⟩, h4⟩ := hI
    simp only at h1 h2 h3 h4
    have hlen : ∀ {G'} {p1 p2 p3 : Pos}, DE X G' (frAll (E (b1, left, back) none none)) (.Call (.Name "len" p1) [.Name "left" p2] [] p3) (frAll (E (b1, left, back) none none)) (dD X.K (nD (bD left).length)) :=
      fun {G' p1 p2 p3} => de_nc B (nc_b (cd_lenL (ds := bD left)) nb.len) (da_cons (de_name (P := isD X.K (.list (bD left))) B 2) da_nil) (.inl rfl)
    refine ⟨decide ((1 : Int) < ((bD left).length : Nat)), E (b1, left, back) none none, dt_thaw (fun G' => dt_cmp hlen de_int (opd_gt _ _)), fun hk => ?_, fun hk => ?_⟩
    · have hl : ¬ left.length ≤ 1 := by
        have := of_decide_eq_true hk
        rw [bD, List.length_map] at this
        omega
      obtain ⟨n', rfl⟩ : ∃ n', n = n' + 1 := ⟨n - 1, by omega⟩
      have hn2 : backL n' (backT b1 left back).1 (backT b1 left back).2.1 (backT b1 left back).2.2 = backsF b m := by
        rw [← h2]
        show _ = (if left.length ≤ 1 then _ else _)
        rw [if_neg hl]
      have hd := backT_len (b := b1) (back := back) hl
      refine ⟨backT b1 left back, hd, ⟨⟨n', by omega, hn2, backT_ok h3⟩, backT_inv h4 hl⟩, ?_⟩
      have hne : left ≠ [] := by intro e; subst e; simp at hl
      have lst : ∀ {l : List Nat}, l ≠ [] → (bD l)[(bD l).length - 1]? = some (nD (l.getLastD 0)) := fun {l} hn => by
        rw [bD, List.length_map, List.getElem?_map, ← List.getLast?_eq_getElem?, List.getLastD_eq_getLast?]
        cases e : l.getLast? with
        | none => exact absurd (List.getLast?_eq_none_iff.mp e) hn
        | some x => rfl
      have dl : ∀ l : List Nat, (bD l).dropLast = bD l.dropLast := fun l => by rw [bD, bD, List.map_dropLast]
      have e1 := last_app hne
      have hl1n : left.dropLast ≠ [] := by intro e; rw [e] at e1; rw [e1] at hl; simp at hl
      refine dss_go (env1 := E (b1, left.dropLast, back) (some (dD X.K (nD (left.getLastD 0)))) none) (ds_wk (ds_set B 4 (de_pop B 2 (lst hne))) (wk_eq (by show [_, _, some (oLn X.K ((bD left).dropLast)), _, _, _] = _; rw [dl]))) ?_
      have Ct := nc_take (b := b1) (n := 2) f2 hr (h3.mono (by omega)) (by omega) (by omega)
      have h0 : decide (((takeF b1 2).1 : Int) = 0) = decide ((takeF b1 2).1 = 0) := decide_eq_decide.mpr (by omega)
      refine dss_end (ds_if (env1 := E ((takeF b1 2).2, left.dropLast, back) (some (dD X.K (nD (left.getLastD 0)))) none) (k := decide ((takeF b1 2).1 = 0)) (dt_eq (dt_cmp (de_ncL (q := some v) (A := oB X.K b1) B 0 Ct (da_cons de_int da_nil) (.inl rfl) (hf := let ⟨f, _, h, _⟩ := f2; ⟨f, h⟩)) de_int (opd_eqI _ _ hr.units)) h0) (fun hz => ?_) (fun hz => ?_))
      · have hz' := of_decide_eq_true hz
        have eT : backT b1 left back = ((takeF b1 2).2, left.dropLast.dropLast, (back.set (left.getLastD 0) (left.dropLast.getLastD 0)).set (left.dropLast.getLastD 0) (left.getLastD 0)) := by
          unfold backT; dsimp only; rw [if_pos hz']
        obtain ⟨one, ho⟩ : ∃ one, one = left.getLastD 0 := ⟨_, rfl⟩
        obtain ⟨two, ht⟩ : ∃ two, two = left.dropLast.getLastD 0 := ⟨_, rfl⟩
        have lo : one < back.length := by rw [h4.len, ho]; exact h4.lt _ (last_mem hne)
        have lt2 : two < back.length := by
          rw [h4.len, ht]
          exact h4.lt _ (List.dropLast_subset left (last_mem hl1n))
        have hL1 : one < (bD back).length := by rw [bD, List.length_map]; exact lo
        have hL2 : two < ((bD back).set one (nD two)).length := by rw [List.length_set, bD, List.length_map]; exact lt2
        rw [eT]
        rw [← ht, ← ho]
        refine dss_go (env1 := E ((takeF b1 2).2, left.dropLast.dropLast, back) (some (dD X.K (nD one))) (some (dD X.K (nD two)))) (ds_wk (ds_set B 5 (de_pop B 2 (lst hl1n))) (wk_eq (by show [_, _, some (oLn X.K ((bD left.dropLast).dropLast)), _, _, _] = _; rw [dl, ← ht]))) ?_
        refine dss_end (ds_last (ds_tup (L := [dD X.K (nD two), dD X.K (nD one)]) B (da_cons (de_name B 5) (da_cons (de_name B 4) da_nil)) (dga_cons (dg_setI (ds := bD back) (d := nD two) (m := (one : Nat)) (j := one) B 3 rfl (de_name B 4) (ixN_n hL1)) (dga_cons (dg_setI (ds := (bD back).set one (nD two)) (d := nD one) (m := (two : Nat)) (j := two) B 3 rfl (de_name B 5) (ixN_n hL2)) dga_nil))) ?_)
        have e9 : ((bD back).set one (nD two)).set two (nD one) = bD ((back.set one two).set two one) := by
          rw [bD, bD, List.map_set, List.map_set]
        show Wk [some ((oB X.K (takeF b1 2).2).at (some v)), some (dD X.K (nD m)), some (oLn X.K (bD left.dropLast.dropLast)), some (oLn X.K (((bD back).set one (nD two)).set two (nD one))), some (dD X.K (nD one)), some (dD X.K (nD two))] (E ((takeF b1 2).2, left.dropLast.dropLast, (back.set one two).set two one) none none)
        rw [e9]
        exact (Drop.keep (.keep (.keep (.keep (.skip (.skip .nil)))))).wk
      · have eT : backT b1 left back = ((takeF b1 2).2, left.dropLast, back) := by
          unfold backT; dsimp only; rw [if_neg (of_decide_eq_false hz)]
        rw [eT]
        exact dss_nil ((Drop.keep (.keep (.keep (.keep (.skip (.keep .nil)))))).wk)
    · have hl : left.length ≤ 1 := by
        have := of_decide_eq_false hk
        rw [bD, List.length_map] at this
        omega
      have e : (back, b1) = backsF b m := by
        rw [← h2]
        cases n with
        | zero => rfl
        | succ n =>
          show _ = (if left.length ≤ 1 then _ else _)
          rw [if_pos hl]
      refine ⟨_, rfl, ?_⟩
      rw [← e]
      exact (Drop.keep (.keep (.skip (.keep (.keep (.keep .nil)))))).wk
  · exact dss_end (ds_ret (de_move B 3) ⟨rfl, rfl, trivial⟩)
end
end K7

set_option maxHeartbeats 4000000
/-! K26: _law_made. -/
namespace K7
open PySem PySem.Spec PyProof.Rows L2 DL Hd
def addT (acc : List Tr) (x : Tr) : List Tr := if x ∈ acc then acc else acc ++ [x]
theorem depth_tK (y : Tr) : (NestedKey.tup (tK y)).depth ≤ 8 := by
  obtain ⟨a, b, c⟩ := y
  show Nat.succ _ ≤ 8
  simp [NestedKey.depthAll, NestedKey.depth, tK]
theorem putL_fT (acc : List Tr) (x : Tr) : putL (acc.map fT) (.tup (tK x)) (.bool true) = (addT acc x).map fT := by
  have h := putAllL_fT [x] acc
  exact h
def addS (back : List Nat) (acc : List Tr) (x : Tr) : List Tr := (six (bk back) x).foldl addT acc
def letsF (back : List Nat) (lots : List Tr) : List Tr := lots.foldl (addS back) []
theorem mem_addT {acc : List Tr} {x y : Tr} : y ∈ addT acc x ↔ y ∈ acc ∨ y = x := by
  unfold addT
  split
  · rename_i h
    exact ⟨.inl, fun q => q.elim id fun e => e ▸ h⟩
  · simp
theorem mem_addTs {y : Tr} : ∀ (l acc : List Tr), y ∈ l.foldl addT acc ↔ y ∈ acc ∨ y ∈ l
  | [], acc => by simp
  | x :: l, acc => by
    rw [List.foldl_cons, mem_addTs l, mem_addT, List.mem_cons, or_assoc]
theorem mem_letsF_aux {back : List Nat} {y : Tr} : ∀ (l acc : List Tr), y ∈ l.foldl (addS back) acc ↔ y ∈ acc ∨ ∃ x ∈ l, y ∈ six (bk back) x
  | [], acc => by simp
  | x :: l, acc => by
    rw [List.foldl_cons, mem_letsF_aux l, addS, mem_addTs]
    simp only [List.mem_cons, exists_eq_or_imp, or_assoc]
theorem mem_letsF {back : List Nat} {lots : List Tr} {y : Tr} : y ∈ letsF back lots ↔ ∃ x ∈ lots, y ∈ six (bk back) x := by
  rw [letsF, mem_letsF_aux]; simp
theorem addT_len (acc : List Tr) (x : Tr) : (addT acc x).length ≤ acc.length + 1 := by
  unfold addT; split <;> simp
theorem addTs_len : ∀ (l acc : List Tr), (l.foldl addT acc).length ≤ acc.length + l.length
  | [], acc => by simp
  | x :: l, acc => by
    rw [List.foldl_cons]
    have h1 := addTs_len l (addT acc x)
    have h2 := addT_len acc x
    simp only [List.length_cons]; omega
theorem addSs_len (back : List Nat) : ∀ (l acc : List Tr), (l.foldl (addS back) acc).length ≤ acc.length + 6 * l.length
  | [], acc => by simp
  | x :: l, acc => by
    rw [List.foldl_cons]
    have h1 := addSs_len back l (addS back acc x)
    have h2 : (addS back acc x).length ≤ acc.length + 6 := addTs_len (six (bk back) x) acc
    simp only [List.length_cons]; omega
def madeF (names : List Str) (back : List Nat) (lots : List Tr) : Wo := ⟨names, back, srt tD lots, letsF back lots⟩
section
variable {M : Md} (nb : NoB M.mg)
theorem sc__law_made : FnScope ["names", "back", "lots", "many", "lets", "three", "one"] ["names", "back", "lots"] (defScope (topS 57)) := ⟨rfl, rfl, rfl, by decide +kernel, rfl, by decide +kernel, by decide +kernel⟩
structure MdOk (back : List Nat) (lots : List Tr) : Prop where
  z : lots.length ≤ 125
  inn : ∀ x ∈ lots, trIn back.length x
abbrev mdArgs (M : Md) : { i : List Str × List Nat × List Tr // MdOk i.2.1 i.2.2 } → List DL.Arg := fun i => [.z (isD M.K (.list (i.1.1.map .str))), .z (isD M.K (.list (bD i.1.2.1))), .z (isD M.K (.list (i.1.2.2.map tD)))]
include nb in
theorem ok__law_made (F : FnD M "_law_made" (topS 57) ["names", "back", "lots"]) (f1 : FK M "_law_six" 1 ["back", "three"] (sixArgs M) (fun i => oLn M.K ((six (bk i.1.1) i.1.2).map tD))) : FK M "_law_made" 2 ["names", "back", "lots"] (mdArgs M) (fun i => .fz (isWo M.P M.w M.K (madeF i.1.1 i.1.2.1 i.1.2.2))) := by
  refine fk (N := ["names", "back", "lots", "many", "lets", "three", "one"]) F sc__law_made (fun _ => rfl) ?_
  rintro X rfl B hr ⟨⟨names, back, lots⟩, hz, hin⟩ G vs hv
  obtain ⟨v, w, u, rfl⟩ := len3 hv
  simp only at hz hin
  have hsz := sizeLine_eq
  have hu := B.un
  have hlb : (bD back).length = back.length := by rw [bD, List.length_map]
  let E (l : List Tr) (a b : Option As) : Ev := [some (dD X.K (.list (names.map .str))), some (dD X.K (.list (bD back))), some (dD X.K (.list (lots.map tD))), some (dD X.K (nD back.length)), some ((oDc X.prog X.w X.K (l.map fT)).at none), a, b]
  refine dss_go (env1 := E [] none none) (ds_par2 B 3 4 (da_cons (de_eq (de_nc B (nc_b (cd_lenL (ds := bD back)) nb.len) (da_cons (de_name B 1) da_nil) (.inl rfl)) (by rw [hlb]; rfl)) (da_cons de_newX da_nil))) ?_
  let F1 : Nat → List Tr := fun i => (lots.take i).foldl (addS back) []
  refine dss_go (env1 := E (letsF back lots) none none) (ds_forN B (di_ldm lots tD (de_name B 2) rfl) (fun i => E (F1 i) none none) (Wk.refl _) (fun i P hP => ?_) (by
    show NX _ (.nx (E (F1 _) none none))
    have : F1 (lots.map fun a => isD X.K (tD a)).length = letsF back lots := by
      show (lots.take _).foldl _ _ = _
      rw [List.length_map, List.take_length]; rfl
    rw [this]; rfl)) ?_
  · rw [List.getElem?_map, Option.map_eq_some_iff] at hP
    obtain ⟨x, hx, rfl⟩ := hP
    have hxm := List.mem_of_getElem? hx
    have hS : F1 (i + 1) = (six (bk back) x).foldl addT (F1 i) := by
      show (lots.take (i + 1)).foldl _ _ = _
      rw [take_succ_f hx, List.foldl_append]; rfl
    have hl1 : (F1 i).length ≤ 750 := by
      have h1 := addSs_len back (lots.take i) []
      have h2 := List.length_take_le i lots
      have h3 : (F1 i).length ≤ 0 + 6 * (lots.take i).length := h1
      have h4 : (lots.take i).length ≤ lots.length := by rw [List.length_take]; omega
      omega
    refine ⟨_, E (F1 i) (some (dD X.K (tD x))) none, dg_name B 5, dss_end ?_⟩
    let F2 : Nat → List Tr := fun j => ((six (bk back) x).take j).foldl addT (F1 i)
    refine ds_forN (Pt := LpW (E (F1 (i + 1)) none none) _) B (di_ldm (six (bk back) x) tD (de_nc B (nk f1 hr ⟨(back, x), hin x hxm⟩) (da_cons (de_name B 1) (da_cons (de_name B 5) da_nil)) (.inl rfl)) rfl) (fun j => E (F2 j) (some (dD X.K (tD x))) none) (Wk.refl _) (fun j P hP => ?_) ?_
    · rw [List.getElem?_map, Option.map_eq_some_iff] at hP
      obtain ⟨y, hy, rfl⟩ := hP
      have hS2 : F2 (j + 1) = addT (F2 j) y := by
        show ((six (bk back) x).take (j + 1)).foldl _ _ = _
        rw [take_succ_f hy, List.foldl_append]; rfl
      have hl2 : (F2 j).length ≤ 756 := by
        have h1 := addTs_len ((six (bk back) x).take j) (F1 i)
        have h2 : ((six (bk back) x).take j).length ≤ 6 := by rw [List.length_take]; exact Nat.min_le_right _ _
        have h3 : (F2 j).length ≤ (F1 i).length + ((six (bk back) x).take j).length := h1
        omega
      refine ⟨_, E (F2 j) (some (dD X.K (tD x))) (some (dD X.K (tD y))), dg_name B 6, dss_end (ds_last (ds_asg de_bl (dg_setX (L := (F2 j).map fT) (ks := tK y) (d := .bool true) B 4 rfl (de_name B 6) rfl (depth_tK y) (by rw [List.length_map]; omega) hu)) ?_)⟩
      show Wk [some (dD X.K (.list (names.map .str))), some (dD X.K (.list (bD back))), some (dD X.K (.list (lots.map tD))), some (dD X.K (nD back.length)), some ((oDc X.prog X.w X.K (putL ((F2 j).map fT) (.tup (tK y)) (.bool true))).at none), some (dD X.K (tD x)), some (dD X.K (tD y))] (E (F2 (j + 1)) (some (dD X.K (tD x))) none)
      rw [putL_fT, hS2]
      exact (Drop.keep (.keep (.keep (.keep (.keep (.keep (.skip .nil))))))).wk
    · have : F2 ((six (bk back) x).map fun a => isD X.K (tD a)).length = F1 (i + 1) := by
        show ((six (bk back) x).take _).foldl _ _ = _
        rw [List.length_map, List.take_length, hS]
      show Wk (E (F2 _) _ _) _
      rw [this]
      exact (Drop.keep (.keep (.keep (.keep (.keep (.skip (.keep .nil))))))).wk
  · have cs : CallD X (.builtin "sorted") [dD X.K (.list (lots.map tD))] [dD X.K (.list (lots.map tD))] (oLn X.K (sortD (lots.map tD))) := cd_sorted hu (allAlike_t lots) (sortable_t lots) (fun d hd => by
      obtain ⟨x, _, rfl⟩ := List.mem_map.mp hd
      exact Nat.le_trans (shp_tD x).dep (by omega))
    refine dss_end (ds_ret (A := .fz (isWo X.prog X.w X.K (madeF names back lots))) (de_dispW (L := woL X.prog X.w X.K (madeF names back lots)) (dps_cons (de_nc B (nc_t (cd_listL (ds := names.map .str)) nb.list) (da_cons (de_name B 0) da_nil) (.inl rfl)) rfl (dps_cons (de_nc B (nc_t (cd_listL (ds := bD back)) nb.list) (da_cons (de_name B 1) da_nil) (.inl rfl)) rfl (dps_cons (de_nc B (nc_b cs nb.sorted) (da_cons (de_name B 2) da_nil) (.inl rfl)) ?_ (dps_cons (de_move B 4) rfl (dps_cons (de_name B 3) rfl dps_nil))))) (by show (["names", "back", "lots", "lets", "many"] : List Str).Nodup; decide) (by show (5 : Nat) ≤ 15; decide)) ⟨rfl, trivial⟩)
    show isD X.K (.list (sortD (lots.map tD))) = isD X.K (.list ((srt tD lots).map tD))
    rw [sortD_map]
end
end K7

set_option maxHeartbeats 4000000
/-! K27: _law_world. -/
namespace K7
open PySem PySem.Spec PyProof.Rows L2 DL Hd
def wayN (way : Nat) : Nat := [1, 4, 2, 4, 8].getD way 1
/-- is a lot let? -/
def keepF (way : Nat) (b : Bo) : Bool × Bo :=
  if way = 0 then (true, b)
  else if 0 < (takeF b (wayN way)).1 then (true, (takeF b (wayN way)).2)
  else if way = 2 then (decide ((takeF (takeF b (wayN way)).2 2).1 = 0), (takeF (takeF b (wayN way)).2 2).2)
  else (false, (takeF b (wayN way)).2)
def keepS (way : Nat) (s : Bo × List Tr) (x : Tr) : Bo × List Tr := ((keepF way s.1).2, if (keepF way s.1).1 then s.2 ++ [x] else s.2)
theorem keepF_ok {way n : Nat} {b : Bo} (h : BoOk (n + 2) b) : BoOk n (keepF way b).2 := by
  unfold keepF
  split
  · exact h.mono (by omega)
  · split
    · exact (takeF_ok (n := n + 1) h).mono (by omega)
    · split
      · exact takeF_ok (takeF_ok (n := n + 1) h)
      · exact (takeF_ok (n := n + 1) h).mono (by omega)
theorem keeps_ok {way : Nat} : ∀ (l : List Tr) (n : Nat) (s : Bo × List Tr), BoOk (n + 2 * l.length) s.1 → BoOk n (l.foldl (keepS way) s).1
  | [], n, s, h => h
  | x :: l, n, s, h => keeps_ok l n _ (keepF_ok (n := n + 2 * l.length) (h.mono (by simp only [List.length_cons]; omega)))
theorem keeps_len {way : Nat} : ∀ (l : List Tr) (s : Bo × List Tr), (l.foldl (keepS way) s).2.length ≤ s.2.length + l.length
  | [], s => by simp
  | x :: l, s => by
    have h := keeps_len (way := way) l (keepS way s x)
    have h2 : (keepS way s x).2.length ≤ s.2.length + 1 := by
      unfold keepS; dsimp only; split <;> simp
    rw [List.foldl_cons, List.length_cons]; omega
theorem keeps_mem {way : Nat} {y : Tr} : ∀ (l : List Tr) (s : Bo × List Tr), y ∈ (l.foldl (keepS way) s).2 → y ∈ s.2 ∨ y ∈ l
  | [], s, h => .inl h
  | x :: l, s, h => by
    rcases keeps_mem l _ h with h | h
    · have h2 : y ∈ (if (keepF way s.1).1 then s.2 ++ [x] else s.2) := h
      split at h2
      · rcases List.mem_append.mp h2 with h2 | h2
        · exact .inl h2
        · exact .inr (by rw [List.mem_singleton.mp h2]; exact List.mem_cons_self)
      · exact .inl h2
    · exact .inr (List.mem_cons_of_mem _ h)
theorem wayN_at {way : Nat} (h : way < 5) : atI [PyData.int 1, .int 4, .int 2, .int 4, .int 8] ((way : Nat) : Int) = some (nD (wayN way)) := by
  rcases way with _ | _ | _ | _ | _ | way <;> first | rfl | (exfalso; omega)
theorem wayN_pos {way : Nat} (h : way < 5) : 0 < wayN way ∧ wayN way < 1073741824 := by
  rcases way with _ | _ | _ | _ | _ | way <;> first | exact ⟨by decide, by decide⟩ | (exfalso; omega)
def worldB (b : Bo) (m : Nat) : List Nat × Bo := backsF b m
def worldW (b : Bo) (m : Nat) : Nat × Bo := takeF (backsF b m).2 5
def worldL (b : Bo) (m : Nat) : Bo × List Tr := (lotsF (backsF b m).1).foldl (keepS (worldW b m).1) ((worldW b m).2, [])
def worldF (b : Bo) (m : Nat) : Wo × Bo := (madeF (namesF (worldL b m).1 m) (backsF b m).1 (worldL b m).2, (mixed (worldL b m).1 tenN).2)
theorem backsF_bk {b : Bo} {m : Nat} (h : m ≤ 5) : BkOk (backsF b m).1 := by
  obtain ⟨l, hl⟩ := backsF_inv b m
  refine ⟨by rw [hl.len]; exact h, fun i hi => ?_⟩
  obtain ⟨k, hk, e⟩ := List.mem_iff_getElem.mp hi
  have := hl.mem k (by rw [← hl.len]; exact hk)
  rw [List.getD_eq_getElem?_getD, List.getElem?_eq_getElem hk] at this
  rw [hl.len, ← e]; exact this
theorem worldL_in {b : Bo} {m : Nat} {x : Tr} (h : x ∈ (worldL b m).2) : trIn (backsF b m).1.length x := by
  rcases keeps_mem _ _ h with h | h
  · cases h
  · exact lotsF_in h
theorem worldL_len {b : Bo} {m : Nat} (h : m ≤ 5) : (worldL b m).2.length ≤ 125 := by
  have h1 := keeps_len (way := (worldW b m).1) (lotsF (backsF b m).1) ((worldW b m).2, [])
  have h2 := lotsF_len (backsF b m).1 (backsF_bk h).hi
  have h3 : (worldL b m).2.length ≤ 0 + (lotsF (backsF b m).1).length := h1
  omega
/-- what a world costs -/
theorem worldL_ok {n m : Nat} {b : Bo} (hm : m ≤ 5) (h : BoOk (n + 261) b) : BoOk n (worldL b m).1 := by
  refine keeps_ok _ n _ ?_
  have h2 := lotsF_len (backsF b m).1 (backsF_bk hm).hi
  exact takeF_ok (n := n + 2 * (lotsF (backsF b m).1).length) (backsF_ok (h.mono (by omega)))
theorem worldF_ok {n m : Nat} {b : Bo} (hm : m ≤ 5) (h : BoOk (n + 271) b) : BoOk n (worldF b m).2 := mixed_ok (xs := tenN) (worldL_ok hm (n := n + 10) h)
section
variable {M : Md} (nb : NoB M.mg)
theorem sc__law_world : FnScope ["box", "many", "back", "way", "lots", "three"] ["box", "many"] (defScope (topS 56)) := ⟨rfl, rfl, rfl, by decide +kernel, rfl, by decide +kernel, by decide +kernel⟩
abbrev lwArgs (M : Md) : { i : Bo × Nat // BoOk 271 i.1 ∧ 0 < i.2 ∧ i.2 ≤ 5 } → List DL.Arg := fun i => [.l (oB M.K i.1.1) (oB M.K (worldF i.1.1 i.1.2).2), .z (isD M.K (nD i.1.2))]
include nb in
theorem ok__law_world (F : FnD M "_law_world" (topS 56) ["box", "many"]) (f1 : FK M "_law_backs" 3 ["box", "many"] (lbArgs M) (fun i => oLn M.K (bD (backsF i.1.1 i.1.2).1))) (f2 : FK M "_law_take" 1 ["box", "many"] (takeArgs M) (fun i => dD M.K (nD (takeF i.1.1 i.1.2).1)))
    (f3 : FK M "_law_lots" 2 ["back"] (lotsArgs M) (fun i => oLn M.K ((lotsF i.1).map tD))) (f4 : FK M "_law_names" 3 ["box", "many"] (lnArgs M) (fun i => oLn M.K ((namesF i.1.1 i.1.2).map .str))) (f5 : FK M "_law_made" 2 ["names", "back", "lots"] (mdArgs M) (fun i => .fz (isWo M.P M.w M.K (madeF i.1.1 i.1.2.1 i.1.2.2)))) :
    FK M "_law_world" 4 ["box", "many"] (lwArgs M) (fun i => .fz (isWo M.P M.w M.K (worldF i.1.1 i.1.2).1)) := by
  refine fk (N := ["box", "many", "back", "way", "lots", "three"]) F sc__law_world (fun _ => rfl) ?_
  rintro X rfl B hr ⟨⟨b, m⟩, hb, hm0, hm⟩ G vs hv
  obtain ⟨v, w, rfl⟩ := len2 hv
  simp only at hb hm0 hm
  have hsz := sizeLine_eq
  have hbk := backsF_bk (b := b) hm
  obtain ⟨back, eb⟩ : ∃ back, back = (backsF b m).1 := ⟨_, rfl⟩
  obtain ⟨way, ew⟩ : ∃ way, way = (worldW b m).1 := ⟨_, rfl⟩
  have hway : way < 5 := by rw [ew]; exact takeF_lt (by omega)
  rw [← eb] at hbk
  have hb1 : BoOk 261 (backsF b m).2 := backsF_ok (hb.mono (by omega))
  have hb2 : BoOk 260 (worldW b m).2 := takeF_ok hb1
  let E (a : Bo) (x y : Option As) : Ev := [some ((oB X.K a).at (some v)), some (dD X.K (nD m)), some (dD X.K (.list (bD back))), some (dD X.K (nD way)), x, y]
  have C1 : NC X "_law_backs" [(oB X.K b).at none, dD X.K (nD m)] [(oB X.K (backsF b m).2).at none, dD X.K (nD m)] (oLn X.K (bD (backsF b m).1)) := nk f1 hr ⟨(b, m), hb.mono (by omega), hm⟩
  have C2 := nc_take (b := (backsF b m).2) (n := 5) f2 hr (hb1.mono (by omega)) (by omega) (by omega)
  refine dss_go (env1 := [some ((oB X.K (worldW b m).2).at (some v)), some (dD X.K (nD m)), some (oLn X.K (bD back)), some (dD X.K (nD way)), none, none]) (ds_tup (L := [oLn X.K (bD back), dD X.K (nD way)]) B (da_cons (A := oLn X.K (bD back)) (de_eq (de_ncL (q := some v) (A := oB X.K b) B 0 C1 (da_cons (de_name B 1) da_nil) (.inl rfl) (hf := let ⟨f, _, h, _⟩ := f1; ⟨f, h⟩)) (by rw [eb])) (da_cons (A := dD X.K (nD way)) (de_eq (de_ncL (q := some v) (A := oB X.K (backsF b m).2) B 0 C2 (da_cons de_int da_nil) (.inl rfl) (hf := let ⟨f, _, h, _⟩ := f2; ⟨f, h⟩)) (by rw [ew]; rfl)) da_nil)) (dga_cons (dg_name B 2) (dga_cons (dg_name B 3) dga_nil))) ?_
  refine dss_chill 2 (A := oLn X.K (bD back)) rfl ?_
  let S : Nat → Bo × List Tr := fun i => ((lotsF back).take i).foldl (keepS way) ((worldW b m).2, [])
  have hlen := lotsF_len back hbk.hi
  have hS : ∀ i, i ≤ (lotsF back).length → BoOk (260 - 2 * i) (S i).1 := fun i hi => by
    refine keeps_ok _ _ _ ?_
    have h1 : ((lotsF back).take i).length = i := by rw [List.length_take]; omega
    rw [h1]
    exact hb2.mono (by omega)
  have eL : worldL b m = S (lotsF back).length := by
    show _ = ((lotsF back).take _).foldl _ _
    rw [List.take_length, ew, eb]; rfl
  refine dss_go (env1 := E (worldL b m).1 (some (oLn X.K ((worldL b m).2.map tD))) none) (ds_lcr B 4 (lcr_data (env1 := E (worldL b m).1 none none) (lcr_run (L' := (worldL b m).2.map fun x => dD X.K (tD x)) [("three", 5)] (fun i => (E (S i).1 none none, (S i).2.map fun x => dD X.K (tD x))) B ⟨by decide +kernel, by decide +kernel, by decide +kernel, by decide +kernel, by decide +kernel⟩ (di_ldm (lotsF back) tD (de_nc B (nk f3 hr ⟨back, hbk⟩) (da_cons (de_name B 2) da_nil) (.inl rfl)) rfl) (Wk.refl _) rfl ?_ (fun s0 H0 C cl fp B' i P hP => ?_) ?_ ?_ ?_) ?_)) ?_
  · intro p hp A
    simp only [List.mem_singleton] at hp
    subst hp
    intro z; cases z
  · rw [List.getElem?_map, Option.map_eq_some_iff] at hP
    obtain ⟨x, hx, rfl⟩ := hP
    have hil : i < (lotsF back).length := (List.getElem?_eq_some_iff.mp hx).1
    have hSi := hS i (by omega)
    have eS : S (i + 1) = keepS way (S i) x := by
      show ((lotsF back).take (i + 1)).foldl _ _ = _
      rw [take_succ_f hx, List.foldl_append]; rfl
    have e1 : (S (i + 1)).1 = (keepF way (S i).1).2 := by rw [eS]; rfl
    have hkl : (S i).2.length ≤ 125 := by
      have h1 := keeps_len (way := way) ((lotsF back).take i) ((worldW b m).2, [])
      have h2 : (S i).2.length ≤ 0 + ((lotsF back).take i).length := h1
      rw [List.length_take] at h2
      omega
    refine ⟨[5], E (S i).1 none (some (dD X.K (tD x))), E (S (i + 1)).1 none (some (dD X.K (tD x))), (keepF way (S i).1).1, dg_name B' 5, fun j hj => by simpa using hj, dts_one ?_, fun hk => ?_, fun hk => ⟨(Drop.keep (.keep (.keep (.keep (.keep (.skip .nil)))))).wk, ?_⟩⟩
    · have z0 : decide (((way : Nat) : Int) = 0) = decide (way = 0) := decide_eq_decide.mpr (by omega)
      have z2 : decide (((way : Nat) : Int) = 2) = decide (way = 2) := decide_eq_decide.mpr (by omega)
      have z3 : decide (0 < (((takeF (S i).1 (wayN way)).1 : Nat) : Int)) = decide (0 < (takeF (S i).1 (wayN way)).1) := decide_eq_decide.mpr (by omega)
      have z4 : decide ((((takeF (takeF (S i).1 (wayN way)).2 2).1 : Nat) : Int) = 0) = decide ((takeF (takeF (S i).1 (wayN way)).2 2).1 = 0) := decide_eq_decide.mpr (by omega)
      have hb3 : BoOk 2 (S i).1 := hSi.mono (by omega)
      obtain ⟨hw0, hw1⟩ := wayN_pos hway
      have Ct := fun sc' => nc_take (X := BY X s0 H0 sc' C cl fp) (b := (S i).1) (n := wayN way) f2 hr (hb3.mono (by omega)) hw0 hw1
      have Ct2 := fun sc' => nc_take (X := BY X s0 H0 sc' C cl fp) (b := (takeF (S i).1 (wayN way)).2) (n := 2) f2 hr (takeF_ok (n := 1) hb3) (by omega) (by omega)
      have hE : (if decide (way = 0) = true then E (S i).1 none (some (dD X.K (tD x))) else if decide (0 < (takeF (S i).1 (wayN way)).1) = true then E (takeF (S i).1 (wayN way)).2 none (some (dD X.K (tD x))) else if decide (way = 2) = true then E (takeF (takeF (S i).1 (wayN way)).2 2).2 none (some (dD X.K (tD x))) else E (takeF (S i).1 (wayN way)).2 none (some (dD X.K (tD x)))) = E (S (i + 1)).1 none (some (dD X.K (tD x))) := by
        rw [e1]
        unfold keepF
        by_cases c0 : way = 0
        · simp [c0]
        · by_cases c1 : 0 < (takeF (S i).1 (wayN way)).1
          · simp [c0, c1]
          · by_cases c2 : way = 2
            · rw [decide_eq_false c0, decide_eq_false c1, decide_eq_true c2, if_neg c0, if_neg c1, if_pos c2]; rfl
            · simp [c0, c1, c2]
      have hK : (decide (way = 0) || (decide (0 < (takeF (S i).1 (wayN way)).1) || (decide (way = 2) && decide ((takeF (takeF (S i).1 (wayN way)).2 2).1 = 0)))) = (keepF way (S i).1).1 := by
        unfold keepF
        by_cases c0 : way = 0
        · simp [c0]
        · by_cases c1 : 0 < (takeF (S i).1 (wayN way)).1
          · simp [c0, c1]
          · by_cases c2 : way = 2
            · rw [decide_eq_false c0, decide_eq_false c1, decide_eq_true c2, if_neg c0, if_neg c1, if_pos c2]; rfl
            · simp [c0, c1, c2]
      rw [← hE, ← hK]
      exact dt_w (dw_orE (k := decide (way = 0)) (dt_eq (dt_cmp (de_name B' 3) de_int (opd_eqI _ _ hr.units)) z0) fun _ => dw_orE (k := decide (0 < (takeF (S i).1 (wayN way)).1)) (dt_eq (dt_cmp (de_ncL (q := some v) (A := oB X.K (S i).1) B' 0 (Ct _) (da_cons (de_ix (de_lstD (dad_cons de_int rfl (dad_cons de_int rfl (dad_cons de_int rfl (dad_cons de_int rfl (dad_cons de_int rfl dad_nil)))))) (de_name B' 3) (ixd_l (wayN_at hway))) da_nil) (.inl rfl) (hf := let ⟨f, _, h, _⟩ := f2; ⟨f, h⟩)) de_int (opd_gt _ _)) z3) fun _ => dw_or1 (dt_w (dw_andE (k := decide (way = 2)) (dt_eq (dt_cmp (de_name B' 3) de_int (opd_eqI _ _ hr.units)) z2) fun _ => dw_and1 (dt_eq (dt_cmp (de_ncL (q := some v) (A := oB X.K (takeF (S i).1 (wayN way)).2) B' 0 (Ct2 _) (da_cons de_int da_nil) (.inl rfl) (hf := let ⟨f, _, h, _⟩ := f2; ⟨f, h⟩)) de_int (opd_eqI _ _ hr.units)) z4))))
    · refine ⟨dD X.K (tD x), _, de_name B' 5, by rw [List.length_map]; omega, (Drop.keep (.keep (.keep (.keep (.keep (.skip .nil)))))).wk, ?_⟩
      rw [eS]
      show List.map _ (if (keepF way (S i).1).1 = true then _ else _) = _
      rw [if_pos hk, List.map_append]; rfl
    · rw [eS]
      show List.map _ (if (keepF way (S i).1).1 = true then _ else _) = _
      rw [if_neg (by rw [hk]; simp)]
  · rw [List.length_map, eL]; exact Wk.refl _
  · rw [List.length_map, eL]
  · intro p hp A
    simp only [List.mem_singleton] at hp
    subst hp
    intro z; cases z
  · rw [List.map_map]; rfl
  have hbL : BoOk 10 (worldL b m).1 := worldL_ok hm hb
  have C4 : NC X "_law_names" [(oB X.K (worldL b m).1).at none, dD X.K (nD m)] [(oB X.K (mixed (worldL b m).1 tenN).2).at none, dD X.K (nD m)] (oLn X.K ((namesF (worldL b m).1 m).map .str)) := nk f4 hr ⟨((worldL b m).1, m), hbL, by omega⟩
  have C5 : NC X "_law_made" [dD X.K (.list ((namesF (worldL b m).1 m).map .str)), dD X.K (.list (bD back)), dD X.K (.list ((worldL b m).2.map tD))] [dD X.K (.list ((namesF (worldL b m).1 m).map .str)), dD X.K (.list (bD back)), dD X.K (.list ((worldL b m).2.map tD))] (.fz (isWo X.prog X.w X.K (madeF (namesF (worldL b m).1 m) back (worldL b m).2))) :=
    nk f5 hr ⟨(namesF (worldL b m).1 m, back, (worldL b m).2), worldL_len hm, fun x hx => by show trIn back.length x; rw [eb]; exact worldL_in hx⟩
  refine dss_end (ds_ret (de_nc B C5 (da_cons (de_ncL (q := some v) (A := oB X.K (worldL b m).1) B 0 C4 (da_cons (de_name B 1) da_nil) (.inl rfl) (hf := let ⟨f, _, h, _⟩ := f4; ⟨f, h⟩)) (da_cons (de_name B 2) (da_cons (de_move B 4) da_nil))) (.inl rfl)) ⟨?_, rfl, trivial⟩)
  rw [eb]; rfl
end
end K7

set_option maxHeartbeats 4000000
/-! K28: what a world is, _law_table. -/
namespace K7
open PySem PySem.Spec PyProof.Rows L2 DL Hd
structure WoOk (W : Wo) : Prop where
  bk : BkOk W.back
  lo : 1 ≤ W.back.length
  inv : ∀ i, i < W.back.length → K7.bk W.back (K7.bk W.back i) = i
  len : W.names.length = W.back.length
  nd : W.names.Nodup
  nm : ∀ z ∈ W.names, isName z = true
  lots : ∀ x ∈ W.lots, trIn W.back.length x
  lz : W.lots.length ≤ 125
  lets : ∀ y, y ∈ W.lets ↔ ∃ x ∈ W.lots, y ∈ six (K7.bk W.back) x
theorem namesF_ok {b : Bo} {m : Nat} (h : m ≤ 10) : (namesF b m).length = m ∧ (namesF b m).Nodup ∧ ∀ z ∈ namesF b m, isName z = true := by
  have hp := mixed_perm b tenN
  have hl : (mixed b tenN).1.length = 10 := hp.length_eq
  have nd : (mixed b tenN).1.Nodup := hp.nodup_iff.mpr (by decide +kernel)
  refine ⟨by rw [namesF, List.length_take]; omega, nd.sublist (List.take_sublist _ _), fun z hz => ?_⟩
  have : ∀ z ∈ tenN, isName z = true := by decide +kernel
  exact this z (hp.mem_iff.mp (List.mem_of_mem_take hz))
theorem worldF_wo {b : Bo} {m : Nat} (h0 : 0 < m) (h : m ≤ 5) : WoOk (worldF b m).1 ∧ (worldF b m).1.back.length = m := by
  obtain ⟨l, hl⟩ := backsF_inv b m
  obtain ⟨n1, n2, n3⟩ := namesF_ok (b := (worldL b m).1) (m := m) (by omega)
  refine ⟨⟨backsF_bk h, ?_, ?_, ?_, n2, n3, ?_, ?_, ?_⟩, hl.len⟩
  · show 1 ≤ (backsF b m).1.length
    rw [hl.len]; exact h0
  · intro i hi
    exact hl.inv i (by rw [← hl.len]; exact hi)
  · show (namesF (worldL b m).1 m).length = (backsF b m).1.length
    rw [n1, hl.len]
  · intro x hx
    exact worldL_in ((mem_srt tD _ x).mp hx)
  · show (srt tD (worldL b m).2).length ≤ 125
    rw [srt, List.length_mergeSort]
    exact worldL_len h
  · intro y
    show y ∈ letsF _ _ ↔ ∃ x ∈ srt tD _, _
    rw [mem_letsF]
    exact ⟨fun ⟨x, hx, q⟩ => ⟨x, (mem_srt tD _ x).mpr hx, q⟩, fun ⟨x, hx, q⟩ => ⟨x, (mem_srt tD _ x).mp hx, q⟩⟩
theorem WoOk.tb {W : Wo} (h : WoOk W) : TbOk W.names W.back := ⟨h.len, h.bk.hi, h.bk.mem, h.nd⟩
theorem WoOk.ways {W : Wo} (h : WoOk W) : WaysOk (wpairs W.names W.back) := by
  have hb : ∀ i, i < W.back.length → K7.bk W.back i < W.back.length := fun i hi => bk_lt h.bk.mem hi
  have hn : ∀ i, i < W.back.length → isName (wy W.names i) = true := fun i hi => h.nm _ (wy_mem (by rw [h.len]; exact hi))
  refine ⟨by rw [wpairs, List.length_map, List.length_range]; exact h.lo, by rw [wpairs, List.length_map, List.length_range]; exact h.bk.hi, fun p hp => ?_, ?_, fun p hp => ?_⟩
  · simp only [wpairs, List.mem_map, List.mem_range] at hp
    obtain ⟨k, hk, rfl⟩ := hp
    exact ⟨hn k hk, hn _ (hb k hk)⟩
  · have e : (wpairs W.names W.back).map (·.1) = W.names := by
      rw [wpairs, List.map_map]
      apply List.ext_getElem?
      intro i
      by_cases hi : i < W.back.length
      · rw [List.getElem?_map, List.getElem?_range hi, wy_get (by rw [h.len]; exact hi)]; rfl
      · rw [List.getElem?_map, List.getElem?_eq_none (by rw [List.length_range]; omega), List.getElem?_eq_none (by rw [h.len]; omega)]; rfl
    rw [e]; exact h.nd
  · simp only [wpairs, List.mem_map, List.mem_range] at hp ⊢
    obtain ⟨k, hk, rfl⟩ := hp
    exact ⟨K7.bk W.back k, hb k hk, by rw [h.inv k hk]⟩
def rep (back : List Nat) (b : Bo) (x : Tr) : Tr := (six (bk back) x).getD (takeF b 6).1 (0, 0, 0)
theorem rep_mem (back : List Nat) (b : Bo) (x : Tr) : (six (bk back) x)[(takeF b 6).1]? = some (rep back b x) := by
  have h : (takeF b 6).1 < (six (bk back) x).length := takeF_lt (m := 6) (by omega)
  rw [rep, List.getD_eq_getElem?_getD, List.getElem?_eq_getElem h]; rfl
def repS (back : List Nat) (s : Bo × List Tr) (x : Tr) : Bo × List Tr := ((takeF s.1 6).2, s.2 ++ [rep back s.1 x])
def tableR (W : Wo) (b : Bo) : Bo × List Tr := (mixed b W.lots).1.foldl (repS W.back) ((mixed b W.lots).2, [])
def tableF (W : Wo) (b : Bo) : Tab × Bo := (tabOf W.names W.back (tableR W b).2, (tableR W b).1)
theorem reps_ok {back : List Nat} : ∀ (l : List Tr) (n : Nat) (s : Bo × List Tr), BoOk (n + l.length) s.1 → BoOk n (l.foldl (repS back) s).1
  | [], n, s, h => h
  | x :: l, n, s, h => reps_ok l n _ (takeF_ok (n := n + l.length) h)
theorem reps_len {back : List Nat} : ∀ (l : List Tr) (s : Bo × List Tr), (l.foldl (repS back) s).2.length = s.2.length + l.length
  | [], s => rfl
  | x :: l, s => by
    have h : (l.foldl (repS back) (repS back s x)).2.length = (repS back s x).2.length + l.length := reps_len l (repS back s x)
    rw [List.foldl_cons, h]
    show (s.2 ++ [_]).length + _ = _
    simp only [List.length_append, List.length_cons, List.length_nil]; omega
/-- each stands for a lot, each lot has one -/
theorem reps_mem {back : List Nat} : ∀ (l : List Tr) (s : Bo × List Tr), (∀ y ∈ (l.foldl (repS back) s).2, y ∈ s.2 ∨ ∃ x ∈ l, y ∈ six (bk back) x) ∧ (∀ y ∈ s.2, y ∈ (l.foldl (repS back) s).2) ∧ ∀ x ∈ l, ∃ y ∈ (l.foldl (repS back) s).2, y ∈ six (bk back) x
  | [], s => ⟨fun y h => .inl h, fun y h => h, fun x h => by cases h⟩
  | x :: l, s => by
    obtain ⟨h1, h2, h3⟩ := reps_mem l (repS back s x)
    have hm : rep back s.1 x ∈ six (bk back) x := List.mem_of_getElem? (rep_mem back s.1 x)
    have e : ∀ y, y ∈ (repS back s x).2 ↔ y ∈ s.2 ∨ y = rep back s.1 x := fun y => by
      show y ∈ s.2 ++ [_] ↔ _
      simp
    refine ⟨fun y hy => ?_, fun y hy => h2 y ((e y).mpr (.inl hy)), fun z hz => ?_⟩
    · rcases h1 y hy with h | ⟨z, hz, h⟩
      · rcases (e y).mp h with h | h
        · exact .inl h
        · exact .inr ⟨x, List.mem_cons_self, by rw [h]; exact hm⟩
      · exact .inr ⟨z, List.mem_cons_of_mem _ hz, h⟩
    · rcases List.mem_cons.mp hz with rfl | hz
      · exact ⟨_, h2 _ ((e _).mpr (.inr rfl)), hm⟩
      · exact h3 z hz
theorem tableR_ok {n : Nat} {W : Wo} {b : Bo} (hw : WoOk W) (h : BoOk (n + 250) b) : BoOk n (tableR W b).1 := by
  refine reps_ok _ n _ ?_
  have hl : (mixed b W.lots).1.length = W.lots.length := (mixed_perm b W.lots).length_eq
  have := hw.lz
  exact mixed_ok (xs := W.lots) (h.mono (by omega))
theorem tableR_in {W : Wo} {b : Bo} (hw : WoOk W) : ∀ y ∈ (tableR W b).2, trIn W.back.length y := fun y hy => by
  rcases (reps_mem (back := W.back) (mixed b W.lots).1 ((mixed b W.lots).2, [])).1 y hy with h | ⟨x, hx, h⟩
  · cases h
  · exact six_in hw.bk.mem (hw.lots x ((mixed_perm b W.lots).mem_iff.mp hx)) h
theorem tableR_len {W : Wo} {b : Bo} (hw : WoOk W) : (tableR W b).2.length ≤ 125 := by
  have h := reps_len (back := W.back) (mixed b W.lots).1 ((mixed b W.lots).2, [])
  have hl : (mixed b W.lots).1.length = W.lots.length := (mixed_perm b W.lots).length_eq
  have h2 : (tableR W b).2.length = 0 + (mixed b W.lots).1.length := h
  have := hw.lz
  omega
theorem tableF_ok {W : Wo} {b : Bo} (hw : WoOk W) : TOk (tableF W b).1 := by
  refine ⟨hw.tb, ?_⟩
  show sq W.back.length (masksL W.back _)
  exact sq_folds hw.bk _ _ (sq_zero _) (tableR_in hw)
section
variable {M : Md} (nb : NoB M.mg) {CT : Addr}
theorem sc__law_table : FnScope ["box", "world", "names", "back", "threes", "three", "k", "place"] ["box", "world"] (defScope (topS 58)) := ⟨rfl, rfl, rfl, by decide +kernel, rfl, by decide +kernel, by decide +kernel⟩
abbrev ltArgs (M : Md) : { i : Bo × Wo // BoOk 250 i.1 ∧ WoOk i.2 } → List DL.Arg := fun i => [.l (oB M.K i.1.1) (oB M.K (tableF i.1.2 i.1.1).2), .z (isWo M.P M.w M.K i.1.2)]
include nb in
theorem ok__law_table {fI : Addr} (F : FnD M "_law_table" (topS 58) ["box", "world"]) (mk : Mk M.K CT fI) (hT : M.mg "Table" = some (.ref CT)) (f0 : FM M fI 4 ["self", "ways", "threes"] (tnArgs M CT) (fun _ => dD M.K .none)) (f1 : FK M "_law_mixed" 2 ["box", "items"] (mixArgs M) (fun i => oLn M.K (mixed i.1.1 i.1.2).1)) (f2 : FK M "_law_take" 1 ["box", "many"] (takeArgs M) (fun i => dD M.K (nD (takeF i.1.1 i.1.2).1)))
    (f3 : FK M "_law_six" 1 ["back", "three"] (sixArgs M) (fun i => oLn M.K ((six (bk i.1.1) i.1.2).map tD))) : FK M "_law_table" 6 ["box", "world"] (ltArgs M) (fun i => .fz (isTb M.K CT (tableF i.1.2 i.1.1).1)) := by
  refine fk (N := ["box", "world", "names", "back", "threes", "three", "k", "place"]) F sc__law_table (fun _ => rfl) ?_
  rintro X rfl B hr ⟨⟨b, W⟩, hb, hw⟩ G vs hv
  obtain ⟨v, w, rfl⟩ := len2 hv
  simp only at hb hw
  have hsz := sizeLine_eq
  have hu := B.un
  have hlz := hw.lz
  have h5 := hw.bk.hi
  obtain ⟨names, back, lots, lets⟩ := W
  simp only at hlz h5
  let W : Wo := ⟨names, back, lots, lets⟩
  let E (a : Bo) (x y : Option As) : Ev := [some ((oB X.K a).at (some v)), some (.fz (isWo X.prog X.w X.K W)), some (dD X.K (.list (names.map .str))), some (dD X.K (.list (bD back))), x, y, none, none]
  refine dss_go (env1 := E b none none) (ds_tup (L := [dD X.K (.list (names.map .str)), dD X.K (.list (bD back))]) B (da_cons (de_getW (L := woL X.prog X.w X.K W) (de_name B 1) rfl (by omega)) (da_cons (de_getW (L := woL X.prog X.w X.K W) (de_name B 1) rfl (by omega)) da_nil)) (dga_cons (dg_name B 2) (dga_cons (dg_name B 3) dga_nil))) ?_
  have hperm := mixed_perm b lots
  have hml : (mixed b lots).1.length = lots.length := hperm.length_eq
  have hb2 : BoOk 125 (mixed b lots).2 := mixed_ok (xs := lots) (hb.mono (by omega))
  have C1 := nc_mixed (b := b) tD lots f1 hr (hb.mono (by omega)) (fun x _ => (shp_tD x).mono (by omega)) (by omega)
  let S : Nat → Bo × List Tr := fun i => ((mixed b lots).1.take i).foldl (repS back) ((mixed b lots).2, [])
  have hS : ∀ i, i ≤ lots.length → BoOk (125 - i) (S i).1 := fun i hi => by
    refine reps_ok _ _ _ ?_
    have h1 : ((mixed b lots).1.take i).length = i := by rw [List.length_take]; omega
    rw [h1]
    exact hb2.mono (by omega)
  have eL : tableR W b = S (mixed b lots).1.length := by
    show _ = ((mixed b lots).1.take _).foldl _ _
    rw [List.take_length]; rfl
  refine dss_go (env1 := E (tableR W b).1 (some (oLn X.K ((tableR W b).2.map tD))) none) (ds_lcr B 4 (lcr_data (env1 := E (tableR W b).1 none none) (lcr_run (L' := (tableR W b).2.map fun x => dD X.K (tD x)) [("three", 5)] (fun i => (E (S i).1 none none, (S i).2.map fun x => dD X.K (tD x))) B ⟨by decide +kernel, by decide +kernel, by decide +kernel, by decide +kernel, by decide +kernel⟩ (di_ldm (mixed b lots).1 tD (de_ncL (q := some v) (A := oB X.K b) B 0 C1 (da_cons (de_getW (L := woL X.prog X.w X.K W) (de_name B 1) rfl (by omega)) da_nil) (.inl rfl) (hf := let ⟨f, _, h, _⟩ := f1; ⟨f, h⟩)) rfl) (Wk.refl _) rfl ?_ (fun s0 H0 C cl fp B' i P hP => ?_) ?_ ?_ ?_) ?_)) ?_
  · intro p hp A
    simp only [List.mem_singleton] at hp
    subst hp
    intro z; cases z
  · rw [List.getElem?_map, Option.map_eq_some_iff] at hP
    obtain ⟨x, hx, rfl⟩ := hP
    have hil : i < (mixed b lots).1.length := (List.getElem?_eq_some_iff.mp hx).1
    have hSi := hS i (by omega)
    have hxin : trIn back.length x := hw.lots x (hperm.mem_iff.mp (List.mem_of_getElem? hx))
    have eS : S (i + 1) = repS back (S i) x := by
      show ((mixed b lots).1.take (i + 1)).foldl _ _ = _
      rw [take_succ_f hx, List.foldl_append]; rfl
    have hkl : (S i).2.length ≤ 125 := by
      have h1 := reps_len (back := back) ((mixed b lots).1.take i) ((mixed b lots).2, [])
      have h2 : (S i).2.length = 0 + ((mixed b lots).1.take i).length := h1
      rw [List.length_take] at h2
      omega
    have Ct := fun sc' => nc_take (X := BY X s0 H0 sc' C cl fp) (b := (S i).1) (n := 6) f2 hr (hSi.mono (by omega)) (by omega) (by omega)
    refine ⟨[5], E (S i).1 none (some (dD X.K (tD x))), E (S i).1 none (some (dD X.K (tD x))), true, dg_name B' 5, fun j hj => by simpa using hj, dts_nil, fun hk => ?_, fun hk => (nomatch hk)⟩
    refine ⟨dD X.K (tD (rep back (S i).1 x)), E (takeF (S i).1 6).2 none (some (dD X.K (tD x))), de_ix (A := oLn X.K ((six (bk back) x).map tD)) (de_nc B' (nk (X := BY X s0 H0 _ C cl fp) f3 hr ⟨(back, x), hxin⟩) (da_cons (de_name B' 3) (da_cons (de_name B' 5) da_nil)) (.inl rfl)) (de_ncL (q := some v) (A := oB X.K (S i).1) B' 0 (Ct _) (da_cons de_int da_nil) (.inl rfl) (hf := let ⟨f, _, h, _⟩ := f2; ⟨f, h⟩)) (ixd_l (atI_nat (by rw [List.getElem?_map, rep_mem]; rfl))), by rw [List.length_map]; omega, ?_, ?_⟩
    · rw [eS]
      exact (Drop.keep (.keep (.keep (.keep (.keep (.skip (.keep (.keep .nil)))))))).wk
    · rw [eS]
      show List.map _ ((S i).2 ++ [_]) = _
      rw [List.map_append]; rfl
  · rw [List.length_map, eL]; exact Wk.refl _
  · rw [List.length_map, eL]
  · intro p hp A
    simp only [List.mem_singleton] at hp
    subst hp
    intro z; cases z
  · rw [List.map_map]; rfl
  have htl : (tableR W b).2.length ≤ 125 := tableR_len (b := b) hw
  have hti : ∀ y ∈ (tableR W b).2, trIn back.length y := tableR_in (b := b) hw
  have CT' : NC X "Table" [dD X.K (.list ((wpairs names back).map pairS)), dD X.K (.list ((tableR W b).2.map (trN names)))] [dD X.K (.list ((wpairs names back).map pairS)), dD X.K (.list ((tableR W b).2.map (trN names)))] ((oI CT (fsT X.K (tabOf names back (tableR W b).2))).at none) :=
    nkC mk f0 hT hr ⟨(names, back, (tableR W b).2), hw.tb, hw.ways, hti, Nat.le_trans htl (by omega)⟩ rfl rfl
  have hpd : (wpairs names back).map pairS = (List.range back.length).map fun k => PyData.tuple [.str (wy names k), .str (wy names (bk back k))] := by
    rw [wpairs, List.map_map]; rfl
  have nmAt : ∀ {k : Nat}, k < back.length → atI (names.map PyData.str) ((k : Nat) : Int) = some (.str (wy names k)) := fun {k} hk => atI_nat (by rw [List.getElem?_map, wy_get (by rw [hw.len]; exact hk)]; rfl)
  refine dss_end (ds_ret (A := .fz (isTb X.K CT (tableF W b).1)) (de_frz (de_nc B CT' (da_cons (A := oLn X.K ((wpairs names back).map pairS)) (de_eq (de_lcr (lc1n 6 (List.range back.length) (fun k => isD X.K (nD k)) (fun k => PyData.tuple [.str (wy names k), .str (wy names (bk back k))]) B ⟨by decide +kernel, by decide +kernel, by decide +kernel, by decide +kernel, by decide +kernel⟩ (di_rn B (de_getW (L := woL X.prog X.w X.K W) (de_name B 1) rfl (by omega)) nb.range (by show back.length < _; omega)) (by rw [List.length_range]; omega) rfl fun s0 H0 C cl fp B' k hk => ?_)) (by rw [hpd])) (da_cons (A := oLn X.K ((tableR W b).2.map (trN names))) (de_lcr (lc1n 5 (tableR W b).2 (fun x => isD X.K (tD x)) (trN names) B ⟨by decide +kernel, by decide +kernel, by decide +kernel, by decide +kernel, by decide +kernel⟩ (di_ldm (tableR W b).2 tD (de_move B 4) rfl) (by omega) rfl fun s0 H0 C cl fp B' x hx => ?_)) da_nil)) (.inl rfl))) ⟨rfl, rfl, trivial⟩)
  · have hk' := List.mem_range.mp hk
    have hbk : bk back k < back.length := bk_lt hw.bk.mem hk'
    exact ⟨_, rfl, de_tupD (dad_cons (de_ix (de_name (P := isD X.K (.list (names.map .str))) B' 2) (de_name (P := isD X.K (nD k)) B' 6) (ixd_l (nmAt hk'))) rfl (dad_cons (de_ix (de_name (P := isD X.K (.list (names.map .str))) B' 2) (de_ix (de_name (P := isD X.K (.list (bD back))) B' 3) (de_name (P := isD X.K (nD k)) B' 6) (ixd_l (bk_in hk'))) (ixd_l (nmAt hbk))) rfl dad_nil))⟩
  · obtain ⟨h1, h2, h3⟩ := hti x hx
    refine ⟨_, rfl, de_nc B' (nc_t (cd_tupleL (ds := [x.1, x.2.1, x.2.2].map fun k => PyData.str (wy names k))) nb.tuple) (da_cons (de_lcr (lc1n 7 [x.1, x.2.1, x.2.2] (fun k => isD X.K (nD k)) (fun k => .str (wy names k)) B' ⟨by decide +kernel, by decide +kernel, by decide +kernel, by decide +kernel, by decide +kernel⟩ (di_tdm [x.1, x.2.1, x.2.2] nD (de_name (P := isD X.K (tD x)) B' 5) rfl) (by show 3 ≤ _; omega) rfl fun s1 H1 C1 cl1 fp1 B2 k hk => ?_)) da_nil) (.inl rfl)⟩
    have hk' : k < back.length := by
      simp only [List.mem_cons, List.not_mem_nil, or_false] at hk
      rcases hk with rfl | rfl | rfl
      · exact h1
      · exact h2
      · exact h3
    exact ⟨_, rfl, de_ix (de_name (P := isD X.K (.list (names.map .str))) B2 2) (de_name (P := isD X.K (nD k)) B2 7) (ixd_l (nmAt hk'))⟩
end
end K7

set_option maxHeartbeats 4000000
/-! K29: _law_looks, _law_named. -/
namespace K7
open PySem PySem.Spec PyProof.Rows L2 DL Hd
/-- may the thing stand so behind what has begun? -/
def okL (W : Wo) (C : Ce) (t : Nat) (begun : List Nat) (p : Nat) : Bool := decide ((List.range t).filter (fun j => !hasL W p (getC C t j) (begun.getD j 0)) = [])
def growR (W : Wo) (C : Ce) (t : Nat) (begun : List Nat) : List (List Nat) := ((List.range W.back.length).filter (okL W C t begun)).map fun p => begun ++ [p]
def growL (W : Wo) (C : Ce) (found : List (List Nat)) (t : Nat) : List (List Nat) := found.flatMap (growR W C t)
def looksT (W : Wo) (pl : Pl) (t : Nat) : List (List Nat) := (List.range t).foldl (growL W (cellsL (bk W.back) pl)) [[]]
def looksF (W : Wo) (pl : Pl) : List (List Nat) := looksT W pl pl.length
theorem looksT_succ (W : Wo) (pl : Pl) (t : Nat) : looksT W pl (t + 1) = growL W (cellsL (bk W.back) pl) (looksT W pl t) t := by
  unfold looksT
  rw [List.range_succ, List.foldl_append]; rfl
theorem growR_len (W : Wo) (C : Ce) (t : Nat) (begun : List Nat) : (growR W C t begun).length ≤ W.back.length := by
  unfold growR
  rw [List.length_map]
  exact Nat.le_trans (List.length_filter_le _ _) (by rw [List.length_range]; omega)
theorem looksT_len {W : Wo} {pl : Pl} (h5 : W.back.length ≤ 5) : ∀ t, (looksT W pl t).length ≤ 5 ^ t
  | 0 => by show 1 ≤ 1; omega
  | t + 1 => by
    rw [looksT_succ, growL]
    have h := flat_bound (growR W (cellsL (bk W.back) pl) t) 5 (looksT W pl t) fun a _ => Nat.le_trans (growR_len W _ t a) h5
    have h2 := looksT_len (W := W) (pl := pl) h5 t
    have h3 : (looksT W pl t).length * 5 ≤ 5 ^ t * 5 := Nat.mul_le_mul_right 5 h2
    rw [Nat.pow_succ]
    omega
structure LkOk (W : Wo) (t : Nat) (row : List Nat) : Prop where
  len : row.length = t
  lt : ∀ k ∈ row, k < W.back.length
theorem looksT_ok {W : Wo} {pl : Pl} : ∀ t, ∀ row ∈ looksT W pl t, LkOk W t row
  | 0, row, h => by
    have : row = [] := by simpa [looksT] using h
    subst this
    exact ⟨rfl, fun k hk => by cases hk⟩
  | t + 1, row, h => by
    rw [looksT_succ, growL, List.mem_flatMap] at h
    obtain ⟨r, hr, h⟩ := h
    simp only [growR, List.mem_map, List.mem_filter, List.mem_range] at h
    obtain ⟨p, ⟨hp, _⟩, rfl⟩ := h
    have hk := looksT_ok t r hr
    refine ⟨by rw [List.length_append, hk.len]; rfl, fun k hk' => ?_⟩
    rcases List.mem_append.mp hk' with q | q
    · exact hk.lt k q
    · rw [List.mem_singleton.mp q]; exact hp
section
variable {M : Md} (nb : NoB M.mg)
theorem sc__law_looks : FnScope ["world", "rows", "cells", "found", "thing", "longer", "begun", "place", "j"] ["world", "rows"] (defScope (topS 61)) := ⟨rfl, rfl, rfl, by decide +kernel, rfl, by decide +kernel, by decide +kernel⟩
structure LsOk (W : Wo) (pl : Pl) : Prop where
  tri : Tri W.back.length pl
  h5 : W.back.length ≤ 5
  sz : pl.length ≤ 8
abbrev llArgs (M : Md) : { i : Wo × Pl // LsOk i.1 i.2 } → List DL.Arg := fun i => [.z (isWo M.P M.w M.K i.1.1), .z (isD M.K (plL i.1.2))]
theorem shp_ls (row : List Nat) : Shp 1 (lsD row) := shp_l fun a _ => shp_n a
include nb in
theorem ok__law_looks (F : FnD M "_law_looks" (topS 61) ["world", "rows"]) (f1 : FK M "_law_cells" 1 ["world", "rows"] (lceArgs M) (fun i => (oM M.K (ceD (cellsL (bk i.1.1.back) i.1.2))).at none)) : FK M "_law_looks" 2 ["world", "rows"] (llArgs M) (fun i => oLn M.K ((looksF i.1.1 i.1.2).map lsD)) := by
  refine fk (N := ["world", "rows", "cells", "found", "thing", "longer", "begun", "place", "j"]) F sc__law_looks (fun _ => rfl) ?_
  rintro X rfl B hr ⟨⟨W, pl⟩, ht, h5, h8⟩ G vs hv
  obtain ⟨v, w, rfl⟩ := len2 hv
  simp only at ht h5 h8
  have hsz := sizeLine_eq
  have hu := B.un
  have hlen : (pl.map lsD).length = pl.length := List.length_map _
  have hsq := cellsL_sq (b := bk W.back) ht
  obtain ⟨C, hC⟩ : ∃ C, C = cellsL (bk W.back) pl := ⟨_, rfl⟩
  rw [← hC] at hsq
  have hT : ∀ t, t ≤ pl.length → (looksT W pl t).length ≤ 390625 := fun t ht' => Nat.le_trans (looksT_len h5 t) (by
    have : 5 ^ t ≤ 5 ^ 8 := Nat.pow_le_pow_right (by omega) (by omega)
    have e : 5 ^ 8 = 390625 := by decide
    omega)
  let cD : PyData := .list ((ceD C).map PyData.list)
  let E (found : List (List Nat)) (t longer begun place : Option As) : Ev := [some (.fz (isWo X.prog X.w X.K W)), some (dD X.K (plL pl)), some (dD X.K cD), some (oLn X.K (found.map lsD)), t, longer, begun, place, none]
  refine dss_go (env1 := E [[]] none none none none) (ds_tup (L := [dD X.K cD, oLn X.K [lsD []]]) B (da_cons (de_oM (A := (oM X.K (ceD C)).at none) (de_eq (de_nc B (nk f1 hr ⟨(W, pl), ht⟩) (da_cons (de_name B 0) (da_cons (de_name B 1) da_nil)) (.inl rfl)) (by rw [hC]; rfl)) rfl) (da_cons (de_lstD (ds := [lsD []]) (dad_cons (de_lstD dad_nil) rfl dad_nil)) da_nil)) (dga_cons (dg_name B 2) (dga_cons (dg_name B 3) dga_nil))) ?_
  refine dss_go (env1 := E (looksF W pl) none none none none) (ds_forN B (di_rn B (de_eq (de_nc B (nc_b (cd_lenL (ds := pl.map lsD)) nb.len) (da_cons (de_name B 1) da_nil) (.inl rfl)) (by rw [hlen])) nb.range (by omega)) (fun t => E (looksT W pl t) none none none none) (Wk.refl _) (fun t P hP => ?_) (by
    show NX _ (.nx (E (looksT W pl _) none none none none))
    rw [List.length_map, List.length_range]; rfl)) (dss_end (ds_ret (de_move B 3) ⟨rfl, trivial⟩))
  rw [List.getElem?_map, Option.map_eq_some_iff] at hP
  obtain ⟨t', hq, rfl⟩ := hP
  obtain ⟨hi, hti⟩ := List.getElem?_eq_some_iff.mp hq
  rw [List.length_range] at hi
  rw [List.getElem_range] at hti
  subst hti
  have hTt := hT (t + 1) (by omega)
  have hS := looksT_succ W pl t
  rw [← hC] at hS
  have eT : (looksT W pl (t + 1)) = (looksT W pl t).flatMap (growR W C t) := hS
  let tE : Option As := some (dD X.K (nD t))
  let E2 (l : List (List Nat)) (begun place : Option As) : Ev := [some (.fz (isWo X.prog X.w X.K W)), some (dD X.K (plL pl)), some (dD X.K cD), none, tE, some (oLn X.K (l.map lsD)), begun, place, none]
  refine ⟨_, E (looksT W pl t) tE none none none, dg_name B 4, dss_go (env1 := E (looksT W pl t) tE (some (oLn X.K ([].map lsD))) none none) (ds_set B 5 (de_lstD dad_nil)) ?_⟩
  let F1 : Nat → List (List Nat) := fun i => ((looksT W pl t).take i).flatMap (growR W C t)
  have hF1 : ∀ i, (F1 i).length ≤ 390625 := fun i => Nat.le_trans (flat_take_le (growR W C t) (looksT W pl t) i) (by rw [← eT]; exact hTt)
  refine dss_go (env1 := E2 (looksT W pl (t + 1)) none none) (ds_forN B (di_ldm (looksT W pl t) lsD (de_move B 3) rfl) (fun i => E2 (F1 i) none none) (Wk.refl _) (fun i P hP => ?_) (by
    show NX _ (.nx (E2 (F1 _) none none))
    have : F1 ((looksT W pl t).map fun a => isD X.K (lsD a)).length = looksT W pl (t + 1) := by
      show ((looksT W pl t).take _).flatMap _ = _
      rw [List.length_map, List.take_length, eT]
    rw [this]; rfl)) (dss_end (ds_last (ds_set B 3 (de_move B 5)) (by
      refine Drop.wk ?_
      repeat (first | exact Drop.nil | apply Drop.keep | apply Drop.skip))))
  rw [List.getElem?_map, Option.map_eq_some_iff] at hP
  obtain ⟨begun, hbg, rfl⟩ := hP
  have hbl := looksT_ok (W := W) (pl := pl) t begun (List.mem_of_getElem? hbg)
  have hS1 : F1 (i + 1) = F1 i ++ growR W C t begun := by
    show ((looksT W pl t).take (i + 1)).flatMap _ = _
    rw [take_succ_f hbg, List.flatMap_append]; simp [F1]
  let bE : Option As := some (dD X.K (lsD begun))
  refine ⟨_, E2 (F1 i) bE none, dg_name B 6, dss_end ?_⟩
  let m := W.back.length
  let F2 : Nat → List (List Nat) := fun k => F1 i ++ (((List.range m).take k).filter (okL W C t begun)).map fun p => begun ++ [p]
  have hF2 : ∀ k, k ≤ m → (F2 k).length ≤ 390630 := fun k hk => by
    show (F1 i ++ _).length ≤ _
    have h1 := hF1 i
    have h2 := List.length_filter_le (okL W C t begun) ((List.range m).take k)
    rw [List.length_append, List.length_map]
    rw [List.length_take, List.length_range] at h2
    omega
  refine ds_forN (Pt := LpW (E2 (F1 (i + 1)) none none) _) B (di_rn B (de_getW (L := woL X.prog X.w X.K W) (de_name B 0) rfl (by omega)) nb.range (by show m < _; omega)) (fun k => E2 (F2 k) bE none) (by
    have : F2 0 = F1 i := by simp [F2]
    rw [this]; exact Wk.refl _) (fun k P hP => ?_) ?_
  · rw [List.getElem?_map, Option.map_eq_some_iff] at hP
    obtain ⟨p, hp, rfl⟩ := hP
    have hpm : p < m := List.mem_range.mp (List.mem_of_getElem? hp)
    have hkm : k < m := by
      have := (List.getElem?_eq_some_iff.mp hp).1
      rwa [List.length_range] at this
    have hS2 : F2 (k + 1) = if okL W C t begun p = true then F2 k ++ [begun ++ [p]] else F2 k := by
      show F1 i ++ (((List.range m).take (k + 1)).filter _).map _ = _
      rw [take_succ_f hp, List.filter_append, List.map_append, ← List.append_assoc]
      cases hk : okL W C t begun p with
      | false =>
        have e : [p].filter (okL W C t begun) = [] := by simp [List.filter, hk]
        rw [e]
        exact List.append_nil _
      | true =>
        have e : [p].filter (okL W C t begun) = [p] := by simp [List.filter, hk]
        rw [e]
        rfl
    have hl2 := hF2 k (by omega)
    let pE : Option As := some (dD X.K (nD p))
    have a2 : atI ((ceD C).map PyData.list) ((t : Nat) : Int) = some (PyData.list ((C.getD t []).map PyData.int)) := atI_nat (by unfold ceD; rw [List.getElem?_map, List.getElem?_map, (sqc_at hsq hi).1]; rfl)
    refine ⟨_, E2 (F2 k) bE pE, dg_name B 7, dss_end (ds_if (env1 := E2 (F2 k) bE pE) (k := okL W C t begun p) ?_ (fun hk => ?_) (fun hk => ?_))⟩
    · refine dt_eq (dt_cmp (A := oLn X.K (((List.range t).filter (fun j => !hasL W p (getC C t j) (begun.getD j 0))).map nD)) (de_lcr (lc1 8 (List.range t) (fun j => isD X.K (nD j)) (fun j => !hasL W p (getC C t j) (begun.getD j 0)) nD B ⟨by decide +kernel, by decide +kernel, by decide +kernel, by decide +kernel, by decide +kernel⟩ (di_rn B (de_name B 4) nb.range (by omega)) (by rw [List.length_range]; omega) rfl fun s0 H0 C' cl fp B' j hj => ?_)) (de_lstD dad_nil) (opd_eq (d' := .list []) hr.units ((shp_l fun a _ => shp_n a).ok (by omega)) (by decide +kernel))) ?_
      · have hjt : j < t := List.mem_range.mp hj
        have a3 : atI ((C.getD t []).map PyData.int) ((j : Nat) : Int) = some (.int (getC C t j)) := atI_nat (by
          have hl := (sqc_at hsq hi).2
          have e : getC C t j = (C.getD t []).getD j 0 := rfl
          rw [e, List.getElem?_map, List.getD_eq_getElem?_getD (l := C.getD t []), List.getElem?_eq_getElem (by omega)]; rfl)
        have a4 : atI (begun.map nD) ((j : Nat) : Int) = some (nD (begun.getD j 0)) := atI_nat (by
          rw [List.getElem?_map, List.getD_eq_getElem?_getD, List.getElem?_eq_getElem (by rw [hbl.len]; exact hjt)]; rfl)
        refine ⟨dts_one (dt_cmp (de_tupD (dad_cons (de_name B' 7) rfl (dad_cons (de_ix (de_ix (de_name (P := isD X.K cD) B' 2) (de_name (P := isD X.K (nD t)) B' 4) (ixd_l a2)) (de_name (P := isD X.K (nD j)) B' 8) (ixd_l a3)) rfl (dad_cons (de_ix (de_name (P := isD X.K (lsD begun)) B' 6) (de_name (P := isD X.K (nD j)) B' 8) (ixd_l a4)) rfl dad_nil)))) (de_getW (L := woL X.prog X.w X.K W) (de_name B' 0) rfl (by show X.A.units + 1 < _; omega)) (opd_notInX (ks := [.num p, .num (getC C t j), .num (begun.getD j 0)]) hu (show (1 : Nat) ≤ 8 by decide))), fun _ => ⟨_, rfl, de_name B' 8⟩⟩
      · rw [eqv_nil]
        exact decide_eq_decide.mpr (by simp)
    · refine dss_end (ds_last (ds_expr (de_append (q := none) (ds := (F2 k).map lsD) (d := lsD (begun ++ [p])) (A := oLn X.K ((begun ++ [p]).map nD)) B 5 (de_eq (de_bin (de_name (P := isD X.K (lsD begun)) B 6) (de_lstD (dad_cons (de_name B 7) rfl dad_nil)) (opd_catL (ds := begun.map nD) (es := [nD p]) (by rw [List.length_map, hbl.len]; show t + 1 ≤ _; omega))) (by rw [List.map_append]; rfl)) rfl (hz := by rw [List.length_map]; omega))) ?_)
      have e : (F2 k).map lsD ++ [lsD (begun ++ [p])] = (F2 (k + 1)).map lsD := by
        rw [hS2, if_pos hk]
        exact (List.map_append (f := lsD) (l₁ := F2 k) (l₂ := [begun ++ [p]])).symm
      show Wk [some (.fz (isWo X.prog X.w X.K W)), some (dD X.K (plL pl)), some (dD X.K cD), none, tE, some (oLn X.K ((F2 k).map lsD ++ [lsD (begun ++ [p])])), bE, pE, none] (E2 (F2 (k + 1)) bE none)
      rw [e]
      refine Drop.wk ?_
      repeat (first | exact Drop.nil | apply Drop.keep | apply Drop.skip)
    · refine dss_nil ?_
      have e : F2 (k + 1) = F2 k := by rw [hS2, if_neg (by rw [hk]; simp)]
      show Wk (E2 (F2 k) bE pE) (E2 (F2 (k + 1)) bE none)
      rw [e]
      refine Drop.wk ?_
      repeat (first | exact Drop.nil | apply Drop.keep | apply Drop.skip)
  · have : F2 ((List.range m).map fun i => isD X.K (.int (i : Nat))).length = F1 (i + 1) := by
      rw [List.length_map, List.length_range]
      show F1 i ++ (((List.range m).take m).filter _).map _ = _
      have e : (List.range m).take m = List.range m := List.take_of_length_le (by rw [List.length_range]; omega)
      rw [e, hS1]; rfl
    show Wk (E2 (F2 _) bE none) _
    rw [this]
    refine Drop.wk ?_
    repeat (first | exact Drop.nil | apply Drop.keep | apply Drop.skip)
theorem sc__law_named : FnScope ["world", "rows", "row", "place"] ["world", "rows"] (defScope (topS 63)) := ⟨rfl, rfl, rfl, by decide +kernel, rfl, by decide +kernel, by decide +kernel⟩
structure NmOk (W : Wo) (pl : Pl) : Prop where
  lt : ∀ row ∈ pl, ∀ k ∈ row, k < W.names.length
  sz : pl.length ≤ 12
  rz : ∀ row ∈ pl, row.length ≤ 12
abbrev lmArgs (M : Md) : { i : Wo × Pl // NmOk i.1 i.2 } → List DL.Arg := fun i => [.z (isWo M.P M.w M.K i.1.1), .z (isD M.K (plL i.1.2))]
theorem ok__law_named (F : FnD M "_law_named" (topS 63) ["world", "rows"]) : FK M "_law_named" 1 ["world", "rows"] (lmArgs M) (fun i => oLn M.K (i.1.2.map (nmD i.1.1.names))) := by
  refine fk (N := ["world", "rows", "row", "place"]) F sc__law_named (fun _ => rfl) ?_
  rintro X rfl B hr ⟨⟨W, pl⟩, hlt, hz, hrz⟩ G vs hv
  obtain ⟨v, w, rfl⟩ := len2 hv
  simp only at hlt hz hrz
  have hsz := sizeLine_eq
  have hu := B.un
  refine dss_end (ds_ret (de_lcr (lc1n 2 pl (fun row => isD X.K (lsD row)) (nmD W.names) B ⟨by decide +kernel, by decide +kernel, by decide +kernel, by decide +kernel, by decide +kernel⟩ (di_ldm pl lsD (de_name B 1) rfl) (by omega) rfl fun s0 H0 C cl fp B' row hrow => ?_)) ⟨rfl, trivial⟩)
  have hrl := hrz row hrow
  refine ⟨_, rfl, de_lcr (lc1n 3 row (fun k => isD X.K (nD k)) (fun k => PyData.str (wy W.names k)) B' ⟨by decide +kernel, by decide +kernel, by decide +kernel, by decide +kernel, by decide +kernel⟩ (di_ldm row nD (de_name B' 2) rfl) (by omega) rfl fun s1 H1 C1 cl1 fp1 B2 k hk => ?_)⟩
  exact ⟨_, rfl, de_ix (de_getW (L := woL X.prog X.w X.K W) (de_name B2 0) rfl (by show X.A.units + 1 < _; omega)) (de_name (P := isD X.K (nD k)) B2 3) (ixd_l (atI_nat (by rw [List.getElem?_map, wy_get (hlt row hrow k hk)]; rfl)))⟩
end
end K7

set_option maxHeartbeats 4000000
/-! K30: _law_scene: a drawn scene is one. -/
namespace DL
section
open PySem PySem.Spec PyProof.Rows L2
variable {X : Cx} {G : Reg} {env env1 E' : Ev} {st : Stmt} {Pt : Out → Prop} {I' : Prop}
theorem ds_lastI (h : DS X G env st (NX env1)) (w : Wk env1 E') (i : I') : DS X G env st (LpI E' I' Pt) := ds_imp h fun o ho => by cases ho; exact ⟨w, i⟩
end
end DL
namespace K7
open PySem PySem.Spec PyProof.Rows L2 DL Hd
/-- a scene of a world -/
structure GdW (W : Wo) (pl : Pl) : Prop where
  tri : Tri W.back.length pl
  go : ∀ i j k, i < pl.length → j < i → k < j → hasL W (pg pl i j) (pg pl j k : Nat) (pg pl i k) = true
theorem okL_iff {W : Wo} {C : Ce} {t p : Nat} {begun : List Nat} (h : okL W C t begun p = true) : ∀ j, j < t → hasL W p (getC C t j) (begun.getD j 0) = true := fun j hj => by
  have h1 := of_decide_eq_true h
  rw [List.filter_eq_nil_iff] at h1
  have := h1 j (List.mem_range.mpr hj)
  simpa using this
theorem getD_app {l : List Nat} {x : Nat} {j : Nat} : (l ++ [x]).getD j 0 = if j < l.length then l.getD j 0 else if j = l.length then x else 0 := by
  simp only [List.getD_eq_getElem?_getD]
  by_cases h : j < l.length
  · rw [if_pos h, List.getElem?_append_left h]
  · rw [if_neg h, List.getElem?_append_right (by omega)]
    by_cases h2 : j = l.length
    · rw [if_pos h2, h2, Nat.sub_self]; rfl
    · rw [if_neg h2, List.getElem?_eq_none (by simp; omega)]; rfl
theorem looksT_good {W : Wo} {pl : Pl} : ∀ t, ∀ row ∈ looksT W pl t, ∀ j, j < t → ∀ k, k < j → hasL W (row.getD j 0) (getC (cellsL (bk W.back) pl) j k) (row.getD k 0) = true
  | 0, _, _, j, hj, _, _ => absurd hj (by omega)
  | t + 1, row, h, j, hj, k, hk => by
    rw [looksT_succ, growL, List.mem_flatMap] at h
    obtain ⟨r, hr, h⟩ := h
    simp only [growR, List.mem_map, List.mem_filter, List.mem_range] at h
    obtain ⟨p, ⟨hp, hok⟩, rfl⟩ := h
    have hl := (looksT_ok t r hr).len
    rw [getD_app, getD_app]
    by_cases e : j < t
    · rw [if_pos (by omega), if_pos (by omega)]
      exact looksT_good t r hr j e k hk
    · have e2 : j = t := by omega
      subst e2
      rw [if_neg (by omega), if_pos hl.symm, if_pos (by omega)]
      exact okL_iff hok k hk
theorem pg_app {pl : Pl} {row : List Nat} {i j : Nat} : pg (pl ++ [row]) i j = if i < pl.length then pg pl i j else if i = pl.length then row.getD j 0 else 0 := by
  unfold pg
  simp only [List.getD_eq_getElem?_getD]
  by_cases h : i < pl.length
  · rw [if_pos h, List.getElem?_append_left h]
  · rw [if_neg h, List.getElem?_append_right (by omega)]
    by_cases h2 : i = pl.length
    · rw [if_pos h2, h2, Nat.sub_self]; rfl
    · have e : [row][i - pl.length]? = none := List.getElem?_eq_none (by show 1 ≤ i - pl.length; omega)
      rw [if_neg h2, e]; rfl
theorem gd_nil (W : Wo) : GdW W [] := ⟨tri_nil _, fun i j k h => absurd h (Nat.not_lt_zero _)⟩
/-- one more thing -/
theorem gd_grow {W : Wo} {pl : Pl} {row : List Nat} (h : GdW W pl) (hr : row ∈ looksF W pl) (hz : pl.length < 12) : GdW W (pl ++ [row]) := by
  have hk := looksT_ok _ row hr
  have hg := looksT_good _ row hr
  refine ⟨⟨fun i r hi => ?_, fun r hm k hk' => ?_, by rw [List.length_append]; show pl.length + 1 ≤ 12; omega⟩, fun i j k hi hj hk' => ?_⟩
  · by_cases hlt : i < pl.length
    · rw [List.getElem?_append_left hlt] at hi
      exact h.tri.len i r hi
    · rw [List.getElem?_append_right (by omega)] at hi
      have : i - pl.length = 0 := by
        have : i - pl.length < 1 := (List.getElem?_eq_some_iff.mp hi).1
        omega
      rw [this] at hi
      cases hi
      rw [hk.len]; omega
  · rcases List.mem_append.mp hm with q | q
    · exact h.tri.lt r q k hk'
    · rw [List.mem_singleton.mp q] at hk'
      exact hk.lt k hk'
  · rw [List.length_append] at hi
    have hi' : i < pl.length + 1 := hi
    rw [pg_app, pg_app, pg_app]
    by_cases e : i < pl.length
    · rw [if_pos e, if_pos (by omega), if_pos e]
      exact h.go i j k e hj hk'
    · have e2 : i = pl.length := by omega
      rw [if_neg e, if_pos e2, if_pos (by omega), if_neg e, if_pos e2]
      have := hg j (by omega) k hk'
      rw [cellsL_get h.tri hk' (by omega)] at this
      exact this
def stepS (W : Wo) (s : Bo × Pl) : Bo × Pl := ((takeF s.1 (looksF W s.2).length).2, s.2 ++ [(looksF W s.2).getD (takeF s.1 (looksF W s.2).length).1 []])
def sceneL (W : Wo) : Nat → Bo × Pl → Bo × Pl
  | 0, s => s
  | n + 1, s => if looksF W s.2 = [] then s else sceneL W n (stepS W s)
def sceneF (W : Wo) (b : Bo) (most : Nat) : Bo × Pl := sceneL W (takeF b (most + 1)).1 ((takeF b (most + 1)).2, [])
theorem step_gd {W : Wo} {s : Bo × Pl} (h : GdW W s.2) (hz : s.2.length < 12) (hl : looksF W s.2 ≠ []) : GdW W (stepS W s).2 := by
  refine gd_grow h ?_ hz
  have hp : 0 < (looksF W s.2).length := List.length_pos_iff.mpr hl
  have ht := takeF_lt (b := s.1) hp
  rw [List.getD_eq_getElem?_getD, List.getElem?_eq_getElem ht]
  exact List.getElem_mem ht
theorem sceneL_gd {W : Wo} : ∀ (n : Nat) (s : Bo × Pl), GdW W s.2 → s.2.length + n ≤ 12 → GdW W (sceneL W n s).2 ∧ (sceneL W n s).2.length ≤ s.2.length + n
  | 0, s, h, _ => ⟨h, by show s.2.length ≤ _; omega⟩
  | n + 1, s, h, hz => by
    unfold sceneL
    split
    · exact ⟨h, by omega⟩
    · rename_i hl
      have e : (stepS W s).2.length = s.2.length + 1 := by
        show (s.2 ++ [_]).length = _
        rw [List.length_append]; rfl
      obtain ⟨h1, h2⟩ := sceneL_gd n (stepS W s) (step_gd h (by omega) hl) (by rw [e]; omega)
      exact ⟨h1, by rw [e] at h2; omega⟩
theorem sceneL_ok {W : Wo} : ∀ (n m : Nat) (s : Bo × Pl), BoOk (m + n) s.1 → BoOk m (sceneL W n s).1
  | 0, m, s, h => h
  | n + 1, m, s, h => by
    unfold sceneL
    split
    · exact h.mono (by omega)
    · exact sceneL_ok n m _ (takeF_ok (n := m + n) h)
theorem sceneF_gd {W : Wo} {b : Bo} {most : Nat} (hm : most ≤ 5) : GdW W (sceneF W b most).2 ∧ (sceneF W b most).2.length ≤ most := by
  have ht := takeF_lt (b := b) (m := most + 1) (by omega)
  obtain ⟨h1, h2⟩ := sceneL_gd (W := W) (takeF b (most + 1)).1 ((takeF b (most + 1)).2, []) (gd_nil W) (by show 0 + _ ≤ 12; omega)
  exact ⟨h1, Nat.le_trans h2 (by show 0 + _ ≤ _; omega)⟩
theorem sceneF_ok {W : Wo} {b : Bo} {n most : Nat} (h : BoOk (n + most + 1) b) : BoOk n (sceneF W b most).1 := by
  have ht := takeF_lt (b := b) (m := most + 1) (by omega)
  exact sceneL_ok _ n _ ((takeF_ok (n := n + most) h).mono (by omega))
section
variable {M : Md} (nb : NoB M.mg)
theorem sc__law_scene : FnScope ["box", "world", "most", "rows", "turn", "looks"] ["box", "world", "most"] (defScope (topS 62)) := ⟨rfl, rfl, rfl, by decide +kernel, rfl, by decide +kernel, by decide +kernel⟩
abbrev lscArgs (M : Md) : { i : Bo × Wo × Nat // BoOk 6 i.1 ∧ WoOk i.2.1 ∧ i.2.2 ≤ 5 } → List DL.Arg := fun i => [.l (oB M.K i.1.1) (oB M.K (sceneF i.1.2.1 i.1.1 i.1.2.2).1), .z (isWo M.P M.w M.K i.1.2.1), .z (isD M.K (nD i.1.2.2))]
include nb in
theorem ok__law_scene (F : FnD M "_law_scene" (topS 62) ["box", "world", "most"]) (f1 : FK M "_law_take" 1 ["box", "many"] (takeArgs M) (fun i => dD M.K (nD (takeF i.1.1 i.1.2).1))) (f2 : FK M "_law_looks" 2 ["world", "rows"] (llArgs M) (fun i => oLn M.K ((looksF i.1.1 i.1.2).map lsD))) :
    FK M "_law_scene" 3 ["box", "world", "most"] (lscArgs M) (fun i => dD M.K (plL (sceneF i.1.2.1 i.1.1 i.1.2.2).2)) := by
  refine fk (N := ["box", "world", "most", "rows", "turn", "looks"]) F sc__law_scene (fun _ => rfl) ?_
  rintro X rfl B hr ⟨⟨b, W, most⟩, hb, hw, hm⟩ G vs hv
  obtain ⟨v, w, u, rfl⟩ := len3 hv
  simp only at hb hw hm
  have hsz := sizeLine_eq
  have h5 := hw.bk.hi
  obtain ⟨n, hn⟩ : ∃ n, n = (takeF b (most + 1)).1 := ⟨_, rfl⟩
  have hnm : n ≤ most := by rw [hn]; have := takeF_lt (b := b) (m := most + 1) (by omega); omega
  obtain ⟨R, hR⟩ : ∃ R, R = sceneF W b most := ⟨_, rfl⟩
  have hR2 : R = sceneL W n ((takeF b (most + 1)).2, []) := by rw [hR, hn]; rfl
  let st : Nat → Bo × Pl := fun i => Nat.rec ((takeF b (most + 1)).2, []) (fun _ s => stepS W s) i
  have st1 : ∀ i, st (i + 1) = stepS W (st i) := fun i => rfl
  have stl : ∀ i, (st i).2.length = i := fun i => by
    induction i with
    | zero => rfl
    | succ i ih =>
      rw [st1]
      show ((st i).2 ++ [_]).length = _
      rw [List.length_append, ih]; rfl
  have stb : ∀ i, i ≤ 5 → BoOk (5 - i) (st i).1 := fun i => by
    induction i with
    | zero => intro _; exact takeF_ok (n := 5) hb
    | succ i ih =>
      intro hi
      rw [st1]
      exact takeF_ok (n := 5 - (i + 1)) ((ih (by omega)).mono (by omega))
  let E (s : Bo × Pl) (t l : Option As) : Ev := [some ((oB X.K s.1).at (some v)), some (.fz (isWo X.prog X.w X.K W)), some (dD X.K (nD most)), some (dD X.K (plL s.2)), t, l]
  let I : Nat → Prop := fun i => GdW W (st i).2 ∧ R = sceneL W (n - i) (st i)
  refine dss_go (env1 := E (b, []) none none) (ds_set B 3 (de_frz (de_lstD dad_nil))) ?_
  have Ct := nc_take (b := b) (n := most + 1) f1 hr (hb.mono (by omega)) (by omega) (by omega)
  have em : ((most : Nat) : Int) + 1 = ((most + 1 : Nat) : Int) := by omega
  let Pt : Out → Prop := fun o => match o with
    | .nx e => e = E (st n) none none ∧ R = st n
    | .rt e A => A = dD X.K (plL R.2) ∧ lentOk [.l (oB X.K b) (oB X.K R.1), .z (isWo X.prog X.w X.K W), .z (isD X.K (nD most))] [v, w, u] e
    | _ => False
  refine dss_cons (P1 := Pt) (ds_forI B (di_rn (n := n) B (de_eq (de_ncL (q := some v) (A := oB X.K b) B 0 Ct (da_cons (de_eq (de_bin (de_name B 2) de_int (opd_add _ _)) (by rw [em])) da_nil) (.inl rfl) (hf := let ⟨f, _, h, _⟩ := f1; ⟨f, h⟩)) (by rw [hn]; rfl)) nb.range (by omega)) (fun i => E (st i) none none) I ⟨gd_nil W, by rw [hR2]; rfl⟩ (Wk.refl _) (fun i P hP hI => ?_) (fun hI => ?_)) (fun e he => ?_) (fun e A he => ?_) (fun _ z => z.elim) (fun _ z => z.elim)
  · rw [List.getElem?_map, Option.map_eq_some_iff] at hP
    obtain ⟨i', hq, rfl⟩ := hP
    obtain ⟨hi, hti⟩ := List.getElem?_eq_some_iff.mp hq
    rw [List.length_range] at hi
    rw [List.getElem_range] at hti
    subst hti
    obtain ⟨hgd, hRi⟩ := hI
    have hsi := stl i
    have hbi := stb i (by omega)
    have hll : (looksF W (st i).2).length ≤ 3125 := by
      have h1 := looksT_len (W := W) (pl := (st i).2) h5 (st i).2.length
      have h2 : 5 ^ (st i).2.length ≤ 5 ^ 5 := Nat.pow_le_pow_right (by omega) (by omega)
      have e : 5 ^ 5 = 3125 := by decide
      show (looksT W (st i).2 (st i).2.length).length ≤ _
      omega
    let tE : Option As := some (dD X.K (nD i))
    let lE : Option As := some (oLn X.K ((looksF W (st i).2).map lsD))
    let rE : Ev := [some ((oB X.K (st i).1).at (some v)), some (.fz (isWo X.prog X.w X.K W)), some (dD X.K (nD most)), some (dD X.K (plL (st i).2)), tE, none]
    refine ⟨_, E (st i) tE none, dg_name B 4, ?_⟩
    refine dss_go (env1 := rE.set 5 lE) (ds_set B 5 (de_nc B (nk f2 hr ⟨(W, (st i).2), hgd.tri, h5, by show (st i).2.length ≤ 8; omega⟩) (da_cons (de_name B 1) (da_cons (de_name (P := isD X.K (plL (st i).2)) B 3) da_nil)) (.inl rfl))) ?_
    refine dss_chill 5 (A := oLn X.K ((looksF W (st i).2).map lsD)) rfl ?_
    let lE2 : Option As := some (dD X.K (.list ((looksF W (st i).2).map lsD)))
    refine dss_if (env1 := rE.set 5 lE2) (k := decide (looksF W (st i).2 = [])) (dt_eq (dt_cmp (de_name (P := isD X.K (.list ((looksF W (st i).2).map lsD))) B 5) (de_lstD dad_nil) (opd_eq (d' := .list []) hr.units ((shp_l fun a _ => shp_ls a).ok (by omega)) (by decide +kernel))) (by rw [eqv_nil]; exact decide_eq_decide.mpr (by simp))) (fun hk => ?_) (fun hk => ?_)
    · have hk' := of_decide_eq_true hk
      have hRe : R = st i := by
        rw [hRi]
        obtain ⟨q, hq2⟩ : ∃ q, n - i = q + 1 := ⟨n - i - 1, by omega⟩
        rw [hq2]
        show (if looksF W (st i).2 = [] then _ else _) = _
        rw [if_pos hk']
      refine dss_end (ds_ret (de_name (P := isD X.K (plL (st i).2)) B 3) ⟨⟨by rw [hRe], by rw [hRe]; exact ⟨rfl, trivial⟩⟩, fun _ z => (nomatch z)⟩)
    · have hk' := of_decide_eq_false hk
      have hlp : 0 < (looksF W (st i).2).length := List.length_pos_iff.mpr hk'
      have hRe : R = sceneL W (n - (i + 1)) (st (i + 1)) := by
        rw [hRi]
        obtain ⟨q, hq2⟩ : ∃ q, n - i = q + 1 := ⟨n - i - 1, by omega⟩
        have hq3 : n - (i + 1) = q := by omega
        rw [hq2, hq3]
        show (if looksF W (st i).2 = [] then _ else _) = _
        rw [if_neg hk']
      have C2 := nc_take (b := (st i).1) (n := (looksF W (st i).2).length) f1 hr (hbi.mono (by omega)) hlp (by omega)
      have ht := takeF_lt (b := (st i).1) hlp
      have e1 : (looksF W (st i).2)[(takeF (st i).1 (looksF W (st i).2).length).1]? = some ((looksF W (st i).2).getD (takeF (st i).1 (looksF W (st i).2).length).1 []) := by
        rw [List.getD_eq_getElem?_getD, List.getElem?_eq_getElem ht]; rfl
      have hlen : ((looksF W (st i).2).map lsD).length = (looksF W (st i).2).length := List.length_map _
      refine dss_end (ds_lastI (ds_set (env := rE.set 5 lE2) (env1 := [some ((oB X.K (st (i + 1)).1).at (some v)), some (.fz (isWo X.prog X.w X.K W)), some (dD X.K (nD most)), some (dD X.K (plL (st i).2)), tE, lE2]) B 3 (A := dD X.K (plL (st (i + 1)).2)) (de_eq (de_frz (de_bin (de_name (P := isD X.K (plL (st i).2)) B 3) (de_lstD (dad_cons (de_ix (de_name (P := isD X.K (.list ((looksF W (st i).2).map lsD))) B 5) (de_ncL (q := some v) (A := oB X.K (st i).1) B 0 C2 (da_cons (de_eq (de_nc B (nc_b (cd_lenL (ds := (looksF W (st i).2).map lsD)) nb.len) (da_cons (de_name (P := isD X.K (.list ((looksF W (st i).2).map lsD))) B 5) da_nil) (.inl rfl)) (by rw [hlen])) da_nil) (.inl rfl) (hf := let ⟨f, _, h, _⟩ := f1; ⟨f, h⟩)) (ixd_l (atI_nat (by rw [List.getElem?_map, e1]; rfl)))) rfl dad_nil)) (opd_catL (ds := (st i).2.map lsD) (by rw [List.length_map, hsi]; show i + 1 ≤ _; omega)))) ?_)) ?_ ⟨step_gd hgd (by show (st i).2.length < 12; omega) hk', hRe⟩)
      · show As.fz (isD X.K (.list ((st i).2.map lsD ++ [lsD _]))) = As.fz (isD X.K (.list (((st i).2 ++ [_]).map lsD)))
        rw [List.map_append]; rfl
      · refine Drop.wk ?_
        repeat (first | exact Drop.nil | apply Drop.keep | apply Drop.skip)
  · rw [List.length_map, List.length_range] at hI ⊢
    obtain ⟨_, hRi⟩ := hI
    rw [Nat.sub_self] at hRi
    exact ⟨rfl, hRi⟩
  · obtain ⟨rfl, hg⟩ := he
    refine dss_end (ds_ret (de_name (P := isD X.K (plL (st n).2)) B 3) ⟨?_, ?_, trivial⟩)
    · show _ = dD X.K (plL (sceneF W b most).2)
      rw [← hR, hg]
    · show _ = some ((oB X.K (sceneF W b most).1).at (some v))
      rw [← hR, hg]
  · obtain ⟨h1, h2⟩ := he
    refine ⟨?_, ?_⟩
    · show _ = dD X.K (plL (sceneF W b most).2)
      rw [← hR]; exact h1
    · have h3 := h2
      rw [hR] at h3
      exact h3
end
end K7

set_option maxHeartbeats 4000000
/-! K31: the table and the world let the same; the same scenes. -/
namespace K7
open PySem PySem.Spec PyProof.Rows L2 DL Hd
/-! ### masks -/
theorem mx_set {n r s : Nat} {M : Mx} {x : Tr} (h : sq n M) (hx : x.1 < n) (hy : x.2.1 < n) : mxGet (setB M x) r s = if r = x.1 ∧ s = x.2.1 then mxGet M x.1 x.2.1 ||| (1 <<< x.2.2) else mxGet M r s := by
  obtain ⟨h1, h2⟩ := sq_row h hx
  have hl : x.1 < M.length := by rw [h.1]; exact hx
  unfold mxGet setB
  simp only [List.getD_eq_getElem?_getD (l := M.set _ _), List.getElem?_set]
  by_cases e : x.1 = r
  · subst e
    rw [if_pos rfl, if_pos hl]
    show ((M.getD x.1 []).set x.2.1 _).getD s 0 = _
    rw [getD_set (by rw [h2]; exact hy)]
    by_cases e2 : s = x.2.1
    · rw [if_pos e2, if_pos ⟨rfl, e2⟩]; rfl
    · rw [if_neg e2, if_neg (fun q => e2 q.2)]
  · rw [if_neg e, if_neg (fun q => e q.1.symm), List.getD_eq_getElem?_getD (l := M)]
theorem bit_or (m t u : Nat) : (m ||| (1 <<< t)).testBit u = (m.testBit u || decide (u = t)) := by
  rw [Nat.testBit_or, Nat.one_shiftLeft, Nat.testBit_two_pow]
  congr 1
  exact decide_eq_decide.mpr ⟨fun e => e.symm, fun e => e.symm⟩
theorem bit_set {n : Nat} {M : Mx} {x : Tr} (h : sq n M) (hx : x.1 < n) (hy : x.2.1 < n) (r s t : Nat) : (mxGet (setB M x) r s).testBit t = ((mxGet M r s).testBit t || decide ((r, s, t) = x)) := by
  rw [mx_set h hx hy]
  obtain ⟨a, b, c⟩ := x
  by_cases e : r = a ∧ s = b
  · rw [if_pos e, bit_or, e.1, e.2]
    congr 1
    exact decide_eq_decide.mpr (by simp)
  · rw [if_neg e]
    have : decide ((r, s, t) = (a, b, c)) = false := decide_eq_false (by
      intro q
      simp only [Prod.mk.injEq] at q
      exact e ⟨q.1, q.2.1⟩)
    rw [this, Bool.or_false]
theorem bit_fold {n : Nat} (r s t : Nat) : ∀ (l : List Tr) (M : Mx), sq n M → (∀ y ∈ l, trIn n y) → (mxGet (l.foldl setB M) r s).testBit t = ((mxGet M r s).testBit t || decide ((r, s, t) ∈ l))
  | [], M, _, _ => by simp
  | x :: l, M, h, hl => by
    obtain ⟨h1, h2, h3⟩ := hl x List.mem_cons_self
    rw [List.foldl_cons, bit_fold r s t l _ (sq_set h h1) (fun y hy => hl y (List.mem_cons_of_mem _ hy)), bit_set h h1 h2, Bool.or_assoc]
    congr 1
    rw [← Bool.decide_or]
    exact decide_eq_decide.mpr (by simp)
theorem bit_folds {back : List Nat} (hb : BkOk back) (r s t : Nat) : ∀ (l : List Tr) (M : Mx), sq back.length M → (∀ y ∈ l, trIn back.length y) → (mxGet (l.foldl (fun M x => (lotL back x).foldl setB M) M) r s).testBit t = ((mxGet M r s).testBit t || decide (∃ x ∈ l, (r, s, t) ∈ six (bk back) x))
  | [], M, _, _ => by simp
  | x :: l, M, h, hl => by
    have hx := hl x List.mem_cons_self
    have hin : ∀ y ∈ lotL back x, trIn back.length y := fun y hy => six_in hb.mem hx ((mem_lotL back x y).mp hy)
    rw [List.foldl_cons, bit_folds hb r s t l _ (sq_fold _ _ h fun y hy => (hin y hy).1) (fun y hy => hl y (List.mem_cons_of_mem _ hy)), bit_fold r s t _ M h hin, Bool.or_assoc]
    congr 1
    rw [← Bool.decide_or]
    refine decide_eq_decide.mpr ?_
    rw [mem_lotL]
    simp
theorem zero_get (n r s : Nat) : mxGet (zeroM n) r s = 0 := by
  unfold mxGet zeroM
  simp only [List.getD_eq_getElem?_getD, List.getElem?_map]
  cases e : (List.range n)[r]? with
  | none => simp
  | some i =>
    simp only [Option.map_some, Option.getD_some, List.getElem?_replicate]
    split <;> rfl
theorem masks_bit {back : List Nat} (hb : BkOk back) {l : List Tr} (hl : ∀ y ∈ l, trIn back.length y) (r s t : Nat) : (mxGet (masksL back l) r s).testBit t = decide (∃ x ∈ l, (r, s, t) ∈ six (bk back) x) := by
  unfold masksL
  rw [bit_folds hb r s t l _ (sq_zero _) hl, zero_get, Nat.zero_testBit, Bool.false_or]
/-! ### the six are an orbit -/
theorem six_sym {b : Nat → Nat} {n : Nat} (hi : ∀ i, i < n → b (b i) = i) {x y : Tr} (hx : trIn n x) (h : y ∈ six b x) : x ∈ six b y := by
  obtain ⟨r, s, t⟩ := x
  obtain ⟨h1, h2, h3⟩ := hx
  have i1 := hi r h1
  have i2 := hi s h2
  have i3 := hi t h3
  simp only [six, List.mem_cons, List.not_mem_nil, or_false] at h
  rcases h with rfl | rfl | rfl | rfl | rfl | rfl <;> simp [six, i1, i2, i3]
theorem six_trans {b : Nat → Nat} {n : Nat} (hi : ∀ i, i < n → b (b i) = i) {x y z : Tr} (hx : trIn n x) (h : y ∈ six b x) (k : z ∈ six b y) : z ∈ six b x := by
  obtain ⟨r, s, t⟩ := x
  obtain ⟨h1, h2, h3⟩ := hx
  have i1 := hi r h1
  have i2 := hi s h2
  have i3 := hi t h3
  simp only [six, List.mem_cons, List.not_mem_nil, or_false] at h
  rcases h with rfl | rfl | rfl | rfl | rfl | rfl <;> (simp only [six, List.mem_cons, List.not_mem_nil, or_false, i1, i2, i3] at k ⊢; rcases k with rfl | rfl | rfl | rfl | rfl | rfl <;> simp)
/-- the table of a world -/
structure TwOk (W : Wo) (T : Tab) : Prop where
  w : WoOk W
  tw : T.ways = W.names
  tb : T.back = W.back
  t : TOk T
  ts : TabS T
  bit : ∀ r s t, (mxGet T.masks r s).testBit t = decide ((r, s, t) ∈ W.lets)
theorem twOk {W : Wo} {b : Bo} (hw : WoOk W) : TwOk W (tableF W b).1 := by
  refine ⟨hw, rfl, rfl, tableF_ok hw, fun z hz => ?_, fun r s t => ?_⟩
  · have := hw.nm z hz
    unfold isName at this
    rw [Bool.and_eq_true] at this
    exact strOk_word this.1
  · have hin := tableR_in (b := b) hw
    have e : (mxGet (tableF W b).1.masks r s).testBit t = decide (∃ x ∈ (tableR W b).2, (r, s, t) ∈ six (bk W.back) x) := masks_bit hw.bk hin r s t
    rw [e]
    refine decide_eq_decide.mpr ?_
    rw [hw.lets]
    obtain ⟨m1, _, m3⟩ := reps_mem (back := W.back) (mixed b W.lots).1 ((mixed b W.lots).2, [])
    have hp := mixed_perm b W.lots
    constructor
    · rintro ⟨x, hx, h⟩
      rcases m1 x hx with q | ⟨l, hl, q⟩
      · cases q
      · have hl' := hp.mem_iff.mp hl
        exact ⟨l, hl', six_trans hw.inv (hw.lots l hl') q h⟩
    · rintro ⟨l, hl, h⟩
      obtain ⟨x, hx, q⟩ := m3 l (hp.mem_iff.mpr hl)
      exact ⟨x, hx, six_trans hw.inv (hin x hx) (six_sym hw.inv (hw.lots l hl) q) h⟩
theorem hasL_iff (W : Wo) (a c b : Nat) : hasL W a (c : Nat) b = decide ((a, c, b) ∈ W.lets) := getL_fT W.lets (a, c, b)
theorem letAll_iff {W : Wo} {T : Tab} {pl : Pl} (h : TwOk W T) : letAll T.masks pl = true ↔ ∀ i j k, i < pl.length → j < i → k < j → hasL W (pg pl i j) (pg pl j k : Nat) (pg pl i k) = true := by
  unfold letAll
  rw [List.all_eq_true]
  simp only [List.mem_flatMap, List.mem_map, List.mem_range, id]
  constructor
  · intro q i j k hi hj hk
    have := q _ ⟨i, hi, j, hj, k, hk, rfl⟩
    unfold letB at this
    rw [h.bit] at this
    rw [hasL_iff]; exact this
  · rintro q x ⟨i, hi, j, hj, k, hk, rfl⟩
    have := q i j k hi hj hk
    rw [hasL_iff] at this
    unfold letB
    rw [h.bit]; exact this
theorem cut_get {C : Ce} {n i a c : Nat} (h : Sqc n C) (hi : i < n) (ha : a < i) (hc : c < a) : getC (cutC C i) a c = getC C a c := by
  unfold getC cutC
  have hal : a < C.length := by rw [h.len]; omega
  simp only [List.getD_eq_getElem?_getD, List.getElem?_map, List.getElem?_take]
  rw [if_pos ha, List.getElem?_eq_getElem hal]
  simp only [Option.map_some, Option.getD_some, List.getElem?_take]
  rw [if_pos (by omega)]
theorem sceneB_iff {W : Wo} {pl : Pl} (ht : Tri W.back.length pl) : sceneB W pl = true ↔ ∀ i j k, i < pl.length → j < i → k < j → hasL W (pg pl i j) (pg pl j k : Nat) (pg pl i k) = true := by
  have hsq := cellsL_sq (b := bk W.back) ht
  unfold sceneB goesB goesI
  simp only [List.all_eq_true, List.mem_range]
  have key : ∀ i j k, i < pl.length → j < i → k < j → getC (cutC (cellsL (bk W.back) pl) i) j k = ((pg pl j k : Nat) : Int) := fun i j k hi hj hk => by
    rw [cut_get hsq hi hj hk, cellsL_get ht hk (by omega)]; rfl
  constructor
  · intro q i j k hi hj hk
    have hl := (tri_row ht hi).1
    have := q i hi j (by omega) k hk
    rw [key i j k hi hj hk] at this
    exact this
  · intro q i hi j hj k hk
    have hl := (tri_row ht hi).1
    rw [key i j k hi (by omega) hk]
    exact q i j k hi (by omega) hk
theorem let_scene {W : Wo} {T : Tab} {pl : Pl} (h : TwOk W T) (ht : Tri W.back.length pl) : letAll T.masks pl = sceneB W pl := by
  have h1 := letAll_iff (pl := pl) h
  have h2 := sceneB_iff (W := W) ht
  cases e1 : letAll T.masks pl <;> cases e2 : sceneB W pl <;> first | rfl | (rw [e1] at h1; rw [e2] at h2; exact absurd (h1.mpr (h2.mp rfl)) (by simp)) | (rw [e1] at h1; rw [e2] at h2; exact absurd (h2.mpr (h1.mp rfl)) (by simp))
/-- a scene of the world is one of the table -/
theorem gd_so {W : Wo} {T : Tab} {pl : Pl} (h : TwOk W T) (g : GdW W pl) : SnOk T pl := by
  refine ⟨⟨h.t, ?_⟩, (letAll_iff h).mpr g.go⟩
  have := g.tri
  rw [← h.tb] at this
  exact this
end K7

set_option maxHeartbeats 4000000
/-! K32: _law_near. -/
namespace K7
open PySem PySem.Spec PyProof.Rows L2 DL Hd
theorem toks_all (a : Pl) : PySem.W.keyToksAll (a.map rwD) = PySem.W.keyToksAll (a.map lsD) := by
  induction a with
  | nil => rfl
  | cons r a ih =>
    rw [List.map_cons, List.map_cons, PySem.W.keyToksAll, PySem.W.keyToksAll, ih]
    congr 2
theorem toks_pl (a : Pl) : PySem.W.keyToks (plD a) = PySem.W.keyToks (plL a) := by
  unfold plD plL
  rw [PySem.W.keyToks, PySem.W.keyToks]
  exact toks_all a
theorem srt_pl (l : List Pl) : srt plL l = srt plD l := by
  unfold srt
  have e : leD plL = leD plD := by
    funext a b
    unfold leD PySem.W.dataLe PySem.W.sortLe
    simp only [id, toks_pl]
  rw [e]
theorem en_eq {α : Type} (d : α) (xs : List α) : en xs = (List.range xs.length).map fun i => (i, xs.getD i d) := by
  apply List.ext_getElem?
  intro i
  unfold en
  rw [List.getElem?_mapIdx, List.getElem?_map]
  by_cases h : i < xs.length
  · have e : xs.getD i d = xs[i] := by rw [List.getD_eq_getElem?_getD, List.getElem?_eq_getElem h]; rfl
    rw [List.getElem?_range h, List.getElem?_eq_getElem h]
    show some (i, xs[i]) = some (i, xs.getD i d)
    rw [e]
  · rw [List.getElem?_eq_none (by omega), List.getElem?_eq_none (by rw [List.length_range]; omega)]; rfl
def nearR (n : Nat) (pl : Pl) (i j : Nat) : List Pl := ((List.range n).filter fun p => !decide (p = pg pl i j)).map fun p => chg pl i j p
def nearI (n : Nat) (pl : Pl) (i : Nat) : List Pl := (List.range i).flatMap (nearR n pl i)
theorem flat_congr {α β : Type} {f g : α → List β} : ∀ {l : List α}, (∀ a ∈ l, f a = g a) → l.flatMap f = l.flatMap g
  | [], _ => rfl
  | a :: l, h => by
    rw [List.flatMap_cons, List.flatMap_cons, h a List.mem_cons_self, flat_congr fun b hb => h b (List.mem_cons_of_mem _ hb)]
theorem nearL_eq {n : Nat} {pl : Pl} (ht : Tri n pl) : nearL n pl = (List.range pl.length).flatMap (nearI n pl) := by
  unfold nearL
  rw [en_eq [] pl, List.flatMap_map]
  refine flat_congr fun i hi => ?_
  have hi' := List.mem_range.mp hi
  show (en (pl.getD i [])).flatMap _ = _
  rw [en_eq 0, List.flatMap_map, (tri_row ht hi').1]
  rfl
def nearG (W : Wo) (pl : Pl) : List Pl := srt plL ((nearL W.back.length pl).filter (sceneB W))
theorem nearG_eq {W : Wo} {T : Tab} {pl : Pl} (h : TwOk W T) (ht : Tri W.back.length pl) : nearG W pl = nearS T pl := by
  unfold nearG nearS
  rw [srt_pl, h.tb]
  congr 1
  exact (List.filter_congr fun c hc => let_scene h (nearL_tri ht hc).1).symm
theorem alike_ls (a b : List Nat) : PySem.W.alike (lsD a) (lsD b) = true := by
  unfold lsD
  rw [PySem.W.alike]
  induction a generalizing b with
  | nil => cases b <;> rfl
  | cons x a ih =>
    cases b with
    | nil => rfl
    | cons y b => rw [List.map_cons, List.map_cons, PySem.W.alikeAll, alike_nn, ih]; rfl
theorem alike_plL (a b : Pl) : PySem.W.alike (plL a) (plL b) = true := by
  unfold plL
  rw [PySem.W.alike]
  induction a generalizing b with
  | nil => cases b <;> rfl
  | cons x a ih =>
    cases b with
    | nil => rfl
    | cons y b => rw [List.map_cons, List.map_cons, PySem.W.alikeAll, alike_ls, ih]; rfl
theorem shp_plL (pl : Pl) : Shp 2 (plL pl) := shp_l fun a _ => shp_ls a
section
variable {M : Md} (nb : NoB M.mg)
theorem sc__law_near : FnScope ["world", "rows", "found", "i", "j", "place", "k", "other"] ["world", "rows"] (defScope (topS 66)) := ⟨rfl, rfl, rfl, by decide +kernel, rfl, by decide +kernel, by decide +kernel⟩
structure LnOk (W : Wo) (pl : Pl) : Prop where
  tri : Tri W.back.length pl
  h5 : W.back.length ≤ 5
abbrev lnrArgs (M : Md) : { i : Wo × Pl // LnOk i.1 i.2 } → List DL.Arg := fun i => [.z (isWo M.P M.w M.K i.1.1), .z (isD M.K (plL i.1.2))]
include nb in
theorem ok__law_near (F : FnD M "_law_near" (topS 66) ["world", "rows"]) (f1 : FK M "_law_changed" 1 ["rows", "i", "j", "place"] (lchArgs M) (fun i => oP M.K (chg i.1.1 i.1.2.1 i.1.2.2.1 i.1.2.2.2))) (f2 : FK M "_law_is_scene" 2 ["world", "rows"] (lceArgs M) (fun i => dD M.K (.bool (sceneB i.1.1 i.1.2)))) :
    FK M "_law_near" 3 ["world", "rows"] (lnrArgs M) (fun i => oLn M.K ((nearG i.1.1 i.1.2).map plL)) := by
  refine fk (N := ["world", "rows", "found", "i", "j", "place", "k", "other"]) F sc__law_near (fun _ => rfl) ?_
  rintro X rfl B hr ⟨⟨W, pl⟩, ht, h5⟩ G vs hv
  obtain ⟨v, w, rfl⟩ := len2 hv
  simp only at ht h5
  have hsz := sizeLine_eq
  have hu := B.un
  have h12 := ht.sz
  obtain ⟨m, hm⟩ : ∃ m, m = W.back.length := ⟨_, rfl⟩
  have hlen : (pl.map lsD).length = pl.length := List.length_map _
  have hle := nearL_le (by rw [hm]; exact ht) (by omega : m ≤ 5)
  have hle' : (nearL m pl).length ≤ 720 := hle
  rw [hm, nearL_eq ht, ← hm] at hle'
  let c : Pl → Bool := sceneB W
  let E (l : List Pl) (i j p o : Option As) : Ev := [some (.fz (isWo X.prog X.w X.K W)), some (dD X.K (plL pl)), some (oLn X.K (l.map plL)), i, j, p, none, o]
  let F1 : Nat → List Pl := fun t => (((List.range pl.length).take t).flatMap (nearI m pl)).filter c
  have hF1 : ∀ t, (F1 t).length ≤ 720 := fun t => Nat.le_trans (List.length_filter_le _ _) (Nat.le_trans (flat_take_le _ _ _) hle')
  refine dss_go (env1 := E [] none none none none) (ds_set B 2 (de_lstD dad_nil)) ?_
  refine dss_go (env1 := E ((nearL m pl).filter c) none none none none) (ds_forN B (di_rn B (de_eq (de_nc B (nc_b (cd_lenL (ds := pl.map lsD)) nb.len) (da_cons (de_name B 1) da_nil) (.inl rfl)) (by rw [hlen])) nb.range (by omega)) (fun t => E (F1 t) none none none none) (Wk.refl _) (fun t P hP => ?_) (by
    show NX _ (.nx (E (F1 _) none none none none))
    have : F1 ((List.range pl.length).map fun i => isD X.K (.int (i : Nat))).length = (nearL m pl).filter c := by
      show (((List.range pl.length).take _).flatMap _).filter c = _
      rw [List.length_map, List.take_length, hm, nearL_eq ht]
    rw [this]; rfl)) ?_
  · rw [List.getElem?_map, Option.map_eq_some_iff] at hP
    obtain ⟨i, hq, rfl⟩ := hP
    have hi : i < pl.length := List.mem_range.mp (List.mem_of_getElem? hq)
    have hri := (tri_row ht hi).1
    have hS : F1 (t + 1) = F1 t ++ (nearI m pl i).filter c := by
      show (((List.range pl.length).take (t + 1)).flatMap _).filter c = _
      rw [take_succ_f hq, List.flatMap_append, List.filter_append]; simp [F1]
    let iE : Option As := some (dD X.K (nD i))
    refine ⟨_, E (F1 t) iE none none none, dg_name B 3, dss_end ?_⟩
    let F2 : Nat → List Pl := fun s => F1 t ++ (((List.range i).take s).flatMap (nearR m pl i)).filter c
    have hF2 : ∀ s, (F2 s).length ≤ 720 := fun s => by
      have h1 := hF1 (t + 1)
      rw [hS, List.length_append] at h1
      have h2 : ((((List.range i).take s).flatMap (nearR m pl i)).filter c).length ≤ ((nearI m pl i).filter c).length := by
        have e : nearI m pl i = ((List.range i).take s).flatMap (nearR m pl i) ++ ((List.range i).drop s).flatMap (nearR m pl i) := by
          rw [← List.flatMap_append, List.take_append_drop]; rfl
        rw [e, List.filter_append, List.length_append]
        omega
      show (F1 t ++ _).length ≤ _
      rw [List.length_append]; omega
    refine ds_forN (Pt := LpW (E (F1 (t + 1)) none none none none) _) B (di_rn B (de_name B 3) nb.range (by omega)) (fun s => E (F2 s) iE none none none) (by
      have : F2 0 = F1 t := by simp [F2]
      rw [this]; exact Wk.refl _) (fun s P hP => ?_) ?_
    · rw [List.getElem?_map, Option.map_eq_some_iff] at hP
      obtain ⟨j, hq2, rfl⟩ := hP
      have hj : j < i := List.mem_range.mp (List.mem_of_getElem? hq2)
      have hS2 : F2 (s + 1) = F2 s ++ (nearR m pl i j).filter c := by
        show F1 t ++ (((List.range i).take (s + 1)).flatMap _).filter c = _
        rw [take_succ_f hq2, List.flatMap_append, List.filter_append, ← List.append_assoc]; simp [F2]
      let jE : Option As := some (dD X.K (nD j))
      refine ⟨_, E (F2 s) iE jE none none, dg_name B 4, dss_end ?_⟩
      let ks := (List.range m).filter fun p => !decide (p = pg pl i j)
      have hks : ∀ p ∈ ks, p < m := fun p hp => List.mem_range.mp (List.mem_filter.mp hp).1
      let F3 : Nat → List Pl := fun q => F2 s ++ ((ks.take q).map fun p => chg pl i j p).filter c
      have hF3 : ∀ q, (F3 q).length ≤ 720 := fun q => by
        have h1 := hF2 (s + 1)
        rw [hS2, List.length_append] at h1
        have h2 : (((ks.take q).map fun p => chg pl i j p).filter c).length ≤ ((nearR m pl i j).filter c).length := by
          have e : nearR m pl i j = (ks.take q).map (fun p => chg pl i j p) ++ (ks.drop q).map (fun p => chg pl i j p) := by
            rw [← List.map_append, List.take_append_drop]; rfl
          rw [e, List.filter_append, List.length_append]
          omega
        show (F2 s ++ _).length ≤ _
        rw [List.length_append]; omega
      have g1 : atI (pl.map lsD) ((i : Nat) : Int) = some (lsD (pl.getD i [])) := atI_nat (by rw [List.getElem?_map, List.getD_eq_getElem?_getD, List.getElem?_eq_getElem hi]; rfl)
      have g2 : atI ((pl.getD i []).map nD) ((j : Nat) : Int) = some (nD (pg pl i j)) := atI_nat (by
        unfold pg
        rw [List.getElem?_map, List.getD_eq_getElem?_getD (l := pl.getD i []), List.getElem?_eq_getElem (by omega)]; rfl)
      refine ds_forN (Pt := LpW (E (F2 (s + 1)) iE none none none) _) B (di_ldm ks nD (de_lcr (lc1 6 (List.range m) (fun p => isD X.K (nD p)) (fun p => !decide (p = pg pl i j)) nD B ⟨by decide +kernel, by decide +kernel, by decide +kernel, by decide +kernel, by decide +kernel⟩ (di_rn B (de_eq (de_getW (L := woL X.prog X.w X.K W) (de_name B 0) rfl (by omega)) (by rw [hm]; rfl)) nb.range (by omega)) (by rw [List.length_range]; omega) rfl fun s0 H0 C cl fp B' p hp => ?_)) rfl) (fun q => E (F3 q) iE jE none none) (by
        have : F3 0 = F2 s := by simp [F3]
        rw [this]; exact Wk.refl _) (fun q P hP => ?_) ?_
      · refine ⟨dts_one (dt_eq (dt_cmp (de_name (P := isD X.K (nD p)) B' 6) (de_ix (de_ix (de_name (P := isD X.K (plL pl)) B' 1) (de_name (P := isD X.K (nD i)) B' 3) (ixd_l g1)) (de_name (P := isD X.K (nD j)) B' 4) (ixd_l g2)) (opd_neI _ _ hr.units)) ?_), fun _ => ⟨_, rfl, de_name B' 6⟩⟩
        congr 1
        exact decide_eq_decide.mpr (by omega)
      · rw [List.getElem?_map, Option.map_eq_some_iff] at hP
        obtain ⟨p, hq3, rfl⟩ := hP
        have hpm := hks p (List.mem_of_getElem? hq3)
        have htc : Tri W.back.length (chg pl i j p) := tri_chg ht hi (by omega)
        have hS3 : F3 (q + 1) = if c (chg pl i j p) = true then F3 q ++ [chg pl i j p] else F3 q := by
          show F2 s ++ ((ks.take (q + 1)).map _).filter c = _
          rw [take_succ_f hq3, List.map_append, List.filter_append, ← List.append_assoc]
          cases hk : c (chg pl i j p) with
          | false =>
            have e : ([p].map fun p => chg pl i j p).filter c = [] := by simp [List.filter, hk]
            rw [e]
            exact List.append_nil _
          | true =>
            have e : ([p].map fun p => chg pl i j p).filter c = [chg pl i j p] := by simp [List.filter, hk]
            rw [e]
            rfl
        have hl3 := hF3 q
        let pE : Option As := some (dD X.K (nD p))
        let oE : Option As := some (dD X.K (plL (chg pl i j p)))
        have eo : dD X.K (lstD (rowsL (chg pl i j p))) = dD X.K (plL (chg pl i j p)) := by
          unfold lstD rowsL plL
          rw [List.map_map]; rfl
        refine ⟨_, E (F3 q) iE jE pE none, dg_name B 5, dss_go (env1 := E (F3 q) iE jE pE oE) (ds_set B 7 (de_eq (de_oM (rows := rowsL (chg pl i j p)) (de_nc B (nk f1 hr ⟨(pl, i, j, p), hi, by rw [hri]; exact hj, h12, by rw [hri]; omega⟩) (da_cons (de_name B 1) (da_cons (de_name B 3) (da_cons (de_name B 4) (da_cons (de_name B 5) da_nil)))) (.inl rfl)) rfl) eo)) ?_⟩
        refine dss_end (ds_if (env1 := E (F3 q) iE jE pE oE) (k := c (chg pl i j p)) (dt_val (de_nc B (nk f2 hr ⟨(W, chg pl i j p), htc⟩) (da_cons (de_name B 0) (da_cons (de_name (P := isD X.K (plL (chg pl i j p))) B 7) da_nil)) (.inl rfl))) (fun hk => ?_) (fun hk => ?_))
        · refine dss_end (ds_last (ds_expr (de_append (q := none) (ds := (F3 q).map plL) (d := plL (chg pl i j p)) B 2 (de_name (P := isD X.K (plL (chg pl i j p))) B 7) rfl (hz := by rw [List.length_map]; omega))) ?_)
          have e : (F3 q).map plL ++ [plL (chg pl i j p)] = (F3 (q + 1)).map plL := by
            rw [hS3, if_pos hk]
            exact (List.map_append (f := plL) (l₁ := F3 q) (l₂ := [chg pl i j p])).symm
          show Wk [some (.fz (isWo X.prog X.w X.K W)), some (dD X.K (plL pl)), some (oLn X.K ((F3 q).map plL ++ [plL (chg pl i j p)])), iE, jE, pE, none, oE] (E (F3 (q + 1)) iE jE none none)
          rw [e]
          refine Drop.wk ?_
          repeat (first | exact Drop.nil | apply Drop.keep | apply Drop.skip)
        · refine dss_nil ?_
          have e : F3 (q + 1) = F3 q := by rw [hS3, if_neg (by rw [hk]; simp)]
          show Wk (E (F3 q) iE jE pE oE) (E (F3 (q + 1)) iE jE none none)
          rw [e]
          refine Drop.wk ?_
          repeat (first | exact Drop.nil | apply Drop.keep | apply Drop.skip)
      · have : F3 (ks.map fun p => isD X.K (nD p)).length = F2 (s + 1) := by
          show F2 s ++ ((ks.take _).map _).filter c = _
          rw [List.length_map, List.take_length, hS2]; rfl
        show Wk (E (F3 _) iE jE none none) _
        rw [this]
        refine Drop.wk ?_
        repeat (first | exact Drop.nil | apply Drop.keep | apply Drop.skip)
    · have : F2 ((List.range i).map fun i => isD X.K (.int (i : Nat))).length = F1 (t + 1) := by
        show F1 t ++ (((List.range i).take _).flatMap _).filter c = _
        rw [List.length_map, List.take_length, hS]; rfl
      show Wk (E (F2 _) iE none none none) _
      rw [this]
      refine Drop.wk ?_
      repeat (first | exact Drop.nil | apply Drop.keep | apply Drop.skip)
  · have cs : CallD X (.builtin "sorted") [dD X.K (.list (((nearL m pl).filter c).map plL))] [dD X.K (.list (((nearL m pl).filter c).map plL))] (oLn X.K (sortD (((nearL m pl).filter c).map plL))) := cd_sorted hu (fun d hd d' hd' => by
      obtain ⟨x, _, rfl⟩ := List.mem_map.mp hd
      obtain ⟨y, _, rfl⟩ := List.mem_map.mp hd'
      exact alike_plL x y) (.inr fun d hd => by
      obtain ⟨x, _, rfl⟩ := List.mem_map.mp hd
      exact ⟨fun z => (nomatch z), fun xs z => (nomatch z)⟩) (fun d hd => by
      obtain ⟨x, _, rfl⟩ := List.mem_map.mp hd
      exact Nat.le_trans (shp_plL x).dep (by omega))
    refine dss_end (ds_ret (A := oLn X.K ((nearG W pl).map plL)) (de_eq (de_nc B (nc_b cs nb.sorted) (da_cons (A := oLn X.K (((nearL m pl).filter c).map plL)) (de_move B 2) da_nil) (.inl rfl)) ?_) ⟨rfl, trivial⟩)
    rw [sortD_map, hm]; rfl
end
end K7

set_option maxHeartbeats 4000000
/-! K33: the law's search and the program's, in step. -/
namespace K7
open PySem PySem.Spec PyProof.Rows L2 DL Hd
abbrev Fn := List (Pl × Nat)
abbrev keysN (fn : Fn) : List Pl := fn.map (·.1)
def getN (fn : Fn) (c : Pl) : Option Nat := (fn.find? fun p => decide (p.1 = c)).map (·.2)
def fdN (fn : Fn) : Tb := fn.map fun p => (.tup (plK p.1), nD p.2)
theorem getL_fdN (fn : Fn) (c : Pl) : getL (fdN fn) (.tup (plK c)) = (getN fn c).map nD := by
  induction fn with
  | nil => rfl
  | cons p fd ih =>
    unfold getL getN fdN at ih ⊢
    rw [List.map_cons, List.find?_cons, List.find?_cons]
    by_cases h : p.1 = c
    · subst h; simp
    · have h' : ¬ NestedKey.tup (plK p.1) = .tup (plK c) := fun e => h (plK_inj (by simpa using e))
      simp only [h, h', decide_false]
      exact ih
theorem getN_some (fn : Fn) (c : Pl) : (getN fn c).isSome = decide (c ∈ keysN fn) := by
  induction fn with
  | nil => rfl
  | cons p fd ih =>
    unfold getN at ih ⊢
    rw [List.find?_cons]
    by_cases h : p.1 = c
    · subst h; simp
    · simp only [h, decide_false]
      rw [ih]
      exact decide_eq_decide.mpr (by simp [Ne.symm h, fun e => h (Eq.symm e)])
theorem getLN_some (fn : Fn) (c : Pl) : (getL (fdN fn) (.tup (plK c))).isSome = decide (c ∈ keysN fn) := by
  rw [getL_fdN, Option.isSome_map, getN_some]
theorem putL_newN (fn : Fn) (c : Pl) (t : Nat) (hn : c ∉ keysN fn) : putL (fdN fn) (.tup (plK c)) (nD t) = fdN (fn ++ [(c, t)]) := by
  unfold putL
  rw [getLN_some, if_neg (by simpa using hn), fdN, fdN, List.map_append]; rfl
theorem getN_app (fn : Fn) (c d : Pl) (t : Nat) (hn : c ∉ keysN fn) : getN (fn ++ [(c, t)]) d = if d = c then some t else getN fn d := by
  unfold getN
  rw [List.find?_append]
  by_cases h : d = c
  · subst h
    rw [if_pos rfl]
    have : fn.find? (fun p => decide (p.1 = d)) = none := List.find?_eq_none.mpr fun p hp => by
      simp only [decide_eq_true_eq]
      exact fun e => hn (List.mem_map.mpr ⟨p, hp, e⟩)
    rw [this]; simp
  · rw [if_neg h]
    have : [(c, t)].find? (fun p : Pl × Nat => decide (p.1 = d)) = none := by
      simp only [List.find?_cons, List.find?_nil]
      rw [decide_eq_false (fun e : c = d => h e.symm)]
    rw [this]
    cases fn.find? (fun p => decide (p.1 = d)) <;> rfl
theorem getN_mem {fn : Fn} {c : Pl} {t : Nat} (h : getN fn c = some t) : c ∈ keysN fn := by
  have := getN_some fn c
  rw [h] at this
  exact of_decide_eq_true this.symm
def visitN (t : Nat) (s : Fn × List Pl) (c : Pl) : Fn × List Pl := if c ∈ keysN s.1 then s else (s.1 ++ [(c, t)], s.2 ++ [c])
def turnN (W : Wo) (t : Nat) (s : Fn × List Pl) (one : Pl) : Fn × List Pl := (nearG W one).foldl (visitN t) s
def levelN (W : Wo) (t : Nat) (fn : Fn) (lv : List Pl) : Fn × List Pl := lv.foldl (turnN W t) (fn, [])
def bfsN (W : Wo) : Nat → Fn × List Pl × Nat → Fn
  | 0, s => s.1
  | n + 1, s => if s.2.1 = [] then s.1 else bfsN W n ((levelN W (s.2.2 + 1) s.1 s.2.1).1, (levelN W (s.2.2 + 1) s.1 s.2.1).2, s.2.2 + 1)
/-- in step: st the start, t the number of the level that is gathered -/
structure Lk (T : Tab) (st : Pl) (t : Nat) (sn : Fn × List Pl) (s : Fd × List Pl) : Prop where
  keys : keysN sn.1 = keysF s.1
  lv : sn.2 = s.2
  d : ∀ c o, getF s.1 c = some o → (o = none ∧ c = st ∧ getN sn.1 c = some 0) ∨ ∃ h d, o = some h ∧ c ∈ nearS T h ∧ getN sn.1 h = some d ∧ getN sn.1 c = some (d + 1)
  nw : ∀ c ∈ s.2, getN sn.1 c = some t
theorem lk_visit {T : Tab} {st here c : Pl} {t d : Nat} {sn : Fn × List Pl} {s : Fd × List Pl} (h : Lk T st t sn s) (hh : getN sn.1 here = some d) (ht : t = d + 1) (hc : c ∈ nearS T here) :
    Lk T st t (visitN t sn c) (visit here s c) ∧ ∀ x e, getN sn.1 x = some e → getN (visitN t sn c).1 x = some e := by
  unfold visitN visit
  by_cases hm : c ∈ keysN sn.1
  · have hm2 : c ∈ s.1.map (·.1) := by
      have := h.keys
      have q : c ∈ keysF s.1 := by rw [← this]; exact hm
      exact q
    rw [if_pos hm, if_pos hm2]
    exact ⟨h, fun x e q => q⟩
  · have hm2 : c ∉ s.1.map (·.1) := fun q => hm (by rw [h.keys]; exact q)
    rw [if_neg hm, if_neg hm2]
    have keep : ∀ x e, getN sn.1 x = some e → getN (sn.1 ++ [(c, t)]) x = some e := fun x e q => by
      rw [getN_app _ _ _ _ hm, if_neg (fun z : x = c => hm (by rw [← z]; exact getN_mem q))]; exact q
    have gc : getN (sn.1 ++ [(c, t)]) c = some t := by rw [getN_app _ _ _ _ hm, if_pos rfl]
    refine ⟨⟨?_, ?_, fun x o q => ?_, fun x hx => ?_⟩, keep⟩
    · show (sn.1 ++ [(c, t)]).map _ = (s.1 ++ [(c, some here)]).map _
      rw [List.map_append, List.map_append]
      have := h.keys
      rw [show sn.1.map (·.1) = s.1.map (·.1) from this]; rfl
    · show sn.2 ++ [c] = s.2 ++ [c]
      rw [h.lv]
    · have q' : getF (s.1 ++ [(c, some here)]) x = some o := q
      rw [getF_app _ _ _ _ hm2] at q'
      by_cases e : x = c
      · rw [if_pos e] at q'
        cases q'
        subst e
        exact .inr ⟨here, d, rfl, hc, keep _ _ hh, by rw [gc, ht]⟩
      · rw [if_neg e] at q'
        rcases h.d x o q' with ⟨a1, a2, a3⟩ | ⟨g, d', a1, a2, a3, a4⟩
        · exact .inl ⟨a1, a2, keep _ _ a3⟩
        · exact .inr ⟨g, d', a1, a2, keep _ _ a3, keep _ _ a4⟩
    · have hx' : x ∈ s.2 ++ [c] := hx
      rcases List.mem_append.mp hx' with q | q
      · exact keep _ _ (h.nw x q)
      · rw [List.mem_singleton.mp q]; exact gc
theorem lk_visits {T : Tab} {st here : Pl} {t d : Nat} (ht : t = d + 1) : ∀ (l : List Pl) (sn : Fn × List Pl) (s : Fd × List Pl), Lk T st t sn s → getN sn.1 here = some d → (∀ c ∈ l, c ∈ nearS T here) →
    Lk T st t (l.foldl (visitN t) sn) (l.foldl (visit here) s) ∧ ∀ x e, getN sn.1 x = some e → getN (l.foldl (visitN t) sn).1 x = some e
  | [], _, _, h, _, _ => ⟨h, fun x e q => q⟩
  | c :: l, sn, s, h, hh, hl => by
    obtain ⟨h1, h2⟩ := lk_visit h hh ht (hl c List.mem_cons_self)
    obtain ⟨h3, h4⟩ := lk_visits ht l _ _ h1 (h2 _ _ hh) fun c hc => hl c (List.mem_cons_of_mem _ hc)
    exact ⟨h3, fun x e q => h4 x e (h2 x e q)⟩
theorem lk_turns {W : Wo} {T : Tab} {st : Pl} {t d : Nat} (ht : t = d + 1) : ∀ (l : List Pl) (sn : Fn × List Pl) (s : Fd × List Pl), Lk T st t sn s → (∀ c ∈ l, getN sn.1 c = some d) → (∀ c ∈ l, nearG W c = nearS T c) →
    Lk T st t (l.foldl (turnN W t) sn) (l.foldl (turnF T) s) ∧ ∀ x e, getN sn.1 x = some e → getN (l.foldl (turnN W t) sn).1 x = some e
  | [], _, _, h, _, _ => ⟨h, fun x e q => q⟩
  | c :: l, sn, s, h, hd, hg => by
    have e1 : turnN W t sn c = (nearS T c).foldl (visitN t) sn := by unfold turnN; rw [hg c List.mem_cons_self]
    obtain ⟨h1, h2⟩ := lk_visits (here := c) ht (nearS T c) sn s h (hd c List.mem_cons_self) fun c hc => hc
    rw [← e1] at h1 h2
    obtain ⟨h3, h4⟩ := lk_turns ht l (turnN W t sn c) (turnF T s c) h1 (fun x hx => h2 _ _ (hd x (List.mem_cons_of_mem _ hx))) fun x hx => hg x (List.mem_cons_of_mem _ hx)
    exact ⟨h3, fun x e q => h4 x e (h2 x e q)⟩
theorem lk_level {W : Wo} {T : Tab} {st : Pl} {t : Nat} {sn : Fn × List Pl} {s : Fd × List Pl} (h : Lk T st t sn s) (hg : ∀ c ∈ s.2, nearG W c = nearS T c) : Lk T st (t + 1) (levelN W (t + 1) sn.1 sn.2) (levelF T s.1 s.2) := by
  have h0 : Lk T st (t + 1) (sn.1, []) (s.1, []) := ⟨h.keys, rfl, h.d, fun c hc => by cases hc⟩
  unfold levelN levelF
  rw [h.lv]
  exact (lk_turns rfl s.2 _ _ h0 h.nw hg).1
theorem lk_init (T : Tab) (pl : Pl) : Lk T pl 0 ([(pl, 0)], [pl]) ([(pl, none)], [pl]) := by
  refine ⟨rfl, rfl, fun c o h => ?_, fun c hc => ?_⟩
  · unfold getF at h
    by_cases e : pl = c
    · subst e
      simp at h
      subst h
      exact .inl ⟨rfl, rfl, by simp [getN]⟩
    · simp [e] at h
  · rw [List.mem_singleton.mp hc]
    simp [getN]
/-- both searches, to the end -/
theorem lk_bfs {W : Wo} {T : Tab} {st : Pl} {k : Nat} (hg : ∀ c, SOk T c → c.length = k → nearG W c = nearS T c) : ∀ (n t : Nat) (sn : Fn × List Pl) (s : Fd × List Pl), BfOk T k s → Lk T st t sn s →
    ∃ t' lv lv', Lk T st t' (bfsN W n (sn.1, sn.2, t), lv) (bfs T n s, lv')
  | 0, t, sn, s, _, h => ⟨t, sn.2, s.2, h⟩
  | n + 1, t, sn, s, hb, h => by
    unfold bfsN bfs
    show ∃ t' lv lv', Lk T st t' ((if sn.2 = [] then sn.1 else _), lv) ((if s.2 = [] then s.1 else _), lv')
    by_cases e : s.2 = []
    · rw [if_pos e, if_pos (by rw [h.lv]; exact e)]
      exact ⟨t, sn.2, s.2, h⟩
    · rw [if_neg e, if_neg (by rw [h.lv]; exact e)]
      exact lk_bfs hg n (t + 1) (levelN W (t + 1) sn.1 sn.2) (levelF T s.1 s.2) (level_ok hb) (lk_level h fun c hc => let z := hb.fd.mem c (hb.fr c hc); hg c z.1 z.2)
def farF (W : Wo) (T : Tab) (pl : Pl) : Fn := bfsN W (msr T pl.length ([(pl, none)], [pl])) ([(pl, 0)], [pl], 0)
theorem far_led {W : Wo} {T : Tab} {pl : Pl} (hs : SOk T pl) (hg : ∀ c, SOk T c → c.length = pl.length → nearG W c = nearS T c) : ∃ t lv lv', Lk T pl t (farF W T pl, lv) (ledF T pl, lv') :=
  lk_bfs hg _ 0 ([(pl, 0)], [pl]) ([(pl, none)], [pl]) (bf_init hs) (lk_init T pl)
/-! ### the steps -/
theorem pathN_long {T : Tab} {st : Pl} {t : Nat} {fn : Fn} {fd : Fd} {lv lv' : List Pl} (h : Lk T st t (fn, lv) (fd, lv')) (hr : RankOk fd) : ∀ (d n : Nat) (c : Pl), getN fn c = some d → rankO fd (some c) ≤ n →
    (pathN fd n (some c)).length = d + 1 ∧ (pathN fd n (some c))[0]? = some c ∧ (pathN fd n (some c))[d]? = some st ∧ ∀ i, i < d → ∃ a b, (pathN fd n (some c))[i]? = some a ∧ (pathN fd n (some c))[i + 1]? = some b ∧ a ∈ nearS T b
  | d, n, c, hc, hn => by
    obtain ⟨n, rfl⟩ : ∃ m, n = m + 1 := ⟨n - 1, by simp only [rankO] at hn; omega⟩
    have hm : c ∈ keysF fd := by have := getN_mem hc; rw [h.keys] at this; exact this
    obtain ⟨o, ho⟩ : ∃ o, getF fd c = some o := by
      have := getF_some fd c
      rw [decide_eq_true hm] at this
      exact Option.isSome_iff_exists.mp this
    have e : pathN fd (n + 1) (some c) = c :: pathN fd n o := by
      show c :: pathN fd n ((getF fd c).getD none) = _
      rw [ho]; rfl
    rw [e]
    rcases h.d c o ho with ⟨rfl, rfl, h0⟩ | ⟨g, d', rfl, hnear, hg, hcd⟩
    · rw [hc] at h0
      cases h0
      have e2 : pathN fd n none = [] := by cases n <;> rfl
      rw [e2]
      exact ⟨rfl, rfl, rfl, fun i hi => absurd hi (by omega)⟩
    · rw [hc] at hcd
      have hd : d = d' + 1 := by cases hcd; rfl
      subst hd
      have hlt := (hr c g ho).2
      obtain ⟨p1, p2, p3, p4⟩ := pathN_long h hr d' n g hg (by simp only [rankO] at hn ⊢; omega)
      refine ⟨by rw [List.length_cons, p1], rfl, ?_, fun i hi => ?_⟩
      · rw [List.getElem?_cons_succ]; exact p3
      · cases i with
        | zero => exact ⟨c, g, rfl, by rw [List.getElem?_cons_succ]; exact p2, hnear⟩
        | succ i =>
          obtain ⟨a, b, q1, q2, q3⟩ := p4 i (by omega)
          exact ⟨a, b, by rw [List.getElem?_cons_succ]; exact q1, by rw [List.getElem?_cons_succ]; exact q2, q3⟩
  termination_by d => d
/-- what steps tells -/
structure StepsOk (T : Tab) (pl goal : Pl) (d : Nat) (L : List Pl) : Prop where
  len : L.length = d + 1
  first : L[0]? = some pl
  last : L[d]? = some goal
  near : ∀ i, i < d → ∃ a b, L[i]? = some a ∧ L[i + 1]? = some b ∧ b ∈ nearS T a
theorem steps_far {W : Wo} {T : Tab} {pl goal : Pl} (hs : SOk T pl) (hg : ∀ c, SOk T c → c.length = pl.length → nearG W c = nearS T c) :
    match getN (farF W T pl) goal with
    | none => stepsF T pl goal = none
    | some d => ∃ L, stepsF T pl goal = some L ∧ StepsOk T pl goal d L := by
  obtain ⟨t, lv, lv', h⟩ := far_led hs hg
  obtain ⟨hfd, hr⟩ := ledF_ok hs
  have hk : ∀ c, c ∈ keysN (farF W T pl) ↔ c ∈ keysF (ledF T pl) := fun c => by rw [h.keys]
  cases e : getN (farF W T pl) goal with
  | none =>
    have hn : goal ∉ keysF (ledF T pl) := fun q => by
      have := getN_some (farF W T pl) goal
      rw [e, decide_eq_true ((hk goal).mpr q)] at this
      cases this
    show stepsF T pl goal = none
    unfold stepsF
    rw [if_neg hn]
  | some d =>
    have hm : goal ∈ keysF (ledF T pl) := (hk goal).mp (getN_mem e)
    refine ⟨(pathF (ledF T pl) goal).reverse, by unfold stepsF; rw [if_pos hm], ?_⟩
    obtain ⟨p1, p2, p3, p4⟩ := pathN_long h hr d (rankO (ledF T pl) (some goal)) goal e (Nat.le_refl _)
    have hl : (pathF (ledF T pl) goal).length = d + 1 := p1
    have rv : ∀ i, i ≤ d → (pathF (ledF T pl) goal).reverse[i]? = (pathF (ledF T pl) goal)[d - i]? := fun i hi => by
      rw [List.getElem?_reverse (by omega), hl]
      congr 1
    refine ⟨by rw [List.length_reverse, hl], by rw [rv 0 (by omega)]; exact p3, by rw [rv d (Nat.le_refl _), Nat.sub_self]; exact p2, fun i hi => ?_⟩
    obtain ⟨a, b, q1, q2, q3⟩ := p4 (d - 1 - i) (by omega)
    refine ⟨b, a, ?_, ?_, q3⟩
    · rw [rv i (by omega), ← q2]
      exact congrArg _ (by omega)
    · rw [rv (i + 1) (by omega), ← q1]
      exact congrArg _ (by omega)
end K7

set_option maxHeartbeats 4000000
/-! K34: _law_far. -/
namespace K7
open PySem PySem.Spec PyProof.Rows L2 DL Hd
section
variable {M : Md} (nb : NoB M.mg)
theorem sc__law_far : FnScope ["world", "rows", "found", "level", "turn", "longer", "one", "other"] ["world", "rows"] (defScope (topS 67)) := ⟨rfl, rfl, rfl, by decide +kernel, rfl, by decide +kernel, by decide +kernel⟩
structure FrOk (W : Wo) (T : Tab) (pl : Pl) : Prop where
  h : TwOk W T
  s : SOk T pl
  few : (allP T.back.length pl.length).length ≤ 1000000
abbrev lfrArgs (M : Md) : { i : Wo × Tab × Pl // FrOk i.1 i.2.1 i.2.2 } → List DL.Arg := fun i => [.z (isWo M.P M.w M.K i.1.1), .z (isD M.K (plL i.1.2.2))]
theorem lk_len {T : Tab} {st : Pl} {t : Nat} {sn : Fn × List Pl} {s : Fd × List Pl} (h : Lk T st t sn s) : sn.1.length = s.1.length := by
  have := congrArg List.length h.keys
  simpa using this
include nb in
theorem ok__law_far (F : FnD M "_law_far" (topS 67) ["world", "rows"]) (f1 : FK M "_law_near" 3 ["world", "rows"] (lnrArgs M) (fun i => oLn M.K ((nearG i.1.1 i.1.2).map plL))) (f2 : FK M "_law_key" 1 ["rows"] (keyArgs M) (fun i => dD M.K (plD i.1))) :
    FK M "_law_far" 4 ["world", "rows"] (lfrArgs M) (fun i => .fz (isX M.P M.w M.K (fdN (farF i.1.1 i.1.2.1 i.1.2.2)))) := by
  refine fk (N := ["world", "rows", "found", "level", "turn", "longer", "one", "other"]) F sc__law_far (fun _ => rfl) ?_
  rintro X rfl B hr ⟨⟨W, T, pl⟩, hTw, hs, hfew⟩ G vs hv
  obtain ⟨v, w, rfl⟩ := len2 hv
  simp only at hTw hs hfew
  have hsz := sizeLine_eq
  have hu := B.un
  have htb := hTw.tb
  have h5 := hTw.w.bk.hi
  have h12 := hs.tri.sz
  let k := pl.length
  let N := (allP T.back.length k).length
  have hN : N ≤ 1000000 := hfew
  have triW : ∀ {c : Pl}, SOk T c → Tri W.back.length c := fun {c} h => by rw [← htb]; exact h.tri
  have hg : ∀ c, SOk T c → c.length = k → nearG W c = nearS T c := fun c h _ => nearG_eq hTw (triW h)
  have dkey : ∀ {c : Pl} {Y : Cx}, As.fr (dD Y.K (plD c)) = isD Y.K (.tuple (NestedKey.datas (plK c))) := fun {c Y} => by rw [plK_data]; rfl
  let Ow (a : Fn × List Pl × Nat) : Ev := [some (.fz (isWo X.prog X.w X.K W)), some (dD X.K (plL pl)), some ((oDc X.prog X.w X.K (fdN a.1)).at none), some (oLn X.K (a.2.1.map plL)), some (dD X.K (nD a.2.2)), none, none, none]
  let R := farF W T pl
  refine dss_go (env1 := Ow ([], [pl], 0)) (ds_par3 (A2 := oLn X.K [plL pl]) (A3 := dD X.K (nD 0)) B 2 3 4 (da_cons de_newX (da_cons (de_lstD (dad_cons (de_name B 1) rfl dad_nil)) (da_cons de_int da_nil)))) ?_
  have e0 : putL (fdN []) (.tup (plK pl)) (nD 0) = fdN ([] ++ [(pl, 0)]) := putL_newN [] pl 0 (by simp)
  refine dss_go (env1 := Ow ([(pl, 0)], [pl], 0)) (ds_wk (ds_asg de_int (dg_setX (q := none) (L := fdN []) (ks := plK pl) (d := nD 0) B 2 rfl (de_nc B (nk f2 hr ⟨pl, h12⟩) (da_cons (de_name B 1) da_nil) (.inl rfl)) dkey (depth_pl pl) (by show 0 < _; omega) hu)) (wk_eq (by show [_, _, some ((oDc X.prog X.w X.K (putL (fdN []) (.tup (plK pl)) (nD 0))).at none), _, _, _, _, _] = _; rw [e0]; rfl))) ?_
  let ms : Fn × List Pl × Nat → Nat := fun a => 2 * (N - a.1.length) + (if a.2.1 = [] then 0 else 1)
  have hms : ∀ {a : Fn × List Pl × Nat} {s : Fd × List Pl}, Lk T pl a.2.2 (a.1, a.2.1) s → ms a = msr T k s := fun {a s} h => by
    have h1 := lk_len h
    have h2 : a.2.1 = s.2 := h.lv
    show 2 * (N - a.1.length) + _ = 2 * (N - s.1.length) + _
    rw [show a.1.length = s.1.length from h1, h2]
  refine dss_goW (env1 := [some (.fz (isWo X.prog X.w X.K W)), some (dD X.K (plL pl)), some ((oDc X.prog X.w X.K (fdN R)).at none), none, none, none, none, none]) (ds_whileN (α := Fn × List Pl × Nat) B ms Ow (fun a => ∃ s n, Lk T pl a.2.2 (a.1, a.2.1) s ∧ BfOk T k s ∧ msr T k s ≤ n ∧ bfsN W n a = R) ([(pl, 0)], [pl], 0) ⟨([(pl, none)], [pl]), _, lk_init T pl, bf_init hs, Nat.le_refl _, rfl⟩ (Wk.refl _) (fun a hI => ?_)) ?_
  · obtain ⟨s, n, hL, hb, hn, hR⟩ := hI
    obtain ⟨fn, lvl, t⟩ := a
    have hlv : lvl = s.2 := hL.lv
    simp only at hL
    refine ⟨!decide (lvl = []), Ow (fn, lvl, t), dt_thaw (fun G' => dt_eq (dt_cmp (de_name (P := isD X.K (.list (lvl.map plL))) B 3) (de_lstD dad_nil) (opd_ne (d' := .list []) hr.units ((shp_l fun c _ => shp_plL c).ok (by omega)) (by decide +kernel))) (by rw [eqv_nil]; congr 1; exact decide_eq_decide.mpr (by simp))), fun hk => ?_, fun hk => ?_⟩
    · have hne : lvl ≠ [] := by simpa using hk
      have hne' : s.2 ≠ [] := by rw [← hlv]; exact hne
      have hmsr := level_msr hb hne'
      have hL2 := lk_level hL fun c hc => let z := hb.fd.mem c (hb.fr c hc); hg c z.1 z.2
      have hm1 : ms (fn, lvl, t) = msr T k s := hms hL
      have hm2 : ms ((levelN W (t + 1) fn lvl).1, (levelN W (t + 1) fn lvl).2, t + 1) = msr T k (levelF T s.1 s.2) := hms (a := ((levelN W (t + 1) fn lvl).1, (levelN W (t + 1) fn lvl).2, t + 1)) hL2
      obtain ⟨n', rfl⟩ : ∃ n', n = n' + 1 := by
        cases n with
        | zero =>
          unfold msr at hn
          rw [if_neg hne'] at hn
          omega
        | succ n' => exact ⟨n', rfl⟩
      refine ⟨((levelN W (t + 1) fn lvl).1, (levelN W (t + 1) fn lvl).2, t + 1), by rw [hm1, hm2]; exact hmsr, ⟨levelF T s.1 s.2, n', hL2, level_ok hb, by omega, ?_⟩, ?_⟩
      · rw [← hR]
        show _ = (if lvl = [] then _ else _)
        rw [if_neg hne]
      · let O2 (a : Fn × List Pl) (l o c : Option As) : Ev := [some (.fz (isWo X.prog X.w X.K W)), some (dD X.K (plL pl)), some ((oDc X.prog X.w X.K (fdN a.1)).at none), l, some (dD X.K (nD (t + 1))), some (oLn X.K (a.2.map plL)), o, c]
        have et : ((t : Nat) : Int) + 1 = ((t + 1 : Nat) : Int) := by omega
        refine dss_go (env1 := O2 (fn, []) (some (oLn X.K (lvl.map plL))) none none) (ds_par2 (A1 := dD X.K (nD (t + 1))) B 4 5 (da_cons (de_eq (de_bin (de_name (P := isD X.K (nD t)) B 4) de_int (opd_add _ _)) (by rw [et]; rfl)) (da_cons (de_lstD dad_nil) da_nil))) ?_
        let F1 : Nat → Fd × List Pl := fun i => (lvl.take i).foldl (turnF T) (s.1, [])
        let G1 : Nat → Fn × List Pl := fun i => (lvl.take i).foldl (turnN W (t + 1)) (fn, [])
        have hL0 : Lk T pl (t + 1) (fn, []) (s.1, []) := ⟨hL.keys, rfl, hL.d, fun c hc => by cases hc⟩
        have hF1 : ∀ i, BfOk T k (F1 i) := fun i => turns_ok _ _ ⟨hb.fd, fun _ z => (by cases z)⟩ fun c hc => hb.fd.mem c (hb.fr c (by rw [← hlv]; exact List.mem_of_mem_take hc))
        have hG1 : ∀ i, Lk T pl (t + 1) (G1 i) (F1 i) ∧ ∀ x e, getN fn x = some e → getN (G1 i).1 x = some e := fun i => by
          have := lk_turns (W := W) (d := t) rfl (s.2.take i) (fn, []) (s.1, []) hL0 (fun c hc => hL.nw c (List.mem_of_mem_take hc)) fun c hc => let z := hb.fd.mem c (hb.fr c (List.mem_of_mem_take hc)); hg c z.1 z.2
          rw [← hlv] at this
          exact this
        refine dss_go (env1 := O2 (levelN W (t + 1) fn lvl) none none none) (ds_forN B (di_ldm lvl plL (de_move B 3) rfl) (fun i => O2 (G1 i) none none none) (Wk.refl _) (fun i P hP => ?_) (by
          show NX _ (.nx (O2 (G1 _) none none none))
          have : G1 (lvl.map fun a => isD X.K (plL a)).length = levelN W (t + 1) fn lvl := by
            show (lvl.take _).foldl _ _ = _
            rw [List.length_map, List.take_length]; rfl
          rw [this]; rfl)) (dss_end (ds_last (ds_set B 3 (de_move B 5)) (by
            refine Drop.wk ?_
            repeat (first | exact Drop.nil | apply Drop.keep | apply Drop.skip))))
        rw [List.getElem?_map, Option.map_eq_some_iff] at hP
        obtain ⟨one, hone, rfl⟩ := hP
        have hom : one ∈ s.2 := by rw [← hlv]; exact List.mem_of_getElem? hone
        have hok := hb.fd.mem one (hb.fr one hom)
        have hng := hg one hok.1 hok.2
        have hnear : ∀ c ∈ nearG W one, SOk T c ∧ c.length = k := fun c hc => by
          rw [hng] at hc
          have z := nearS_ok hok.1 hc
          exact ⟨z.1, z.2.trans hok.2⟩
        have hSG : G1 (i + 1) = (nearG W one).foldl (visitN (t + 1)) (G1 i) := by
          show (lvl.take (i + 1)).foldl _ _ = _
          rw [take_succ_f hone, List.foldl_append]; rfl
        let oE : Option As := some (dD X.K (plL one))
        refine ⟨_, O2 (G1 i) none oE none, dg_name B 6, dss_end ?_⟩
        let F2 : Nat → Fd × List Pl := fun j => ((nearG W one).take j).foldl (visit one) (F1 i)
        let G2 : Nat → Fn × List Pl := fun j => ((nearG W one).take j).foldl (visitN (t + 1)) (G1 i)
        have hF2 : ∀ j, BfOk T k (F2 j) := fun j => visits_ok _ _ (hF1 i) fun c hc => hnear c (List.mem_of_mem_take hc)
        have hone' : getN (G1 i).1 one = some t := (hG1 i).2 one t (hL.nw one hom)
        have hG2 : ∀ j, Lk T pl (t + 1) (G2 j) (F2 j) := fun j => (lk_visits rfl _ _ _ (hG1 i).1 hone' fun c hc => by rw [← hng]; exact List.mem_of_mem_take hc).1
        refine ds_forN (Pt := LpW (O2 (G1 (i + 1)) none none none) _) B (di_ldm (nearG W one) plL (de_nc B (nk f1 hr ⟨(W, one), triW hok.1, h5⟩) (da_cons (de_name B 0) (da_cons (de_name (P := isD X.K (plL one)) B 6) da_nil)) (.inl rfl)) rfl) (fun j => O2 (G2 j) none oE none) (Wk.refl _) (fun j P hP => ?_) ?_
        · rw [List.getElem?_map, Option.map_eq_some_iff] at hP
          obtain ⟨c, hc, rfl⟩ := hP
          have hcm := List.mem_of_getElem? hc
          have hcl : c.length ≤ 12 := (hnear c hcm).1.tri.sz
          have hstep : G2 (j + 1) = visitN (t + 1) (G2 j) c := by
            show ((nearG W one).take (j + 1)).foldl _ _ = _
            rw [take_succ_f hc, List.foldl_append]; rfl
          have hll := lk_len (hG2 j)
          have hle := (hF2 j).fd.le
          have hlen : (fdN (G2 j).1).length < sizeLine := by
            rw [fdN, List.length_map]
            omega
          have hlen2 : ((G2 j).2.map plL).length < sizeLine := by
            have e1 := visits_len (here := one) ((nearG W one).take j) (F1 i)
            have e2 : (F1 i).1.length + 0 = s.1.length + (F1 i).2.length := turns_len (T := T) (lvl.take i) (s.1, [])
            have e3 : (F2 j).1.length + (F1 i).2.length = (F1 i).1.length + (F2 j).2.length := e1
            rw [List.length_map, (hG2 j).lv]
            omega
          let cE : Option As := some (dD X.K (plL c))
          have hin : OpD X (compareOp .NotIn) (isD X.K (plD c)) (isX X.prog X.w X.K (fdN (G2 j).1)) (dD X.K (.bool (!decide (c ∈ keysN (G2 j).1)))) := by
            have h := opd_notInX (X := X) (L := fdN (G2 j).1) (ks := plK c) hu (depth_pl c)
            rw [plK_data, getLN_some] at h
            exact h
          refine ⟨_, O2 (G2 j) none oE cE, dg_name B 7, dss_end (ds_if (env1 := O2 (G2 j) none oE cE) (k := !decide (c ∈ keysN (G2 j).1)) (dt_thaw (fun G' => dt_cmp (de_nc B (nk f2 hr ⟨c, hcl⟩) (da_cons (de_name (P := isD X.K (plL c)) B 7) da_nil) (.inl rfl)) (de_name (P := isX X.prog X.w X.K (fdN (G2 j).1)) B 2) hin)) (fun hk => ?_) (fun hk => ?_))⟩
          · have hnm : c ∉ keysN (G2 j).1 := by simpa using hk
            have hv : visitN (t + 1) (G2 j) c = ((G2 j).1 ++ [(c, t + 1)], (G2 j).2 ++ [c]) := by
              unfold visitN
              rw [if_neg hnm]
            have e1 := putL_newN (G2 j).1 c (t + 1) hnm
            refine dss_go (env1 := O2 ((G2 j).1 ++ [(c, t + 1)], (G2 j).2) none oE cE) (ds_wk (ds_asg (de_name (P := isD X.K (nD (t + 1))) B 4) (dg_setX (q := none) (L := fdN (G2 j).1) (ks := plK c) (d := nD (t + 1)) B 2 rfl (de_nc B (nk f2 hr ⟨c, hcl⟩) (da_cons (de_name (P := isD X.K (plL c)) B 7) da_nil) (.inl rfl)) dkey (depth_pl c) hlen hu)) (wk_eq (by show [_, _, some ((oDc X.prog X.w X.K (putL (fdN (G2 j).1) (.tup (plK c)) (nD (t + 1)))).at none), _, _, _, _, _] = _; rw [e1]))) ?_
            refine dss_end (ds_last (ds_expr (de_append (q := none) (ds := (G2 j).2.map plL) (d := plL c) B 5 (de_name (P := isD X.K (plL c)) B 7) rfl (hz := hlen2))) ?_)
            have e5 : (G2 j).2.map plL ++ [plL c] = ((G2 j).2 ++ [c]).map plL := (List.map_append (f := plL) (l₁ := (G2 j).2) (l₂ := [c])).symm
            have e6 : G2 (j + 1) = ((G2 j).1 ++ [(c, t + 1)], (G2 j).2 ++ [c]) := by rw [hstep, hv]
            show Wk [some (.fz (isWo X.prog X.w X.K W)), some (dD X.K (plL pl)), some ((oDc X.prog X.w X.K (fdN ((G2 j).1 ++ [(c, t + 1)]))).at none), none, some (dD X.K (nD (t + 1))), some (oLn X.K ((G2 j).2.map plL ++ [plL c])), oE, cE] (O2 (G2 (j + 1)) none oE none)
            rw [e5, e6]
            refine Drop.wk ?_
            repeat (first | exact Drop.nil | apply Drop.keep | apply Drop.skip)
          · have hm : c ∈ keysN (G2 j).1 := by simpa using hk
            have hv : visitN (t + 1) (G2 j) c = G2 j := by
              unfold visitN
              rw [if_pos hm]
            refine dss_nil ?_
            show Wk (O2 (G2 j) none oE cE) (O2 (G2 (j + 1)) none oE none)
            rw [hstep, hv]
            refine Drop.wk ?_
            repeat (first | exact Drop.nil | apply Drop.keep | apply Drop.skip)
        · show Wk (O2 (G2 _) none oE none) (O2 (G1 (i + 1)) none none none)
          have e4 : G2 ((nearG W one).map fun a => isD X.K (plL a)).length = G1 (i + 1) := by
            rw [hSG]
            show ((nearG W one).take _).foldl _ _ = _
            rw [List.length_map, List.take_length]
          rw [e4]
          refine Drop.wk ?_
          repeat (first | exact Drop.nil | apply Drop.keep | apply Drop.skip)
    · have he : lvl = [] := by simpa using hk
      have e : R = fn := by
        rw [← hR]
        cases n with
        | zero => rfl
        | succ n =>
          show (if lvl = [] then _ else _) = _
          rw [if_pos he]
      refine ⟨_, rfl, ?_⟩
      show Wk (Ow (fn, lvl, t)) _
      rw [e]
      refine Drop.wk ?_
      repeat (first | exact Drop.nil | apply Drop.keep | apply Drop.skip)
  · exact dss_end (ds_ret (de_frz (A := (oDc X.prog X.w X.K (fdN R)).at none) (de_move B 2)) ⟨rfl, trivial⟩)
end
end K7

set_option maxHeartbeats 4000000
/-! K35: _law_same. -/
namespace K7
open PySem PySem.Spec PyProof.Rows L2 DL Hd
/-- scalars, and lists and tuples so deep -/
def scD : PyData → Bool
  | .none => true
  | .bool _ => true
  | .int _ => true
  | .str _ => true
  | _ => false
/-- a list or a tuple -/
def sqD (t : Bool) (ds : List PyData) : PyData := if t then .tuple ds else .list ds
def Smp : Nat → PyData → Prop
  | 0, d => scD d = true
  | n + 1, d => scD d = true ∨ ∃ t ds, d = sqD t ds ∧ ds.length ≤ 1000000 ∧ ∀ x ∈ ds, Smp n x
theorem smp_up : ∀ {n : Nat} {d : PyData}, Smp n d → Smp (n + 1) d
  | 0, d, h => .inl h
  | n + 1, d, h => by
    rcases h with h | ⟨t, ds, e, hl, hx⟩
    · exact .inl h
    · exact .inr ⟨t, ds, e, hl, fun x hm => smp_up (hx x hm)⟩
section
variable {X : Cx} {P R : FP} {A B S : As} {K : PySem.W.Frag} {G : Reg} {env env1 : Ev} {e : Expr}
theorem nc_isiP (nb : NoB X.mg) {P : FP} (d : PyData) {t : String} (h : HasTy X.K P (.type (tyD d))) (ht : t = "int" ∨ t = "bool" ∨ t = "str" ∨ t = "list" ∨ t = "tuple" ∨ t = "dict") : NC X "isinstance" [.fz P, .fz (isV (.ty t))] [.fz P, .fz (isV (.ty t))] (dD X.K (.bool (tyOk d t))) :=
  nc_b (cd_isi h (.ty t) (kit_d d t ht)) nb.isinstance
theorem cd_lenQ {t : Bool} {ds : List PyData} : CallD X (.builtin "len") [dD X.K (sqD t ds)] [dD X.K (sqD t ds)] (dD X.K (.int ds.length)) := by
  cases t
  · exact cd_lenL
  · exact cd_lenT
theorem ixd_q {t : Bool} {ds : List PyData} {m : Int} {d : PyData} (h : atI ds m = some d) : IxD X (isD X.K (sqD t ds)) (isD X.K (.int m)) (dD X.K d) := by
  cases t
  · exact ixd_l h
  · exact ixd_t h
theorem tyOk_q (t : Bool) (ds : List PyData) (z : String) : tyOk (sqD t ds) z = ((if t then "tuple" else "list") == z) := by
  cases t <;> simp [tyOk, sqD, tyD]
end
theorem atI_nat {ds : List PyData} {k : Nat} {d : PyData} (h : ds[k]? = some d) : atI ds (k : Int) = some d := by
  have hk := (List.getElem?_eq_some_iff.mp h).1
  unfold atI
  rw [ixN_n hk]
  exact h
section
variable {M : Md} (nb : NoB M.mg)
theorem sc__law_same : FnScope ["told", "due", "key", "k"] ["told", "due"] (defScope (topS 51)) := ⟨rfl, rfl, rfl, by decide +kernel, rfl, by decide +kernel, by decide +kernel⟩
/-- twice the same data, or two empty dicts -/
abbrev smP (M : Md) {n : Nat} : Option { d : PyData // Smp n d } → FP
  | none => isS []
  | some d => isD M.K d.1
abbrev smArgs (M : Md) (n : Nat) : Option { d : PyData // Smp n d } → List DL.Arg := fun i => [.z (smP M i), .z (smP M i)]
include nb in
theorem same_q {κ : Bool} {X : Cx} {k n : Nat} {t : Bool} {ds : List PyData} {pt : Out → Prop} {G : Reg} (hm : mdOf X = M) (B : Bx κ X ["told", "due", "key", "k"] (defScope (topS 51)) (fun _ => true)) (hr : RoomB κ k X.A) (hn : n + 1 ≤ k)
    (rec : FB M "_law_same" (n + 1) ["told", "due"] (smArgs M n) (fun _ => dD M.K (.bool true))) (hl : ds.length ≤ 1000000) (hx : ∀ x ∈ ds, Smp n x) {vs : List V} (hv : vs.length = 2) :
    DSs X G (env0 [.z (isD X.K (sqD t ds)), .z (isD X.K (sqD t ds))] vs ["told", "due", "key", "k"]) (defBody (topS 51)) (Fin [.z (isD X.K (sqD t ds)), .z (isD X.K (sqD t ds))] (dD X.K (.bool true)) vs) := by
  subst hm
  obtain ⟨v, w, rfl⟩ := len2 hv
  let d := sqD t ds
  let E : Ev := [some (dD X.K d), some (dD X.K d), none, none]
  have hu := hr.units
  have hf : ((List.range ds.length).filter fun _ => false) = [] := by simp
  let L : List PyData := (((List.range ds.length).filter fun _ => false).map nD)
  have hL : L = [] := by show List.map nD _ = []; rw [hf]; rfl
  have nN : NonB (isD X.K d) false := by
    have h := nonB_d (K := X.K) d
    cases t <;> exact h
  have hsz := sizeLine_eq
  have kt : PySem.W.kitAny X.K (.type (tyD d)) [.type "list", .type "tuple"] = some true := by
    have h1 := kit_d (K := X.K) d "list" (by simp)
    have h2 := kit_d (K := X.K) d "tuple" (by simp)
    rw [tyOk_q] at h1 h2
    simp only [PySem.W.kitAny, h1, h2]
    cases t <;> rfl
  have eb : tyOk d "bool" = false := by rw [tyOk_q]; cases t <;> rfl
  have ei : tyOk d "int" = false := by rw [tyOk_q]; cases t <;> rfl
  have es : tyOk d "str" = false := by rw [tyOk_q]; cases t <;> rfl
  have ed : tyOk d "dict" = false := by rw [tyOk_q]; cases t <;> rfl
  refine dss_if (env1 := E) (dt_w (dw_or (dt_isN (de_name B 1) nN) fun _ => (dw_or1 (dt_val (de_nc B (nc_isi nb (d := d) (t := "bool") (by simp)) (da_cons (de_name B 1) (da_cons (de_bty B nb.bool) da_nil)) (.inl rfl)))))) (fun h => by rw [eb] at h; cases h) (fun _ => ?_)
  refine dss_if (env1 := E) (dt_val (de_nc B (nc_isi nb (d := d) (t := "int") (by simp)) (da_cons (de_name B 1) (da_cons (de_bty B nb.int) da_nil)) (.inl rfl))) (fun h => by rw [ei] at h; cases h) (fun _ => ?_)
  refine dss_if (env1 := E) (dt_val (de_nc B (nc_isi nb (d := d) (t := "str") (by simp)) (da_cons (de_name B 1) (da_cons (de_bty B nb.str) da_nil)) (.inl rfl))) (fun h => by rw [es] at h; cases h) (fun _ => ?_)
  refine dss_if (env1 := E) (dt_val (de_nc B (nc_isi nb (d := d) (t := "dict") (by simp)) (da_cons (de_name B 1) (da_cons (de_bty B nb.dict) da_nil)) (.inl rfl))) (fun h => by rw [ed] at h; cases h) (fun _ => ?_)
  refine dss_if (env1 := E) (dt_w (dw_or (dt_not (dt_val (de_nc B (nc_b (cd_isiT (hasTy_d d) (.cons (.ty "list") (.cons (.ty "tuple") .nil)) kt) nb.isinstance) (da_cons (de_name B 1) (da_cons (de_tupV (ws := [.ty "list", .ty "tuple"]) (da_cons (de_bty B nb.list) (da_cons (de_bty B nb.tuple) da_nil))) da_nil)) (.inr rfl)))) fun _ => (dw_or1 (dt_not (dt_val (de_nc B (nc_b (cd_isiT (hasTy_d d) (.cons (.ty "list") (.cons (.ty "tuple") .nil)) kt) nb.isinstance) (da_cons (de_name B 0) (da_cons (de_tupV (ws := [.ty "list", .ty "tuple"]) (da_cons (de_bty B nb.list) (da_cons (de_bty B nb.tuple) da_nil))) da_nil)) (.inr rfl))))))) (fun h => by cases h) (fun _ => ?_)
  refine dss_if (env1 := E) (dt_w (dw_or (dt_cmp (de_nc B (nc_isi nb (d := d) (t := "list") (by simp)) (da_cons (de_name B 0) (da_cons (de_bty B nb.list) da_nil)) (.inl rfl)) (de_nc B (nc_isi nb (d := d) (t := "list") (by simp)) (da_cons (de_name B 1) (da_cons (de_bty B nb.list) da_nil)) (.inl rfl)) (opd_neB _ _)) fun _ => (dw_or1 (dt_cmp (de_nc B (nc_b cd_lenQ nb.len) (da_cons (de_name B 0) da_nil) (.inl rfl)) (de_nc B (nc_b cd_lenQ nb.len) (da_cons (de_name B 1) da_nil) (.inl rfl)) (opd_neI _ _ hu))))) (fun h => by simp at h) (fun _ => ?_)
  refine dss_end (ds_ret (env1 := E) (de_eq (de_cmp (A := oLn X.K L) (de_lcr (lc1 3 (List.range ds.length) (fun i => isD X.K (nD i)) (fun _ => false) nD B ⟨by decide +kernel, by decide +kernel, by decide +kernel, by decide +kernel, by decide +kernel⟩ (di_rn B (de_nc B (nc_b cd_lenQ nb.len) (da_cons (de_name B 1) da_nil) (.inl rfl)) nb.range (by omega)) (by rw [List.length_range]; omega) rfl (fun s0 H0 C cl fp B' a ha => ⟨?_, fun h => by cases h⟩))) (de_lstD dad_nil) (opd_eq (d := .list L) (d' := .list []) hu (by rw [hL]; rfl) rfl)) ?_) ⟨rfl, trivial⟩)
  · have hk := List.mem_range.mp ha
    obtain ⟨x, hx1⟩ : ∃ x, ds[a]? = some x := ⟨ds[a], List.getElem?_eq_getElem hk⟩
    have hs := hx x (List.mem_of_getElem? hx1)
    refine dts_one (dt_eq (dt_not (dt_val (de_nc B' (nkb (X := BY X s0 H0 _ C cl fp) rec B' hr (some ⟨x, hs⟩) hn) (da_cons (de_ix (de_name B' 0) (de_name B' 3) (ixd_q (atI_nat hx1))) (da_cons (de_ix (de_name B' 1) (de_name B' 3) (ixd_q (atI_nat hx1))) da_nil)) (.inl rfl)))) rfl)
  · rw [hL]; rfl
include nb in
theorem same_s {κ : Bool} {X : Cx} {k : Nat} {d : PyData} {G : Reg} (hm : mdOf X = M) (B : Bx κ X ["told", "due", "key", "k"] (defScope (topS 51)) (fun _ => true)) (hr : RoomB κ k X.A) (hd : scD d = true) {vs : List V} (hv : vs.length = 2) :
    DSs X G (env0 [.z (isD X.K d), .z (isD X.K d)] vs ["told", "due", "key", "k"]) (defBody (topS 51)) (Fin [.z (isD X.K d), .z (isD X.K d)] (dD X.K (.bool true)) vs) := by
  subst hm
  obtain ⟨v, w, rfl⟩ := len2 hv
  let E : Ev := [some (dD X.K d), some (dD X.K d), none, none]
  have hu := hr.units
  refine dss_if (env1 := E) (dt_w (dw_or (dt_isN (de_name B 1) (nonB_d _)) fun _ => (dw_or1 (dt_val (de_nc B (nc_isi nb (d := d) (t := "bool") (by simp)) (da_cons (de_name B 1) (da_cons (de_bty B nb.bool) da_nil)) (.inl rfl)))))) (fun h => ?_) (fun h => ?_)
  · refine dss_end (ds_ret (env1 := E) (A := dD X.K (.bool true)) (de_if (dt_isN (de_name B 1) (nonB_d _)) (fun h1 => de_eq (de_isN (de_name B 0) (nonB_d _)) ?_) (fun h1 => de_eq (de_and (de_nc B (nc_isi nb (d := d) (t := "bool") (by simp)) (da_cons (de_name B 0) (da_cons (de_bty B nb.bool) da_nil)) (.inl rfl)) fun h2 => (de_one (A := dD X.K (.bool true)) ?_)) ?_)) ⟨⟨rfl, trivial⟩, fun e he => by cases he⟩)
    · cases d <;> first | rfl | cases h1
    · cases d <;> first | (simp [tyOk, tyD] at h2; done) | skip
      rename_i c
      exact de_eq (de_cmp (de_isB (c := c) (d := true) (de_name B 0) rfl) (de_isB (c := c) (d := true) (de_name B 1) rfl) (opd_eqB _ _)) (by simp)
    · rw [h1] at h
      have h' : tyOk d "bool" = true := h
      rw [h']; rfl
  have nB : tyOk d "bool" = false := (Bool.or_eq_false_iff.mp h).2
  have nN := (Bool.or_eq_false_iff.mp h).1
  refine dss_if (env1 := E) (dt_val (de_nc B (nc_isi nb (d := d) (t := "int") (by simp)) (da_cons (de_name B 1) (da_cons (de_bty B nb.int) da_nil)) (.inl rfl))) (fun h2 => ?_) (fun h2 => ?_)
  · refine dss_end (ds_ret (env1 := E) (de_eq (de_and (de_nc B (nc_isi nb (d := d) (t := "int") (by simp)) (da_cons (de_name B 0) (da_cons (de_bty B nb.int) da_nil)) (.inl rfl)) fun _ => de_and (de_not (de_nc B (nc_isi nb (d := d) (t := "bool") (by simp)) (da_cons (de_name B 0) (da_cons (de_bty B nb.bool) da_nil)) (.inl rfl))) fun _ => de_one (A := dD X.K (.bool true)) ?_) (by rw [h2, nB]; rfl)) ⟨⟨rfl, trivial⟩, fun e he => by cases he⟩)
    cases d <;> first | (simp [tyOk, tyD] at h2; done) | (simp [tyOk, tyD] at nB; done) | skip
    exact de_eq (de_cmp (de_name B 0) (de_name B 1) (opd_eqI _ _ hu)) (by simp)
  refine dss_if (env1 := E) (dt_val (de_nc B (nc_isi nb (d := d) (t := "str") (by simp)) (da_cons (de_name B 1) (da_cons (de_bty B nb.str) da_nil)) (.inl rfl))) (fun h3 => ?_) (fun h3 => ?_)
  · refine dss_end (ds_ret (env1 := E) (de_eq (de_and (de_nc B (nc_isi nb (d := d) (t := "str") (by simp)) (da_cons (de_name B 0) (da_cons (de_bty B nb.str) da_nil)) (.inl rfl)) fun _ => de_one (A := dD X.K (.bool true)) ?_) (by rw [h3]; rfl)) ⟨⟨rfl, trivial⟩, fun e he => by cases he⟩)
    cases d <;> first | (simp [tyOk, tyD] at h3; done) | skip
    exact de_eq (de_cmp (de_name B 0) (de_name B 1) (opd_eqS _ _)) (by simp)
  exfalso
  cases d <;> first | (cases hd; done) | (cases nN; done) | (simp [tyOk, tyD] at nB; done) | (simp [tyOk, tyD] at h2; done) | (simp [tyOk, tyD] at h3; done)
include nb in
theorem same_e {κ : Bool} {X : Cx} {k : Nat} {G : Reg} (hm : mdOf X = M) (B : Bx κ X ["told", "due", "key", "k"] (defScope (topS 51)) (fun _ => true)) (hr : RoomB κ k X.A) {vs : List V} (hv : vs.length = 2) :
    DSs X G (env0 [.z (isS []), .z (isS [])] vs ["told", "due", "key", "k"]) (defBody (topS 51)) (Fin [.z (isS []), .z (isS [])] (dD X.K (.bool true)) vs) := by
  subst hm
  obtain ⟨v, w, rfl⟩ := len2 hv
  let E : Ev := [some (.fz (isS [])), some (.fz (isS [])), none, none]
  have hu := hr.units
  have hT : HasTy X.K (isS []) (.type (tyD (.dict []))) := hasTy_S
  refine dss_if (env1 := E) (dt_w (dw_or (dt_isN (de_name B 1) nonB_S) fun _ => (dw_or1 (dt_val (de_nc B (nc_isiP nb (.dict []) (t := "bool") hT (by simp)) (da_cons (de_name B 1) (da_cons (de_bty B nb.bool) da_nil)) (.inl rfl)))))) (fun h => by exact absurd h (by decide)) (fun h => ?_)
  refine dss_if (env1 := E) (dt_val (de_nc B (nc_isiP nb (.dict []) (t := "int") hT (by simp)) (da_cons (de_name B 1) (da_cons (de_bty B nb.int) da_nil)) (.inl rfl))) (fun h => by exact absurd h (by decide)) (fun _ => ?_)
  refine dss_if (env1 := E) (dt_val (de_nc B (nc_isiP nb (.dict []) (t := "str") hT (by simp)) (da_cons (de_name B 1) (da_cons (de_bty B nb.str) da_nil)) (.inl rfl))) (fun h => by exact absurd h (by decide)) (fun _ => ?_)
  refine dss_if (env1 := E) (dt_val (de_nc B (nc_isiP nb (.dict []) (t := "dict") hT (by simp)) (da_cons (de_name B 1) (da_cons (de_bty B nb.dict) da_nil)) (.inl rfl))) (fun _ => ?_) (fun h => by exact absurd h (by decide))
  refine dss_imp (Pt := Fin [.z (isS []), .z (isS [])] (dD X.K (.bool true)) [v, w]) ?_ fun o ho => ⟨ho, fun e he => by
    subst he
    exact absurd (ho.1 (fun _ => none)) (fun h => by cases h.2)⟩
  refine dss_if (env1 := E) (dt_w (dw_or (dt_not (dt_val (de_nc B (nc_isiP nb (.dict []) (t := "dict") hT (by simp)) (da_cons (de_name B 0) (da_cons (de_bty B nb.dict) da_nil)) (.inl rfl)))) fun _ => (dw_or1 (dt_cmp (de_nc B (nc_b cd_lenDS nb.len) (da_cons (de_name B 0) da_nil) (.inl rfl)) (de_nc B (nc_b cd_lenDS nb.len) (da_cons (de_name B 1) da_nil) (.inl rfl)) (opd_neI _ _ hu))))) (fun h => by exact absurd h (by decide)) (fun _ => ?_)
  refine dss_end (ds_ret (env1 := E) (de_eq (de_cmp (A := oLn X.K (([] : List Nat).map nD)) (de_lcr (lc1 2 ([] : List Nat) (fun i => isD X.K (nD i)) (fun _ => true) nD B ⟨by decide +kernel, by decide +kernel, by decide +kernel, by decide +kernel, by decide +kernel⟩ (di_keysE (de_name B 1) rfl) (Nat.zero_le _) rfl (fun s0 H0 C cl fp B' a ha => by cases ha))) (de_lstD dad_nil) (opd_eq (d := .list []) (d' := .list []) hu rfl rfl)) (by rfl)) ⟨rfl, trivial⟩)
include nb in
theorem ok__law_same (F : FnD M "_law_same" (topS 51) ["told", "due"]) : ∀ n, FB M "_law_same" (n + 1) ["told", "due"] (smArgs M n) (fun _ => dD M.K (.bool true))
  | 0 => fkb (N := ["told", "due", "key", "k"]) F sc__law_same (fun _ => rfl) (by
    rintro κ X rfl B hr i G vs hv
    rcases i with _ | ⟨d, hd⟩
    · exact same_e nb rfl B hr hv
    · exact same_s nb rfl B hr hd hv)
  | n + 1 => fkb (N := ["told", "due", "key", "k"]) F sc__law_same (fun _ => rfl) (by
    have rc := ok__law_same F n
    rintro κ X rfl B hr i G vs hv
    rcases i with _ | ⟨d, hd⟩
    · exact same_e nb rfl B hr hv
    · rcases hd with hd | ⟨t, ds, rfl, hl, hx⟩
      · exact same_s nb rfl B hr hd hv
      · exact same_q (pt := fun _ => True) nb rfl B hr (Nat.le_refl _) rc hl hx hv)
end
end K7

set_option maxHeartbeats 4000000
/-! K36: _law_neighbours_right. -/
namespace DL
open PySem PySem.Spec PyProof.Rows L2
theorem hasTy_L {K : PySem.W.Frag} {Ps : List FP} : HasTy K (isL Ps) (.type (tyD (.list []))) := fun HF H v ex ⟨a, xs, h1, h2, h3⟩ => by
  subst h1
  exact .base (.lst (ex _ _ h2))
end DL
namespace K7
open PySem PySem.Spec PyProof.Rows L2 DL Hd
/-- a def, its text and its promise at one place -/
theorem kwF {M : Md} {x : Str} {st : Stmt} {ps : List Str} {k : Nat} {ι : Type} {args : ι → List DL.Arg} {ret : ι → As} (F : FnD M x st ps) (f1 : FK M x k ps args ret) :
    ∃ f fd, M.mg x = some (.ref f) ∧ PySem.W.keepIn M.K (.ref f) = true ∧ FunD M.K x x (defArgs st) (defBody st) (defScope st) [] [] f fd ∧ FnOk M.P M.w M.K M.mg M.base CX0 k f fd ps (spD args ret) := by
  obtain ⟨f, fd, h1, h2, h3⟩ := F
  obtain ⟨f', fd', g1, g2, g3, g4, g5⟩ := f1
  rw [h1] at g1
  cases g1
  obtain rfl := (fdAt_of h3).uniq g5
  exact ⟨f, fd, h1, g2, h3, g4⟩
theorem smp_nm (ways : List Str) {row : List Nat} (h : row.length ≤ 1000000) : Smp 1 (nmD ways row) :=
  .inr ⟨false, _, rfl, by rw [List.length_map]; exact h, fun x hx => by
    obtain ⟨k, _, rfl⟩ := List.mem_map.mp hx
    rfl⟩
theorem smp_nms (ways : List Str) {pl : Pl} (h : pl.length ≤ 1000000) (hr : ∀ row ∈ pl, row.length ≤ 1000000) : Smp 2 (nmsD ways pl) :=
  .inr ⟨false, _, rfl, by rw [List.length_map]; exact h, fun x hx => by
    obtain ⟨row, hm, rfl⟩ := List.mem_map.mp hx
    exact smp_nm ways (hr row hm)⟩
theorem smp_nmss (ways : List Str) {L : List Pl} (h : L.length ≤ 1000000) (hr : ∀ pl ∈ L, pl.length ≤ 1000000 ∧ ∀ row ∈ pl, row.length ≤ 1000000) : Smp 3 (.list (L.map (nmsD ways))) :=
  .inr ⟨false, _, rfl, by rw [List.length_map]; exact h, fun x hx => by
    obtain ⟨pl, hm, rfl⟩ := List.mem_map.mp hx
    exact smp_nms ways (hr pl hm).1 (hr pl hm).2⟩
theorem tri_small {n : Nat} {pl : Pl} (h : Tri n pl) : pl.length ≤ 1000000 ∧ ∀ row ∈ pl, row.length ≤ 1000000 := by
  have := h.sz
  exact ⟨by omega, fun row hr => by have := h.row hr; omega⟩
section
variable {M : Md} (nb : NoB M.mg) {CT CS : Addr} (tc : TbF M.K CT) (sc : ScF M.K CS) (si : InsF M.K CS)
theorem sc__law_neighbours_right : FnScope ["box", "world", "table", "by_name", "rows", "due", "other", "scene", "turn", "told", "one"] ["box", "world", "table", "by_name"] (defScope (topS 69)) := ⟨rfl, rfl, rfl, by decide +kernel, rfl, by decide +kernel, by decide +kernel⟩
abbrev lnbArgs (M : Md) (CT : Addr) : { i : Bo × Wo × Tab × Bool // BoOk 6 i.1 ∧ TwOk i.2.1 i.2.2.1 } → List DL.Arg := fun i => [.l (oB M.K i.1.1) (oB M.K (sceneF i.1.2.1 i.1.1 5).1), .z (isWo M.P M.w M.K i.1.2.1), .z (isTb M.K CT i.1.2.2.1), .z (isD M.K (.bool i.1.2.2.2))]
include nb sc si in
theorem ok__law_neighbours_right {fI fe fr : Addr} (F : FnD M "_law_neighbours_right" (topS 69) ["box", "world", "table", "by_name"]) (hS : M.mg "Scene" = some (.ref CS)) (mk : Mk M.K CS fI) (mr : Meth M.K CS "rows" fr)
    (f0 : FM M fI 3 ["self", "table", "rows"] (snArgs M CT CS) (fun _ => dD M.K .none)) (f1 : FK M "_law_scene" 3 ["box", "world", "most"] (lscArgs M) (fun i => dD M.K (plL (sceneF i.1.2.1 i.1.1 i.1.2.2).2)))
    (f2 : FK M "_law_near" 3 ["world", "rows"] (lnrArgs M) (fun i => oLn M.K ((nearG i.1.1 i.1.2).map plL))) (f3 : FK M "_law_named" 1 ["world", "rows"] (lmArgs M) (fun i => oLn M.K (i.1.2.map (nmD i.1.1.names))))
    (Fn : FnD M "neighbours" (topS 42) ["scene"]) (f4 : FK M "neighbours" 6 ["scene"] (srArgs M CT CS) (fun i => oSs M.K CT CS i.1.1 (nearS i.1.1 i.1.2)))
    (f5 : FM M fe 1 ["self", "other"] (teArgs M CT) (fun i => dD M.K (.bool (tabEq i.1.1 i.1.2)))) (e5 : EqF M.K CT fe) (f6 : FMB M fr 2 ["self"] (srArgs M CT CS) (fun i => oLn M.K (i.1.2.map (nmD i.1.1.ways)))) (f7 : ∀ n, FB M "_law_same" (n + 1) ["told", "due"] (smArgs M n) (fun _ => dD M.K (.bool true))) :
    FK M "_law_neighbours_right" 7 ["box", "world", "table", "by_name"] (lnbArgs M CT) (fun _ => dD M.K (.bool true)) := by
  refine fk (N := ["box", "world", "table", "by_name", "rows", "due", "other", "scene", "turn", "told", "one"]) F sc__law_neighbours_right (fun _ => rfl) ?_
  rintro X rfl B hr ⟨⟨b, W, T, c⟩, hb, hTw⟩ G vs hv
  obtain ⟨v, w, u, z, rfl⟩ := len4 hv
  simp only at hb hTw
  have hsz := sizeLine_eq
  have hu := B.un
  have hw := hTw.w
  have htb := hTw.tb
  have h5 := hw.bk.hi
  obtain ⟨pl, hpl⟩ : ∃ pl, pl = (sceneF W b 5).2 := ⟨_, rfl⟩
  obtain ⟨b', hb'⟩ : ∃ b', b' = (sceneF W b 5).1 := ⟨_, rfl⟩
  have hg : GdW W pl := hpl ▸ (sceneF_gd (W := W) (b := b) (Nat.le_refl 5)).1
  have hso : SnOk T pl := gd_so hTw hg
  have hs := hso.s
  have z12 := hg.tri.sz
  have hne : nearG W pl = nearS T pl := nearG_eq hTw hg.tri
  have hle := nearS_le hs
  obtain ⟨L, hL⟩ : ∃ L, L = nearS T pl := ⟨_, rfl⟩
  have hLs : ∀ c ∈ L, SOk T c := fun c hc => (nearS_ok hs (hL ▸ hc)).1
  rw [← hL] at hle
  have hLw : ∀ c ∈ L, NmOk W c := fun c hc => by
    have t := (hLs c hc).tri
    refine ⟨fun row hr k hk => ?_, t.sz, fun row hr => ?_⟩
    · have := t.lt row hr k hk
      rw [htb] at this
      rw [hw.len]; exact this
    · have := t.row hr
      have := t.sz
      omega
  have hnm : NmOk W pl := ⟨fun row hr k hk => by rw [hw.len]; exact hg.tri.lt row hr k hk, z12, fun row hr => by have := hg.tri.row hr; omega⟩
  let due : PyData := .list (L.map (nmsD W.names))
  let E (rows due scene turn told : Option As) : Ev := [some ((oB X.K b').at (some v)), some (.fz (isWo X.prog X.w X.K W)), some (.fz (isTb X.K CT T)), some (dD X.K (.bool c)), rows, due, none, scene, turn, told, none]
  let ro : Option As := some (dD X.K (plL pl))
  have C1 : NC X "_law_scene" [(oB X.K b).at none, .fz (isWo X.prog X.w X.K W), dD X.K (nD 5)] [(oB X.K b').at none, .fz (isWo X.prog X.w X.K W), dD X.K (nD 5)] (dD X.K (plL pl)) := by
    have := nk f1 hr ⟨(b, W, 5), hb, hw, Nat.le_refl 5⟩
    simp only at this
    rw [hb', hpl]
    exact this
  refine dss_go (env1 := E ro none none none none) (ds_set B 4 (de_ncL (q := some v) (A := oB X.K b) B 0 C1 (da_cons (de_name B 1) (da_cons de_int da_nil)) (.inl rfl) (hf := let ⟨f, _, h, _⟩ := f1; ⟨f, h⟩))) ?_
  refine dss_go (env1 := E ro (some (oLn X.K (L.map (nmsD W.names)))) none none none) (ds_lcr B 5 (lc1n 6 L (fun c => isD X.K (plL c)) (nmsD W.names) B ⟨by decide +kernel, by decide +kernel, by decide +kernel, by decide +kernel, by decide +kernel⟩ (di_ldm (A := oLn X.K (L.map plL)) L plL (de_eq (de_nc B (nk f2 hr ⟨(W, pl), hg.tri, h5⟩) (da_cons (de_name B 1) (da_cons (de_name B 4) da_nil)) (.inl rfl)) (by show oLn X.K ((nearG W pl).map plL) = _; rw [hne, hL])) rfl) (by omega) rfl fun s0 H0 C cl fp B' c hc =>
    ⟨_, rfl, de_nc B' (nk (X := BY X s0 H0 _ C cl fp) f3 hr ⟨(W, c), hLw c hc⟩) (da_cons (de_name B' 1) (da_cons (de_name B' 6) da_nil)) (.inl rfl)⟩)) ?_
  refine dss_chill 5 rfl ?_
  refine dss_go (env1 := E ro (some (dD X.K due)) (some ((oI CS (fsS X.K CT T pl)).at none)) none none) (ds_set B 7 (de_nc B (nkC mk f0 hS hr ⟨(T, pl), hso⟩ rfl rfl) (da_cons (de_name B 2) (da_cons (de_nc B (nk f3 hr ⟨(W, pl), hnm⟩) (da_cons (de_name B 1) (da_cons (de_name B 4) da_nil)) (.inl rfl)) da_nil)) (.inl (by
    show [_, As.fz (isD X.K (nmsD W.names pl))] = [_, As.fz (isD X.K (nmsD T.ways pl))]
    rw [hTw.tw]; rfl)))) ?_
  refine dss_chill 7 rfl ?_
  let E1 : Ev := E ro (some (dD X.K due)) (some (.fz (isSc X.K CT CS T pl))) none none
  refine dss_go (env1 := E1) (ds_forN B (di_r1 B de_int nb.range (by omega)) (fun _ => E1) (Wk.refl _) (fun i P hP => ⟨_, E ro (some (dD X.K due)) (some (.fz (isSc X.K CT CS T pl))) (some (.fz P)) none, dg_name B 8, ?_⟩) rfl) (dss_end (ds_ret de_bl ⟨rfl, by show _ = some ((oB X.K (sceneF W b 5).1).at (some v)); rw [← hb'], trivial⟩))
  let E2 (t : Option As) : Ev := E ro (some (dD X.K due)) (some (.fz (isSc X.K CT CS T pl))) (some (.fz P)) t
  refine dss_go (env1 := E2 (some (oSs X.K CT CS T L))) (ds_set B 9 (de_if (k := c) (dt_val (de_name B 3)) (fun _ => de_eq (de_nc B (nk f4 hr ⟨(T, pl), hs⟩) (da_cons (de_name B 7) da_nil) (.inl rfl)) (by rw [hL]; rfl)) (fun _ => ?_))) ?_
  · obtain ⟨f, fd, g1, g2, g3, g4⟩ := kwF Fn f4
    exact de_eq (de_kw1 (X := X) B g4 hr g1 g2 (kbinds1 g3 (by intros; rfl)) ⟨(T, pl), hs⟩ (de_name B 7) rfl rfl) (by rw [hL]; rfl)
  have eD : (PyData.list (L.map (nmsD W.names))) = .list (L.map (nmsD T.ways)) := by rw [hTw.tw]
  have hf : (L.filter fun _ => false) = [] := by simp
  have h9 : (frAll (E2 (some (oSs X.K CT CS T L))))[9]? = some (some (As.fz (isL (L.map fun c => isSc X.K CT CS T c)))) := by
    show some (some (As.fz (isL ((L.map fun c => As.fz (isSc X.K CT CS T c)).map As.fr)))) = _
    rw [List.map_map]; rfl
  refine dss_if (env1 := E2 (some (oSs X.K CT CS T L))) (k := false) (dt_thaw fun G' => dt_eq (dt_w (dw_or (dt_not (dt_val (de_nc B (nc_isiP nb (.list []) (t := "list") hasTy_L (by simp)) (da_cons (de_name (P := isL (L.map fun c => isSc X.K CT CS T c)) B 9 (hi := ?_)) (da_cons (de_bty B nb.list) da_nil)) (.inl rfl)))) fun _ => (dw_or (dt_cmp (A := oLn X.K ((L.filter fun _ => false).map fun _ => PyData.none)) (de_lcr (lc1 10 L (fun c => isSc X.K CT CS T c) (fun _ => false) (fun _ => PyData.none) B ⟨by decide +kernel, by decide +kernel, by decide +kernel, by decide +kernel, by decide +kernel⟩ (di_l (de_name (P := isL (L.map fun c => isSc X.K CT CS T c)) B 9 (hi := ?_)) rfl) (by omega) rfl fun s0 H0 C cl fp B' a ha => ⟨dts_one ?_, fun h => (nomatch h)⟩)) (de_lstD dad_nil) (opd_ne (d := .list ((L.filter fun _ => false).map fun _ => PyData.none)) (d' := .list []) hr.units ?_ rfl)) fun _ => dw_or1 (dt_not (dt_val (de_nc B (nkb (f7 3) B hr (some ⟨.list (L.map (nmsD T.ways)), smp_nmss T.ways (by omega) fun c hc => tri_small (hLs c hc).tri⟩)) (da_cons (de_lcr (lc1n 10 L (fun c => isSc X.K CT CS T c) (nmsD T.ways) B ⟨by decide +kernel, by decide +kernel, by decide +kernel, by decide +kernel, by decide +kernel⟩ (di_l (de_name (P := isL (L.map fun c => isSc X.K CT CS T c)) B 9 (hi := ?_)) rfl) (by omega) rfl fun s0 H0 C cl fp B' a ha => ?_)) (da_cons (de_name (P := isD X.K due) B 5) da_nil)) (.inl ?_)))))))
    ?_) (fun h => (nomatch h)) (fun _ => ?_)
  · exact h9
  · exact h9
  · refine dt_eq (dt_w (dw_or (dt_not (dt_val (de_nc B' (nc_b (X := BY X s0 H0 _ C cl fp) (cd_isi si.ty (.own CS) (kit_refl _ (by simp))) nb.isinstance) (da_cons (de_name B' 10) (da_cons (de_glob (v := .ref CS) (P := isV (.ref CS)) B' hS rfl (fun _ => rfl)) da_nil)) (.inl rfl)))) fun _ => dw_or1 (dt_cmp (de_fld (de_name B' 10) sc.cl sc.nt) (de_name B' 2) (opd_neTb (X := BY X s0 H0 _ C cl fp) f5 e5 hr hTw.ts hTw.ts)))) ?_
    rw [tabEq_refl]; rfl
  · rw [hf]; rfl
  · exact h9
  · exact ⟨_, rfl, de_meth0 (de_name B' 10) sc.cl mr (cdb (X := BY X s0 H0 _ C cl fp) f6 B' hr ⟨(T, a), hLs a ha⟩)⟩
  · show [_, As.fz (isD X.K (PyData.list (L.map (nmsD W.names))))] = _
    rw [eD]; rfl
  · rw [hf]; rfl
  · exact dss_end (ds_last (ds_expr (de_insert0 (L := L.map fun c => As.fz (isSc X.K CT CS T c)) (q := none) B 9 de_str (hz := by rw [List.length_map]; omega))) (Drop.wk (by repeat (first | exact Drop.nil | apply Drop.keep | apply Drop.skip))))
end
end K7

set_option maxHeartbeats 4000000
/-! DL23: lists of mixed values, items of such; a slot's very value; defs with try. -/
namespace DL
open PySem PySem.Spec PyProof.Rows L2
section
variable {X : Cx} {N : List Str} {sc : Scope} {ok : Str → Bool} {G : Reg} {env env1 env2 env3 env' : Ev} {A B S R' : As} {P R : FP} {e a b : Expr} {es : List Expr} {pos : Pos} {x : Str} {K : PySem.W.Frag} {κ : Bool}
/-- [e, ..] of any values -/
theorem de_lstA {As' : List As} (h : DA X G env es env1 As') (hz : As'.length ≤ sizeLine := by (try simp only [List.length_cons, List.length_nil, List.length_append]); have := sizeLine_eq; omega) : DE X G env (.List es pos) env1 ((oA As').at none) :=
  de_of (pe_lst cA_pa) fun T σ H hs Q q => h T σ H hs _ fun vs H' hl h' => by
    obtain ⟨HF, o1, o2, h1, t, s⟩ := h'
    obtain ⟨oa, ob, rfl, ta, tb⟩ := Tm.split t
    refine ⟨by rw [hl]; exact hz, fun p hp => q _ _ (StA.ofTop (o := (p, .lst vs) :: oa) (o1 := ob) (o2 := o2) (HF := HF) ?_ ⟨fun _ z => (nomatch z), p, vs, oa, rfl, rfl, hl, ta⟩ tb s)⟩
    have := h1.freshO (o := .lst vs) hp
    simpa only [List.cons_append, List.append_assoc] using this
theorem atI_at {α : Type} {xs : List α} {k : Nat} {a : α} (h : xs[k]? = some a) : atI xs (k : Int) = some a := by
  have hk := (List.getElem?_eq_some_iff.mp h).1
  unfold atI
  rw [K7.ixN_n hk]
  exact h
theorem ixd_L {Ps : List FP} {k : Nat} (h : Ps[k]? = some P) : IxD X (isL Ps) (isD X.K (.int (k : Nat))) (.fz P) :=
  ⟨_, ix_list, fun G T env σ H va vb hs Q q => by
    obtain ⟨HF, o1, o2, h1, ⟨p, xs, e, h2, h3⟩, hb, t, s⟩ := hs.two'
    obtain ⟨v, e1, e2⟩ := All2.get h3 h
    exact ⟨p, xs, (k : Nat), v, e, dpI hb, SqL.of (h1.inH _ _ h2), atI_at e1, q v H ⟨HF, [] ++ o1, o2, h1, .cons (A := .fz P) ⟨rfl, e2⟩ t, s⟩⟩⟩
/-- told with its value -/
def As.pin (v : V) (A : As) : As := ⟨fun H w o => w = v ∧ A.p H w o, fun e h => ⟨h.1, A.mono e h.2⟩, pinV v A.fr, fun e k h => ⟨h.1, A.frz e k h.2⟩⟩
variable {sts : List Stmt} {Pt : Out → Prop}
theorem dss_pin (j : Nat) (hj : env[j]? = some (some A)) (h : ∀ v, DSs X G (env.set j (some (A.pin v))) sts Pt) : DSs X G env sts Pt := fun T σ H st D d => by
  obtain ⟨v, hσ, st1⟩ := st.take hj
  have hl : j < env.length := (List.getElem?_eq_some_iff.mp hj).1
  have st2 := st1.say (B := A.pin v) fun HF o hp => ⟨rfl, hp⟩
  have st3 := st2.back hσ (by rw [List.getElem?_set_self hl])
  rw [List.set_set] at st3
  exact h v T σ H st3 D d
theorem Wk.pinOut {j : Nat} {v : V} (hj : env[j]? = some (some (A.pin v))) : Wk env (env.set j (some (A.at (some v)))) :=
  Wk.say hj fun HF u o h => ⟨fun w z => by cases z; exact h.1, h.2⟩
theorem Wk.pinIn {j : Nat} {v : V} (hj : env[j]? = some (some (A.at (some v)))) : Wk env (env.set j (some (A.pin v))) :=
  Wk.say hj fun HF u o h => ⟨h.1 v rfl, h.2⟩
end
section
variable {P : Program} {w : World} {K : PySem.W.Frag} {mg : Str → Option Value} {base : Heap}
/-- for a def with try -/
theorem fn_okT {ι : Type} {args : ι → List Arg} {ret : ι → As} {x qual : Str} {params : Arguments} {body : List Stmt} {scope : Scope} {f : Addr} {fd : FuncData} {N ps : List Str} {k : Nat}
    (F : FunD K x qual params body scope [] [] f fd) (S : FnScope N ps scope) (hl : ∀ i, (args i).length = ps.length)
    (hb : ∀ (X : Cx), X.prog = P → X.w = w → X.K = K → X.mg = mg → X.base = base → Bx true X N scope (fun _ => true) → Room k X.A → (X.xe = fun _ _ => False) → X.stack = X.env :: X.outer → X.env.frame = some X.env.locals → ∀ (i : ι) (G : Reg) (vs : List V), vs.length = ps.length → DSs X G (env0 (args i) vs N) body (Fin (args i) (ret i) vs)) :
    FnOk P w K mg base CX0 (k + 1) f fd ps (spD args ret) := by
  refine F.ok S (fun vs H Q E h => ?_) (fun cdv A outer s H vs Q E hr h => ?_)
  · obtain ⟨i, _, _, e, _⟩ := h
    rw [e, hl]
  · obtain ⟨i, HF, os, e, h1, h2, hq⟩ := h
    refine ⟨cSs _ _, PSs.nox cSs_pss, ?_⟩
    have hlen : vs.length = ps.length := by rw [e, hl]
    have b := hb (cxOf CX0 P w K mg base N qual scope f cdv A outer s H E).nox rfl rfl rfl rfl rfl ⟨rfl, rfl, S.nd, rfl, PassesOwn.never, by have := hr.un; show (A.deeper (envOfC qual scope s.heap.objs.size f cdv)).units + 100 < _; omega, fun _ => hr.hd, fun _ _ _ => .inl rfl⟩ hr rfl rfl rfl i ⟨HF, H, os.map (·.1)⟩ vs hlen
    refine b [] (L2.start N vs) H ⟨HF, [], os, h1, .nil, ?_⟩ _ ⟨fun env σ' H' p hs => ?_, fun env A' v σ' H' p hs => ?_, fun _ _ _ p => p.elim, fun _ _ _ p => p.elim⟩
    · exact sl_ents e h2 _
    · obtain ⟨p1, p2⟩ := p
      obtain ⟨HF', o1, o2, k1, k2, k3⟩ := hs
      cases k2
      obtain ⟨oa, ob, pm, t⟩ := tm_lent (HF0 := HF) k1.sub e p2 k3 h2
      refine hq .non H' HF' [] oa ?_ (p1 HF') t
      have k4 : Held _ HF' (ob ++ oa) H' := k1.perm (pm.trans List.perm_append_comm)
      exact k4.drop
    · obtain ⟨rfl, p2⟩ := p
      obtain ⟨HF', o, o1, o2, k1, ka, k2, k3⟩ := hs.top
      cases k2
      obtain ⟨oa, ob, pm, t⟩ := tm_lent (HF0 := HF) k1.sub e p2 k3 h2
      refine hq v H' HF' o oa ?_ ka t
      have k4 : Held _ HF' (ob ++ (o ++ oa)) H' := k1.perm (by
        refine (List.Perm.append_left o pm).trans ?_
        rw [← List.append_assoc]
        exact List.perm_append_comm)
      exact k4.drop
end
end DL
namespace K7
open PySem PySem.Spec PyProof.Rows L2 DL Hd
theorem fkt {M : Md} {x : Str} {st : Stmt} {N ps : List Str} {k : Nat} {ι : Type} {args : ι → List DL.Arg} {ret : ι → As} (F : FnD M x st ps) (S : FnScope N ps (defScope st)) (hl : ∀ i, (args i).length = ps.length)
    (hb : ∀ (X : Cx), mdOf X = M → Bx true X N (defScope st) (fun _ => true) → Room k X.A → X.stack = X.env :: X.outer → X.env.frame = some X.env.locals → ∀ (i : ι) (G : Reg) (vs : List V), vs.length = ps.length → DSs X G (env0 (args i) vs N) (defBody st) (Fin (args i) (ret i) vs)) : FK M x (k + 1) ps args ret := by
  obtain ⟨f, fd, h1, h2, h3⟩ := F
  refine ⟨f, fd, h1, h3.kp, h2, fn_okT (P := M.P) (w := M.w) (K := M.K) (mg := M.mg) (base := M.base) h3 S hl fun X e1 e2 e3 e4 e5 B hr _ q1 q2 i G vs hv => hb X ?_ B hr q1 q2 i G vs hv, fdAt_of h3⟩
  obtain ⟨P, w, K, mg, base⟩ := M
  simp only at e1 e2 e3 e4 e5
  subst e1 e2 e3 e4 e5
  rfl
end K7

set_option maxHeartbeats 4000000
/-! K37: _law_refused, its parts: the table that stands alone, the turns' suites. -/
namespace K7
open PySem PySem.Spec PyProof.Rows L2 DL Hd
/-! ### a table of one way -/
def alT : Tab := tabOf ["zz"] [0] [(0, 0, 0)]
def alP (n : Nat) : Pl := (List.range n).map fun i => List.replicate i 0
theorem al_tn : TnOk ["zz"] [0] [(0, 0, 0)] where
  ok := ⟨rfl, by decide, by decide, by decide⟩
  wo := ⟨by decide, by decide, by decide +kernel, by decide, by decide⟩
  inn := fun x hx => by
    rw [List.mem_singleton.mp hx]
    exact ⟨by decide, by decide, by decide⟩
  sz := by decide
theorem al_ok : TOk alT := ⟨al_tn.ok, sq_folds ⟨by decide, by decide⟩ _ _ (sq_zero _) al_tn.inn⟩
theorem al_s : TabS alT := fun z hz => by
  have : z = "zz" := by simpa [alT, tabOf] using hz
  subst this
  exact strOk_word (by decide +kernel)
theorem al_pg (n i j : Nat) : pg (alP n) i j = 0 := by
  unfold pg alP
  rw [List.getD_eq_getElem?_getD, List.getD_eq_getElem?_getD, List.getElem?_map]
  cases h : (List.range n)[i]? with
  | none => simp
  | some m =>
    simp only [Option.map_some, Option.getD_some]
    rw [List.getElem?_replicate]
    split <;> rfl
theorem al_tri {n : Nat} (h : n ≤ 12) : Tri 1 (alP n) where
  len := fun i row hr => by
    unfold alP at hr
    rw [List.getElem?_map, Option.map_eq_some_iff] at hr
    obtain ⟨m, hm, rfl⟩ := hr
    obtain ⟨h1, h2⟩ := List.getElem?_eq_some_iff.mp hm
    rw [List.getElem_range] at h2
    rw [List.length_replicate, h2]
  lt := fun row hr k hk => by
    obtain ⟨m, _, rfl⟩ := List.mem_map.mp hr
    have := List.eq_of_mem_replicate hk
    omega
  sz := by unfold alP; rw [List.length_map, List.length_range]; exact h
theorem al_so {n : Nat} (h : n ≤ 12) : SnOk alT (alP n) := by
  refine ⟨⟨al_ok, al_tri h⟩, ?_⟩
  unfold letAll
  refine List.all_eq_true.mpr fun b hb => ?_
  simp only [List.mem_flatMap, List.mem_map] at hb
  obtain ⟨i, _, j, _, k, _, rfl⟩ := hb
  show letB alT.masks (alP n) i j k = true
  unfold letB
  rw [al_pg, al_pg, al_pg]
  show (mxGet (masksL [0] [(0, 0, 0)]) 0 0).testBit 0 = true
  rw [masks_bit ⟨by decide, by decide⟩ al_tn.inn]
  decide
theorem al_nm (n : Nat) : nmsD ["zz"] (alP n) = .list ((List.range n).map fun i => .list (List.replicate i (.str "zz"))) := by
  unfold nmsD alP
  rw [List.map_map]
  congr 1
  refine List.map_congr_left fun i _ => ?_
  show nmD ["zz"] (List.replicate i 0) = _
  unfold nmD
  rw [List.map_replicate]
  rfl
/-! ### the turns -/
/-- what classes are to one another -/
structure KitF (K : PySem.W.Frag) (CT CS : Addr) : Prop where
  s : ∀ t : String, t ∈ ["NoneType", "bool", "int", "str", "list", "tuple", "dict"] → PySem.W.kitOne K (.type t) (.ref CS) = some false
  t : ∀ t : String, t ∈ ["NoneType", "bool", "int", "str", "list", "tuple", "dict"] → PySem.W.kitOne K (.type t) (.ref CT) = some false
  ts : PySem.W.kitOne K (.ref CT) (.ref CS) = some false
  tl : PySem.W.kitOne K (.ref CT) (.type "list") = some false
  sl : PySem.W.kitOne K (.ref CS) (.type "list") = some false
theorem tyD_in (d : PyData) : tyD d ∈ ["NoneType", "bool", "int", "str", "list", "tuple", "dict"] := by
  cases d <;> simp [tyD]
abbrev rfN : List Str := ["box", "world", "table", "scene", "many", "alone", "bad", "value", "i", "given", "e"]
def rfBody : List Stmt := match (defBody (topS 71)).getD 2 (.Pass ⟨0, 0, 0, 0⟩) with
  | .For _ _ b _ _ => b
  | _ => []
def rfSuite : List Stmt := match rfBody.getD 2 (.Pass ⟨0, 0, 0, 0⟩) with
  | .Try _ [.ExceptHandler _ _ s _] _ _ _ => s
  | _ => []
theorem sc__law_refused : FnScope rfN ["box", "world", "table", "scene", "many"] (defScope (topS 71)) := ⟨rfl, rfl, rfl, by decide +kernel, rfl, by decide +kernel, by decide +kernel⟩
/-- the slots in a turn -/
abbrev Rf (bx wo ta sce mn al bd va gi ex : Option As) : Ev := [bx, wo, ta, sce, mn, al, bd, va, none, gi, ex]
section
variable {M : Md} (nb : NoB M.mg) {CT CS CI fI fr : Addr} (sc : ScF M.K CS) (si : InsF M.K CS) (ti : InsF M.K CT) (kf : KitF M.K CT CS) (gv : PySem.GvX.GvT "given" M.K M.mg "InvalidOther" CI fI)
variable (hS : M.mg "Scene" = some (.ref CS)) (hT : M.mg "Table" = some (.ref CT)) (mr : Meth M.K CS "rows" fr)
variable (f6 : FMB M fr 2 ["self"] (srArgs M CT CS) (fun i => oLn M.K (i.1.2.map (nmD i.1.1.ways)))) (f7 : ∀ n, FB M "_law_same" (n + 1) ["told", "due"] (smArgs M n) (fun _ => dD M.K (.bool true)))
variable {X : Cx} {G : Reg} {bx wo ta sce mn al bd va : Option As} {a dd : Addr} {oe : Obj} {pn : List (Addr × Obj)} {v : V} {Pt : Out → Prop}
include nb hS kf hT gv f7 in
/-- data that are no list -/
theorem suite_d (hm : mdOf X = M) (hr : Room 6 X.A) (hz : L2N.Zn (.ref CI) (some dd) oe) (hf : ∃ vs, oe.data = .fields vs) (B : Bx false (X.suite a ((a, oe) :: pn)) rfN (defScope (topS 71)) (fun _ => true))
    {n : Nat} (hn : n ≤ 4) (i : Option { d : PyData // Smp n d }) (d : PyData) (hd : HasTy X.K (smP M i) (.type (tyD d))) (hl : tyOk d "list" = false) (hP : Pt (.nx (Rf bx wo ta sce mn al bd va (some (.fz (pinV v (smP M i)))) (some (.fz (isEx a dd v)))))) :
    DSs (X.suite a ((a, oe) :: pn)) G (Rf bx wo ta sce mn al bd va (some (.fz (pinV v (smP M i)))) (some (.fz (isEx a dd v)))) rfSuite Pt := by
  subst hm
  let Y := X.suite a ((a, oe) :: pn)
  have hrX := L2H.roomH_of hr
  have hrY : RoomB false 6 Y.A := (⟨hrX.dp, hrX.un⟩ : L2H.RoomH 6 Y.A)
  let E := Rf bx wo ta sce mn al bd va (some (.fz (pinV v (smP (mdOf X) i)))) (some (.fz (isEx a dd v)))
  have hp : HasTy Y.K (pinV v (smP (mdOf X) i)) (.type (tyD d)) := hasTy_pin hd
  have isS : ∀ {p1 p2 p3 pos : Pos}, DE Y G E (.Call (.Name "isinstance" p1) [.Name "given" p2, .Name "Scene" p3] [] pos) E (dD Y.K (.bool false)) := fun {p1 p2 p3 pos} =>
    de_nc B (nc_b (X := Y) (cd_isi hp (.own CS) (kf.s _ (tyD_in d))) nb.isinstance) (da_cons (de_name (P := pinV v (smP (mdOf X) i)) B 9) (da_cons (de_glob (v := .ref CS) (P := isV (.ref CS)) B hS rfl (fun _ => rfl)) da_nil)) (.inl rfl)
  have isT : ∀ {p1 p2 p3 pos : Pos}, DE Y G E (.Call (.Name "isinstance" p1) [.Name "given" p2, .Name "Table" p3] [] pos) E (dD Y.K (.bool false)) := fun {p1 p2 p3 pos} =>
    de_nc B (nc_b (X := Y) (cd_isi hp (.own CT) (kf.t _ (tyD_in d))) nb.isinstance) (da_cons (de_name (P := pinV v (smP (mdOf X) i)) B 9) (da_cons (de_glob (v := .ref CT) (P := isV (.ref CT)) B hT rfl (fun _ => rfl)) da_nil)) (.inl rfl)
  refine dss_if (X := Y) (env1 := E) (k := false) (dt_val (de_eq (de_nc B (nc_isiP (X := Y) nb d (t := "list") hp (by simp)) (da_cons (de_name (P := pinV v (smP (mdOf X) i)) B 9) (da_cons (de_bty B nb.list) da_nil)) (.inl rfl)) (by rw [hl]))) (fun h => (nomatch h)) (fun _ => ?_)
  refine dss_if (X := Y) (env1 := E) (k := false) (dt_w (dw_and (k := false) (k' := false) (dt_val isS) fun h => (nomatch h))) (fun h => (nomatch h)) (fun _ => ?_)
  refine dss_end (ds_if (X := Y) (env1 := E) (k := false) (dt_eq (dt_w (dw_and (dt_not (dt_val isS)) fun _ => dw_and (dt_not (dt_val isT)) fun _ => dw_and1 (dt_not (dt_val (de_nc B (nkb (X := Y) (f7 n) B hrY i) (da_cons (de_given gv hz hf B 10 9) (da_cons (de_unpin (de_name (P := pinV v (smP (mdOf X) i)) B 9)) da_nil)) (.inl rfl)))))) rfl) (fun h => (nomatch h)) (fun _ => dss_nil hP))
include nb hS kf hT gv f7 in
/-- a list of one's own -/
theorem suite_l (hm : mdOf X = M) (hr : Room 6 X.A) (hz : L2N.Zn (.ref CI) (some dd) oe) (hf : ∃ vs, oe.data = .fields vs) (B : Bx false (X.suite a ((a, oe) :: pn)) rfN (defScope (topS 71)) (fun _ => true))
    (hP : Pt (.nx (Rf bx wo ta sce mn al bd va (some ((oL X.K [.list [], .str "more"]).pin v)) (some (.fz (isEx a dd v)))))) :
    DSs (X.suite a ((a, oe) :: pn)) G (Rf bx wo ta sce mn al bd va (some ((oL X.K [.list []]).pin v)) (some (.fz (isEx a dd v)))) rfSuite Pt := by
  subst hm
  let Y := X.suite a ((a, oe) :: pn)
  have hrX := L2H.roomH_of hr
  have hrY : RoomB false 6 Y.A := (⟨hrX.dp, hrX.un⟩ : L2H.RoomH 6 Y.A)
  let E (A : As) : Ev := Rf bx wo ta sce mn al bd va (some A) (some (.fz (isEx a dd v)))
  let F1 : Ev := frAll (E ((oL X.K [.list []]).pin v))
  let F2 : Ev := frAll (E ((oL X.K [.list [], .str "more"]).pin v))
  have hp : HasTy Y.K (pinV v (isD X.K (.list [.list [], .str "more"]))) (.type (tyD (.list []))) := hasTy_pin (hasTy_d _)
  have hp1 : HasTy Y.K (pinV v (isD X.K (.list [.list []]))) (.type (tyD (.list []))) := hasTy_pin (hasTy_d _)
  have isS : ∀ {G : Reg} {p1 p2 p3 pos : Pos}, DE Y G F2 (.Call (.Name "isinstance" p1) [.Name "given" p2, .Name "Scene" p3] [] pos) F2 (dD Y.K (.bool false)) := fun {G p1 p2 p3 pos} =>
    de_nc B (nc_b (X := Y) (cd_isi hp (.own CS) (kf.s _ (tyD_in _))) nb.isinstance) (da_cons (de_name (P := pinV v (isD X.K (.list [.list [], .str "more"]))) B 9) (da_cons (de_glob (v := .ref CS) (P := isV (.ref CS)) B hS rfl (fun _ => rfl)) da_nil)) (.inl rfl)
  have isT : ∀ {G : Reg} {p1 p2 p3 pos : Pos}, DE Y G F2 (.Call (.Name "isinstance" p1) [.Name "given" p2, .Name "Table" p3] [] pos) F2 (dD Y.K (.bool false)) := fun {G p1 p2 p3 pos} =>
    de_nc B (nc_b (X := Y) (cd_isi hp (.own CT) (kf.t _ (tyD_in _))) nb.isinstance) (da_cons (de_name (P := pinV v (isD X.K (.list [.list [], .str "more"]))) B 9) (da_cons (de_glob (v := .ref CT) (P := isV (.ref CT)) B hT rfl (fun _ => rfl)) da_nil)) (.inl rfl)
  have w1 : Wk (E ((oL X.K [.list []]).pin v)) (E ((oL X.K [.list []]).at (some v))) := Wk.pinOut (j := 9) rfl
  have w2 : Wk (E ((oL X.K [.list [], .str "more"]).at (some v))) (E ((oL X.K [.list [], .str "more"]).pin v)) := Wk.pinIn (j := 9) rfl
  refine dss_go (X := Y) (env1 := E ((oL X.K [.list [], .str "more"]).at (some v))) (ds_if (env1 := E ((oL X.K [.list []]).pin v)) (k := true) (dt_thaw fun G' => dt_val (de_nc B (nc_isiP (X := Y) nb (.list []) (t := "list") hp1 (by simp)) (da_cons (de_name (P := pinV v (isD X.K (.list [.list []]))) B 9) (da_cons (de_bty B nb.list) da_nil)) (.inl rfl))) (fun _ => dss_wk w1 (dss_end (ds_expr (A := dD X.K .none) ?_))) (fun h => (nomatch h))) ?_
  · exact de_append (X := Y) (q := some v) (ds := [.list []]) (d := .str "more") B 9 de_str rfl (hz := by decide)
  refine dss_wk w2 ?_
  refine dss_if (X := Y) (env1 := E ((oL X.K [.list [], .str "more"]).pin v)) (k := false) (dt_thaw fun G' => dt_w (dw_and (k := false) (k' := false) (dt_val isS) fun h => (nomatch h))) (fun h => (nomatch h)) (fun _ => ?_)
  refine dss_end (ds_if (X := Y) (env1 := E ((oL X.K [.list [], .str "more"]).pin v)) (k := false) (dt_thaw fun G' => dt_eq (dt_w (dw_and (dt_not (dt_val isS)) fun _ => dw_and (dt_not (dt_val isT)) fun _ => dw_and1 (dt_not (dt_val (de_nc B (nkb (X := Y) (f7 2) B hrY (some ⟨.list [.list [], .str "more"], .inr ⟨false, _, rfl, by decide, fun x hx => ?_⟩⟩)) (da_cons (de_given gv hz hf B 10 9) (da_cons (de_unpin (de_name (P := pinV v (isD X.K (.list [.list [], .str "more"]))) B 9)) da_nil)) (.inl rfl)))))) rfl) (fun h => (nomatch h)) (fun _ => dss_nil hP))
  rcases List.mem_cons.mp hx with rfl | hx
  · exact .inr ⟨false, [], rfl, by decide, fun _ z => by cases z⟩
  · rw [List.mem_singleton.mp hx]; exact .inl rfl
include nb hS kf hT ti in
/-- a table -/
theorem suite_t (hm : mdOf X = M) {T : Tab} (B : Bx false (X.suite a ((a, oe) :: pn)) rfN (defScope (topS 71)) (fun _ => true))
    (hP : Pt (.nx (Rf bx wo ta sce mn al bd va (some (.fz (pinV v (isTb X.K CT T)))) (some (.fz (isEx a dd v)))))) :
    DSs (X.suite a ((a, oe) :: pn)) G (Rf bx wo ta sce mn al bd va (some (.fz (pinV v (isTb X.K CT T)))) (some (.fz (isEx a dd v)))) rfSuite Pt := by
  subst hm
  let Y := X.suite a ((a, oe) :: pn)
  let E := Rf bx wo ta sce mn al bd va (some (.fz (pinV v (isTb X.K CT T)))) (some (.fz (isEx a dd v)))
  have hp : HasTy Y.K (pinV v (isTb X.K CT T)) (.ref CT) := hasTy_pin ti.ty
  have isS : ∀ {p1 p2 p3 pos : Pos}, DE Y G E (.Call (.Name "isinstance" p1) [.Name "given" p2, .Name "Scene" p3] [] pos) E (dD Y.K (.bool false)) := fun {p1 p2 p3 pos} =>
    de_nc B (nc_b (X := Y) (cd_isi hp (.own CS) kf.ts) nb.isinstance) (da_cons (de_name (P := pinV v (isTb X.K CT T)) B 9) (da_cons (de_glob (v := .ref CS) (P := isV (.ref CS)) B hS rfl (fun _ => rfl)) da_nil)) (.inl rfl)
  have isT : ∀ {p1 p2 p3 pos : Pos}, DE Y G E (.Call (.Name "isinstance" p1) [.Name "given" p2, .Name "Table" p3] [] pos) E (dD Y.K (.bool true)) := fun {p1 p2 p3 pos} =>
    de_nc B (nc_b (X := Y) (cd_isi hp (.own CT) (kit_refl _ (by simp))) nb.isinstance) (da_cons (de_name (P := pinV v (isTb X.K CT T)) B 9) (da_cons (de_glob (v := .ref CT) (P := isV (.ref CT)) B hT rfl (fun _ => rfl)) da_nil)) (.inl rfl)
  refine dss_if (X := Y) (env1 := E) (k := false) (dt_val (de_nc B (nc_b (X := Y) (cd_isi hp (.ty "list") kf.tl) nb.isinstance) (da_cons (de_name (P := pinV v (isTb X.K CT T)) B 9) (da_cons (de_bty B nb.list) da_nil)) (.inl rfl))) (fun h => (nomatch h)) (fun _ => ?_)
  refine dss_if (X := Y) (env1 := E) (k := false) (dt_w (dw_and (k := false) (k' := false) (dt_val isS) fun h => (nomatch h))) (fun h => (nomatch h)) (fun _ => ?_)
  refine dss_end (ds_if (X := Y) (env1 := E) (k := false) (dt_eq (dt_w (dw_and (dt_not (dt_val isS)) fun _ => dw_and (k' := false) (dt_not (dt_val isT)) fun h => (nomatch h))) rfl) (fun h => (nomatch h)) (fun _ => dss_nil hP))
include nb hS kf si mr sc f6 gv f7 in
/-- a scene -/
theorem suite_s (hm : mdOf X = M) (hr : Room 6 X.A) {T : Tab} {pl : Pl} (hs : SOk T pl) (hz : L2N.Zn (.ref CI) (some dd) oe) (hf : ∃ vs, oe.data = .fields vs) (B : Bx false (X.suite a ((a, oe) :: pn)) rfN (defScope (topS 71)) (fun _ => true))
    (hP : Pt (.nx (Rf bx wo ta sce mn al bd va (some (.fz (pinV v (isSc X.K CT CS T pl)))) (some (.fz (isEx a dd v)))))) :
    DSs (X.suite a ((a, oe) :: pn)) G (Rf bx wo ta sce mn al bd va (some (.fz (pinV v (isSc X.K CT CS T pl)))) (some (.fz (isEx a dd v)))) rfSuite Pt := by
  subst hm
  let Y := X.suite a ((a, oe) :: pn)
  have hrX := L2H.roomH_of hr
  have hrY : RoomB false 6 Y.A := (⟨hrX.dp, hrX.un⟩ : L2H.RoomH 6 Y.A)
  let E := Rf bx wo ta sce mn al bd va (some (.fz (pinV v (isSc X.K CT CS T pl)))) (some (.fz (isEx a dd v)))
  have hp : HasTy Y.K (pinV v (isSc X.K CT CS T pl)) (.ref CS) := hasTy_pin si.ty
  have isS : ∀ {p1 p2 p3 pos : Pos}, DE Y G E (.Call (.Name "isinstance" p1) [.Name "given" p2, .Name "Scene" p3] [] pos) E (dD Y.K (.bool true)) := fun {p1 p2 p3 pos} =>
    de_nc B (nc_b (X := Y) (cd_isi hp (.own CS) (kit_refl _ (by simp))) nb.isinstance) (da_cons (de_name (P := pinV v (isSc X.K CT CS T pl)) B 9) (da_cons (de_glob (v := .ref CS) (P := isV (.ref CS)) B hS rfl (fun _ => rfl)) da_nil)) (.inl rfl)
  have hq : HasTy Y.K (isSc X.K CT CS T pl) (.ref CS) := si.ty
  refine dss_if (X := Y) (env1 := E) (k := false) (dt_val (de_nc B (nc_b (X := Y) (cd_isi hp (.ty "list") kf.sl) nb.isinstance) (da_cons (de_name (P := pinV v (isSc X.K CT CS T pl)) B 9) (da_cons (de_bty B nb.list) da_nil)) (.inl rfl))) (fun h => (nomatch h)) (fun _ => ?_)
  refine dss_if (X := Y) (env1 := E) (k := false) (dt_eq (dt_w (dw_and (dt_val isS) fun _ => dw_and1 (dt_w (dw_or (dt_not (dt_val (de_nc B (nc_b (X := Y) (cd_isi hq (.own CS) (kit_refl _ (by simp))) nb.isinstance) (da_cons (de_given gv hz hf B 10 9) (da_cons (de_glob (v := .ref CS) (P := isV (.ref CS)) B hS rfl (fun _ => rfl)) da_nil)) (.inl rfl)))) fun _ => dw_or1 (dt_not (dt_val (de_nc B (nkb (X := Y) (f7 2) B hrY (some ⟨nmsD T.ways pl, smp_nms T.ways (tri_small hs.tri).1 (tri_small hs.tri).2⟩)) (da_cons (de_meth0 (de_given gv hz hf B 10 9) sc.cl mr (cdb (X := Y) f6 B hrY ⟨(T, pl), hs⟩)) (da_cons (de_meth0 (de_unpin (de_name (P := pinV v (isSc X.K CT CS T pl)) B 9)) sc.cl mr (cdb (X := Y) f6 B hrY ⟨(T, pl), hs⟩)) da_nil)) (.inl rfl)))))))) rfl) (fun h => (nomatch h)) (fun _ => ?_)
  refine dss_end (ds_if (X := Y) (env1 := E) (k := false) (dt_w (dw_and (k := false) (k' := false) (dt_eq (dt_not (dt_val isS)) rfl) fun h => (nomatch h))) (fun h => (nomatch h)) (fun _ => dss_nil hP))
end
end K7

set_option maxHeartbeats 4000000
/-! K38: _law_refused: the turns. -/
namespace K7
open PySem PySem.Spec PyProof.Rows L2 DL Hd
section
variable {M : Md} (nb : NoB M.mg) {CT CS CI fI fr fe fl : Addr} (sc : ScF M.K CS) (si : InsF M.K CS) (ti : InsF M.K CT) (kf : KitF M.K CT CS) (gv : PySem.GvX.GvT "given" M.K M.mg "InvalidOther" CI fI)
variable (hS : M.mg "Scene" = some (.ref CS)) (hT : M.mg "Table" = some (.ref CT)) (mr : Meth M.K CS "rows" fr)
variable (f6 : FMB M fr 2 ["self"] (srArgs M CT CS) (fun i => oLn M.K (i.1.2.map (nmD i.1.1.ways)))) (f7 : ∀ n, FB M "_law_same" (n + 1) ["told", "due"] (smArgs M n) (fun _ => dD M.K (.bool true)))
variable (fx : FX M "steps" 4 ["one", "other"] (cxArgs M CT CS) CI (cxVal M CT CS))
variable (f5 : FM M fe 1 ["self", "other"] (teArgs M CT) (fun i => dD M.K (.bool (tabEq i.1.1 i.1.2)))) (e5 : EqF M.K CT fe) (f8 : FM M fl 1 ["self"] (slArgs M CT CS) (fun i => dD M.K (nD i.2.length))) (e8 : LnF M.K CS fl)
variable {X : Cx} {G : Reg} {bx wo al bd va : Option As} {T : Tab} {pl : Pl} {v : V} {Pt : Out → Prop}
def rfTry : Stmt := rfBody.getD 2 (.Pass ⟨0, 0, 0, 0⟩)
include gv fx in
theorem try_ (hm : mdOf X = M) (B : Bx true X rfN (defScope (topS 71)) (fun _ => true)) (hr : Room 6 X.A) (hst : X.stack = X.env :: X.outer) (hfr : X.env.frame = some X.env.locals) {ta mn : Option As} {Ag : As} {P : FP} (hA : Ag.fr = pinV v P) (hb : BadO X.K CT CS T pl P)
    (hsu : ∀ (a dd : Addr) (oe : Obj) (pn : List (Addr × Obj)), L2N.Zn (.ref CI) (some dd) oe → (∃ vs, oe.data = .fields vs) → Bx false (X.suite a ((a, oe) :: pn)) rfN (defScope (topS 71)) (fun _ => true) → DSs (X.suite a ((a, oe) :: pn)) G (Rf bx wo ta (some (.fz (isSc X.K CT CS T pl))) mn al bd va (some Ag) (some (.fz (isEx a dd v)))) rfSuite (Sut 10 Pt)) :
    DS X G (Rf bx wo ta (some (.fz (isSc X.K CT CS T pl))) mn al bd va (some Ag) none) rfTry Pt := by
  subst hm
  let E : Ev := Rf bx wo ta (some (.fz (isSc X.K CT CS T pl))) mn al bd va (some Ag) none
  have h9 : (frAll E)[9]? = some (some (.fz (pinV v P))) := by
    show some (some (As.fz Ag.fr)) = _
    rw [hA]
  exact ds_try (pos3 := ⟨0, 0, 0, 0⟩) (i := 10) (env1 := frAll E) (As' := [.fz (isSc X.K CT CS T pl), .fz (pinV v P)]) B hst hfr fx (hr.mono (by omega)) gv ⟨((T, pl), v, P), hb⟩ (fun pn xe B' G' => da_cons (de_name (P := isSc X.K CT CS T pl) B' 3) (da_cons (de_name (P := pinV v P) B' 9 (hi := h9)) da_nil)) (.inr rfl) hsu
theorem Wk.fzPin {env : Ev} {j : Nat} {P : FP} (hj : env[j]? = some (some ((As.fz P).pin v))) : Wk env (env.set j (some (.fz (pinV v P)))) :=
  Wk.say hj fun HF u o h => ⟨h.2.1, h.1, h.2.2⟩
abbrev Rg (bx wo al bd : Option As) (X : Cx) (CT CS : Addr) (T : Tab) (pl : Pl) (va gi ex : Option As) : Ev := Rf bx wo (some (.fz (isTb X.K CT T))) (some (.fz (isSc X.K CT CS T pl))) (some (dD X.K (nD pl.length))) al bd va gi ex
include nb gv fx hS hT kf f7 in
/-- data that are no list -/
theorem turn_d (hm : mdOf X = M) (B : Bx true X rfN (defScope (topS 71)) (fun _ => true)) (hr : Room 6 X.A) (hst : X.stack = X.env :: X.outer) (hfr : X.env.frame = some X.env.locals)
    {n : Nat} (hn : n ≤ 4) (i : Option { d : PyData // Smp n d }) (d : PyData) (hd : HasTy X.K (smP M i) (.type (tyD d))) (hl : tyOk d "list" = false) :
    DSs X G (Rg bx wo al bd X CT CS T pl (some (.fz (smP M i))) none none) rfBody (LpW (Rg bx wo al bd X CT CS T pl none none none) Pt) := by
  subst hm
  let E (gi : Option As) : Ev := Rg bx wo al bd X CT CS T pl (some (.fz (smP (mdOf X) i))) gi none
  refine dss_if (env1 := E none) (k := false) (dt_w (dw_and (k := false) (k' := false) (dt_val (de_nc B (nc_b (cd_isi hd (.own CS) (kf.s _ (tyD_in d))) nb.isinstance) (da_cons (de_name (P := smP (mdOf X) i) B 7) (da_cons (de_glob (v := .ref CS) (P := isV (.ref CS)) B hS rfl (fun _ => rfl)) da_nil)) (.inl rfl))) fun h => (nomatch h))) (fun h => (nomatch h)) (fun _ => ?_)
  refine dss_go (env1 := E (some (.fz (smP (mdOf X) i)))) (ds_set B 9 (de_if (k := false) (dt_val (de_eq (de_nc B (nc_isiP nb d (t := "list") hd (by simp)) (da_cons (de_name (P := smP (mdOf X) i) B 7) (da_cons (de_bty B nb.list) da_nil)) (.inl rfl)) (by rw [hl]))) (fun h => (nomatch h)) (fun _ => de_name B 7))) ?_
  refine dss_pin 9 rfl fun v => dss_wk (Wk.fzPin (j := 9) rfl) ?_
  refine dss_end (try_ gv fx rfl B hr hst hfr (P := smP (mdOf X) i) rfl (.ty hd (kf.s _ (tyD_in d))) fun a dd oe pn hz hf B' => ?_)
  exact suite_d nb kf gv hS hT f7 rfl hr hz hf B' hn i d hd hl (Drop.wk (by repeat (first | exact Drop.nil | apply Drop.keep | apply Drop.skip)))
include nb gv fx hS hT kf f7 in
/-- the list [[]] -/
theorem turn_l (hm : mdOf X = M) (B : Bx true X rfN (defScope (topS 71)) (fun _ => true)) (hr : Room 6 X.A) (hst : X.stack = X.env :: X.outer) (hfr : X.env.frame = some X.env.locals) :
    DSs X G (Rg bx wo al bd X CT CS T pl (some (dD X.K (.list [.list []]))) none none) rfBody (LpW (Rg bx wo al bd X CT CS T pl none none none) Pt) := by
  subst hm
  let d : PyData := .list [.list []]
  have hd : HasTy X.K (isD X.K d) (.type (tyD d)) := hasTy_d d
  let E (gi : Option As) : Ev := Rg bx wo al bd X CT CS T pl (some (dD X.K d)) gi none
  refine dss_if (env1 := E none) (k := false) (dt_w (dw_and (k := false) (k' := false) (dt_val (de_nc B (nc_b (cd_isi hd (.own CS) (kf.s _ (tyD_in d))) nb.isinstance) (da_cons (de_name (P := isD X.K d) B 7) (da_cons (de_glob (v := .ref CS) (P := isV (.ref CS)) B hS rfl (fun _ => rfl)) da_nil)) (.inl rfl))) fun h => (nomatch h))) (fun h => (nomatch h)) (fun _ => ?_)
  refine dss_go (env1 := E (some (oLn X.K [.list []]))) (ds_set B 9 (de_if (k := true) (dt_val (de_nc B (nc_isi nb (d := d) (t := "list") (by simp)) (da_cons (de_name (P := isD X.K d) B 7) (da_cons (de_bty B nb.list) da_nil)) (.inl rfl))) (fun _ => de_nc B (nc_t (cd_listL (ds := [.list []])) nb.list) (da_cons (de_name (P := isD X.K d) B 7) da_nil) (.inl rfl)) (fun h => (nomatch h)))) ?_
  refine dss_wk (env1 := E (some (oL X.K [.list []]))) (Wk.say (i := 9) rfl fun HF u o h => h.2) ?_
  refine dss_pin 9 rfl fun v => ?_
  refine dss_end (try_ gv fx rfl B hr hst hfr (Ag := (oL X.K [.list []]).pin v) (P := isD X.K d) rfl (.ty hd (kf.s _ (tyD_in d))) fun a dd oe pn hz hf B' => ?_)
  exact suite_l nb kf gv hS hT f7 rfl hr hz hf B' (Drop.wk (by repeat (first | exact Drop.nil | apply Drop.keep | apply Drop.skip)))
include nb gv fx hS hT kf ti in
/-- a table -/
theorem turn_t (hm : mdOf X = M) (B : Bx true X rfN (defScope (topS 71)) (fun _ => true)) (hr : Room 6 X.A) (hst : X.stack = X.env :: X.outer) (hfr : X.env.frame = some X.env.locals) {T' : Tab} :
    DSs X G (Rg bx wo al bd X CT CS T pl (some (.fz (isTb X.K CT T'))) none none) rfBody (LpW (Rg bx wo al bd X CT CS T pl none none none) Pt) := by
  subst hm
  have hd : HasTy X.K (isTb X.K CT T') (.ref CT) := ti.ty
  let E (gi : Option As) : Ev := Rg bx wo al bd X CT CS T pl (some (.fz (isTb X.K CT T'))) gi none
  refine dss_if (env1 := E none) (k := false) (dt_w (dw_and (k := false) (k' := false) (dt_val (de_nc B (nc_b (cd_isi hd (.own CS) kf.ts) nb.isinstance) (da_cons (de_name (P := isTb X.K CT T') B 7) (da_cons (de_glob (v := .ref CS) (P := isV (.ref CS)) B hS rfl (fun _ => rfl)) da_nil)) (.inl rfl))) fun h => (nomatch h))) (fun h => (nomatch h)) (fun _ => ?_)
  refine dss_go (env1 := E (some (.fz (isTb X.K CT T')))) (ds_set B 9 (de_if (k := false) (dt_val (de_nc B (nc_b (cd_isi hd (.ty "list") kf.tl) nb.isinstance) (da_cons (de_name (P := isTb X.K CT T') B 7) (da_cons (de_bty B nb.list) da_nil)) (.inl rfl))) (fun h => (nomatch h)) (fun _ => de_name B 7))) ?_
  refine dss_pin 9 rfl fun v => dss_wk (Wk.fzPin (j := 9) rfl) ?_
  refine dss_end (try_ gv fx rfl B hr hst hfr (P := isTb X.K CT T') rfl (.ty hd kf.ts) fun a dd oe pn hz hf B' => ?_)
  exact suite_t nb ti kf hS hT rfl B' (Drop.wk (by repeat (first | exact Drop.nil | apply Drop.keep | apply Drop.skip)))
include nb gv fx hS kf si sc mr f6 f7 f5 e5 f8 e8 in
/-- a scene -/
theorem turn_s (hm : mdOf X = M) (B : Bx true X rfN (defScope (topS 71)) (fun _ => true)) (hr : Room 6 X.A) (hst : X.stack = X.env :: X.outer) (hfr : X.env.frame = some X.env.locals) {T' : Tab} {pl' : Pl} (hs : SOk T pl) (hs' : SOk T' pl') (ht : TabS T) (ht' : TabS T') :
    DSs X G (Rg bx wo al bd X CT CS T pl (some (.fz (isSc X.K CT CS T' pl'))) none none) rfBody (LpW (Rg bx wo al bd X CT CS T pl none none none) Pt) := by
  subst hm
  have hd : HasTy X.K (isSc X.K CT CS T' pl') (.ref CS) := si.ty
  have z2 := hs'.tri.sz
  let E (gi : Option As) : Ev := Rg bx wo al bd X CT CS T pl (some (.fz (isSc X.K CT CS T' pl'))) gi none
  refine dss_if (env1 := E none) (k := tabEq T' T && decide (pl'.length = pl.length)) (dt_eq (dt_w (dw_and (dt_val (de_nc B (nc_b (cd_isi hd (.own CS) (kit_refl _ (by simp))) nb.isinstance) (da_cons (de_name (P := isSc X.K CT CS T' pl') B 7) (da_cons (de_glob (v := .ref CS) (P := isV (.ref CS)) B hS rfl (fun _ => rfl)) da_nil)) (.inl rfl))) fun _ => dw_and (dt_cmp (de_fld (de_name (P := isSc X.K CT CS T' pl') B 7) sc.cl sc.nt) (de_name (P := isTb X.K CT T) B 2) (opd_eqTb f5 e5 hr ht' ht)) fun _ => dw_and1 (dt_cmp (de_nc B (nc_b (cd_lenSc f8 e8 hr T' pl' (by omega)) nb.len) (da_cons (de_name (P := isSc X.K CT CS T' pl') B 7) da_nil) (.inl rfl)) (de_name (P := isD X.K (nD pl.length)) B 4) (opd_eqI _ _ hr.units)))) ?_) (fun hk => ?_) (fun hk => ?_)
  · have : decide (((pl'.length : Nat) : Int) = ((pl.length : Nat) : Int)) = decide (pl'.length = pl.length) := decide_eq_decide.mpr (by omega)
    rw [this]; rfl
  · exact dss_end (ds_cont ⟨Drop.wk (by repeat (first | exact Drop.nil | apply Drop.keep | apply Drop.skip)), fun e he => by cases he⟩)
  · refine dss_go (env1 := E (some (.fz (isSc X.K CT CS T' pl')))) (ds_set B 9 (de_if (k := false) (dt_val (de_nc B (nc_b (cd_isi hd (.ty "list") kf.sl) nb.isinstance) (da_cons (de_name (P := isSc X.K CT CS T' pl') B 7) (da_cons (de_bty B nb.list) da_nil)) (.inl rfl))) (fun h => (nomatch h)) (fun _ => de_name B 7))) ?_
    refine dss_pin 9 rfl fun v => dss_wk (Wk.fzPin (j := 9) rfl) ?_
    refine dss_end (try_ gv fx rfl B hr hst hfr (P := isSc X.K CT CS T' pl') rfl (.sc rfl hs hs' ht ht' ?_) fun a dd oe pn hz hf B' => ?_)
    · rcases Bool.and_eq_false_iff.mp hk with h | h
      · exact .inl h
      · exact .inr (of_decide_eq_false h)
    · exact suite_s nb sc si kf gv hS mr f6 f7 rfl hr hs' hz hf B' (Drop.wk (by repeat (first | exact Drop.nil | apply Drop.keep | apply Drop.skip)))
end
end K7

set_option maxHeartbeats 1000000
/-! K39: _law_refused. -/
namespace DL
open PySem
def notStar : Expr → Bool
  | .Starred _ _ => false
  | _ => true
theorem star_cons (e : Expr) (es : List Expr) (env : Env) (h : notStar e = true) : starEach (e :: es) env = (false, eval e env) :: starEach es env := by
  cases e <;> first | rfl | cases h
section
open PySem.Spec PyProof.Rows L2
variable {X : Cx} {G : Reg} {env env1 env2 : Ev} {A : As} {e : Expr} {es : List Expr}
theorem da_c {As' : List As} (h : DE X G env e env1 A) (hr : DA X G env1 es env2 As') (hn : notStar e = true := by rfl) : DA X G env (e :: es) env2 (A :: As') := da_cons h hr (star_cons _ _ _ hn)
theorem da_s {As' : List As} (h : DE X G env e env A) (hn : notStar e = true) (hr : DA X G env es env2 As') : DA X G env (e :: es) env2 (A :: As') := da_cons h hr (star_cons _ _ _ hn)
theorem dad_c {d : PyData} {ds : List PyData} (h : DE X G env e env1 A) (hA : A.fr = isD X.K d) (hr : DAD X G env1 es env2 ds) (hn : notStar e = true := by rfl) : DAD X G env (e :: es) env2 (d :: ds) := dad_cons h hA hr (star_cons _ _ _ hn)
end
end DL
namespace K7
open PySem PySem.Spec PyProof.Rows L2 DL Hd
theorem rep_flat {α : Type} (n : Nat) (x : α) : (List.replicate n [x]).flatten = List.replicate n x := by
  induction n with
  | zero => rfl
  | succ n ih => rw [List.replicate_succ, List.flatten_cons, ih, List.replicate_succ]; rfl
theorem swap_sub (a b : Expr) (p : Pos) (t : Option Expr) (l : Nat) (env : Env) : swapsWith (.Subscript a b p) t l env = pure false := rfl
section
variable {M : Md} (nb : NoB M.mg) {CT CS CI fI fr fe fl fi fj : Addr} (sc : ScF M.K CS) (si : InsF M.K CS) (ti : InsF M.K CT) (kf : KitF M.K CT CS) (gv : PySem.GvX.GvT "given" M.K M.mg "InvalidOther" CI fI)
variable (hS : M.mg "Scene" = some (.ref CS)) (hT : M.mg "Table" = some (.ref CT)) (mr : Meth M.K CS "rows" fr)
variable (f6 : FMB M fr 2 ["self"] (srArgs M CT CS) (fun i => oLn M.K (i.1.2.map (nmD i.1.1.ways)))) (f7 : ∀ n, FB M "_law_same" (n + 1) ["told", "due"] (smArgs M n) (fun _ => dD M.K (.bool true)))
variable (fx : FX M "steps" 4 ["one", "other"] (cxArgs M CT CS) CI (cxVal M CT CS))
variable (f5 : FM M fe 1 ["self", "other"] (teArgs M CT) (fun i => dD M.K (.bool (tabEq i.1.1 i.1.2)))) (e5 : EqF M.K CT fe) (f8 : FM M fl 1 ["self"] (slArgs M CT CS) (fun i => dD M.K (nD i.2.length))) (e8 : LnF M.K CS fl)
/-- the eight bad values -/
def badP (K : PySem.W.Frag) (CT : Addr) (T : Tab) : List FP := [isD K .none, isD K (.int 5), isS [], isD K (.str "scene"), isD K (.list [.list []]), isD K (.bool true), isD K (.tuple [.str "scene"]), isTb K CT T]
include nb gv fx hS hT kf f7 ti in
theorem turn_bad {X : Cx} {G : Reg} {bx wo al bd : Option As} {T : Tab} {pl : Pl} {Pt : Out → Prop} (hm : mdOf X = M) (B : Bx true X rfN (defScope (topS 71)) (fun _ => true)) (hr : Room 6 X.A) (hst : X.stack = X.env :: X.outer) (hfr : X.env.frame = some X.env.locals) {P : FP} :
    ∀ {k : Nat}, (badP X.K CT T)[k]? = some P → DSs X G (Rg bx wo al bd X CT CS T pl (some (.fz P)) none none) rfBody (LpW (Rg bx wo al bd X CT CS T pl none none none) Pt)
  | 0, h => by
    subst hm; obtain rfl := Option.some.inj h
    exact turn_d nb kf gv hS hT f7 fx rfl B hr hst hfr (n := 0) (by omega) (some ⟨.none, rfl⟩) .none (hasTy_d _) rfl
  | 1, h => by
    subst hm; obtain rfl := Option.some.inj h
    exact turn_d nb kf gv hS hT f7 fx rfl B hr hst hfr (n := 0) (by omega) (some ⟨.int 5, rfl⟩) (.int 5) (hasTy_d _) rfl
  | 2, h => by
    subst hm; obtain rfl := Option.some.inj h
    exact turn_d nb kf gv hS hT f7 fx rfl B hr hst hfr (n := 0) (by omega) none (.dict []) hasTy_S rfl
  | 3, h => by
    subst hm; obtain rfl := Option.some.inj h
    exact turn_d nb kf gv hS hT f7 fx rfl B hr hst hfr (n := 0) (by omega) (some ⟨.str "scene", rfl⟩) (.str "scene") (hasTy_d _) rfl
  | 4, h => by
    subst hm; obtain rfl := Option.some.inj h
    exact turn_l nb kf gv hS hT f7 fx rfl B hr hst hfr
  | 5, h => by
    subst hm; obtain rfl := Option.some.inj h
    exact turn_d nb kf gv hS hT f7 fx rfl B hr hst hfr (n := 0) (by omega) (some ⟨.bool true, rfl⟩) (.bool true) (hasTy_d _) rfl
  | 6, h => by
    subst hm; obtain rfl := Option.some.inj h
    exact turn_d nb kf gv hS hT f7 fx rfl B hr hst hfr (n := 1) (by omega) (some ⟨.tuple [.str "scene"], .inr ⟨true, _, rfl, by decide, fun x hx => by rw [List.mem_singleton.mp hx]; rfl⟩⟩) (.tuple [.str "scene"]) (hasTy_d _) rfl
  | 7, h => by
    subst hm; obtain rfl := Option.some.inj h
    exact turn_t nb ti kf gv hS hT fx rfl B hr hst hfr
  | k + 8, h => by
    cases h
structure RfOk (b : Bo) (W : Wo) (T : Tab) (pl : Pl) : Prop where
  b : BoOk 7 b
  tw : TwOk W T
  s : SOk T pl
abbrev rfBox (b : Bo) (W : Wo) : Bo := (sceneF W (takeF b 8).2 1).1
abbrev lrfArgs (M : Md) (CT CS : Addr) : { i : Bo × Wo × Tab × Pl // RfOk i.1 i.2.1 i.2.2.1 i.2.2.2 } → List DL.Arg := fun i => [.l (oB M.K i.1.1) (oB M.K (rfBox i.1.1 i.1.2.1)), .z (isWo M.P M.w M.K i.1.2.1), .z (isTb M.K CT i.1.2.2.1), .z (isSc M.K CT CS i.1.2.2.1 i.1.2.2.2), .z (isD M.K (nD i.1.2.2.2.length))]
include nb gv fx hS hT kf f7 ti si sc mr f6 f5 e5 f8 e8 in
theorem ok__law_refused (F : FnD M "_law_refused" (topS 71) ["box", "world", "table", "scene", "many"]) (mkT : Mk M.K CT fi) (mkS : Mk M.K CS fj)
    (g0 : FM M fi 4 ["self", "ways", "threes"] (tnArgs M CT) (fun _ => dD M.K .none)) (g1 : FM M fj 3 ["self", "table", "rows"] (snArgs M CT CS) (fun _ => dD M.K .none))
    (f1 : FK M "_law_scene" 3 ["box", "world", "most"] (lscArgs M) (fun i => dD M.K (plL (sceneF i.1.2.1 i.1.1 i.1.2.2).2))) (f2 : FK M "_law_take" 1 ["box", "many"] (takeArgs M) (fun i => dD M.K (nD (takeF i.1.1 i.1.2).1))) (f3 : FK M "_law_named" 1 ["world", "rows"] (lmArgs M) (fun i => oLn M.K (i.1.2.map (nmD i.1.1.names)))) :
    FK M "_law_refused" 7 ["box", "world", "table", "scene", "many"] (lrfArgs M CT CS) (fun _ => dD M.K (.bool true)) := by
  refine fkt (N := rfN) F sc__law_refused (fun _ => rfl) ?_
  rintro X rfl B hr hst hfr ⟨⟨b, W, T, pl⟩, hb, hTw, hs⟩ G vs hv
  obtain ⟨v, w, u, z, y, rfl⟩ := len5 hv
  simp only at hb hTw hs
  have hsz := sizeLine_eq
  have z12 := hs.tri.sz
  have hw := hTw.w
  obtain ⟨n, hn⟩ : ∃ n, n = pl.length := ⟨_, rfl⟩
  obtain ⟨b1, hb1⟩ : ∃ b1, b1 = (takeF b 8).2 := ⟨_, rfl⟩
  obtain ⟨k, hk⟩ : ∃ k, k = (takeF b 8).1 := ⟨_, rfl⟩
  have hk8 : k < 8 := by rw [hk]; exact takeF_lt (by omega)
  have hb6 : BoOk 6 b1 := hb1 ▸ takeF_ok hb
  obtain ⟨b2, hb2⟩ : ∃ b2, b2 = (sceneF W b1 1).1 := ⟨_, rfl⟩
  obtain ⟨p2, hp2⟩ : ∃ p2, p2 = (sceneF W b1 1).2 := ⟨_, rfl⟩
  have hg : GdW W p2 := hp2 ▸ (sceneF_gd (W := W) (b := b1) (by omega : 1 ≤ 5)).1
  have hso : SnOk T p2 := gd_so hTw hg
  have hnm : NmOk W p2 := ⟨fun row hr k hk => by rw [hw.len]; exact hg.tri.lt row hr k hk, hg.tri.sz, fun row hr => by have := hg.tri.row hr; have := hg.tri.sz; omega⟩
  obtain ⟨P, hP⟩ : ∃ P, (badP X.K CT T)[k]? = some P := ⟨(badP X.K CT T)[k]'hk8, List.getElem?_eq_getElem hk8⟩
  let E (bx : Bo) (al bd : Option As) : Ev := Rg (some ((oB X.K bx).at (some v))) (some (.fz (isWo X.prog X.w X.K W))) al bd X CT CS T pl none none none
  have C2 : NC X "_law_take" [(oB X.K b).at none, dD X.K (nD 8)] [(oB X.K b1).at none, dD X.K (nD 8)] (dD X.K (nD k)) := by
    have := nk f2 hr ⟨(b, 8), hb.mono (by omega), by show 0 < 8; omega, by show 8 < 1073741824; omega⟩
    rw [hb1, hk]; exact this
  have C1 : NC X "_law_scene" [(oB X.K b1).at none, .fz (isWo X.prog X.w X.K W), dD X.K (nD 1)] [(oB X.K b2).at none, .fz (isWo X.prog X.w X.K W), dD X.K (nD 1)] (dD X.K (plL p2)) := by
    have := nk f1 hr ⟨(b1, W, 1), hb6, hw, by show 1 ≤ 5; omega⟩
    rw [hb2, hp2]; exact this
  obtain ⟨TA, hTA⟩ : ∃ TA, TA = alT := ⟨_, rfl⟩
  have hTs : TabS TA := hTA ▸ al_s
  have hTn : SnOk TA (alP n) := hTA ▸ al_so (by omega)
  have hTz : TA.ways = ([("zz" : Str)] : List Str) := hTA ▸ rfl
  have C0 : NC X "Table" [dD X.K (.list [pairS ("zz", "zz")]), dD X.K (.list [trN ["zz"] (0, 0, 0)])] [dD X.K (.list [pairS ("zz", "zz")]), dD X.K (.list [trN ["zz"] (0, 0, 0)])] ((oI CT (fsT X.K TA)).at none) := by
    have := nkC mkT g0 hT hr ⟨(["zz"], [0], [(0, 0, 0)]), al_tn⟩ rfl rfl
    rw [hTA]
    exact this
  let al : Option As := some (.fz (isTb X.K CT TA))
  refine dss_go (env1 := E b al none) (ds_set B 5 (de_frz (A := (oI CT (fsT X.K TA)).at none) (de_nc B C0 (da_cons (de_lstD (ds := [pairS ("zz", "zz")]) (dad_cons (de_tupD (dad_cons de_str rfl (dad_cons de_str rfl dad_nil))) rfl dad_nil)) (da_cons (de_lstD (ds := [trN ["zz"] (0, 0, 0)]) (dad_cons (de_tupD (dad_cons de_str rfl (dad_cons de_str rfl (dad_cons de_str rfl dad_nil)))) rfl dad_nil)) da_nil)) (.inl rfl)))) ?_
  let L8 : List As := [dD X.K .none, dD X.K (.int 5), .fz (isS []), dD X.K (.str "scene"), oLn X.K [.list []], dD X.K (.bool true), dD X.K (.tuple [.str "scene"]), .fz (isTb X.K CT T)]
  have D8 : ∀ {j1 j2 j3 j4 j5 j6} {p1 p2 p3 p4 p5 p6 p7 p8 p9 p0 : Pos}, DA X G (E b al none) [.Constant .none j1 p1, .Constant (.int 5) j2 p2, .Dict [] [] p3, .Constant (.str "scene") j3 p4, .List [.List [] p0] p5, .Constant (.bool true) j4 p6, .Tuple [.Constant (.str "scene") j5 p9] j6 p7, .Name "table" p8] (E b al none) L8 := by
    intro j1 j2 j3 j4 j5 j6 p1 p2 p3 p4 p5 p6 p7 p8 p9 p0
    have h8 : DA X G (E b al none) [.Name "table" p8] (E b al none) [.fz (isTb X.K CT T)] := da_c (de_name B 2) da_nil
    have h7 : DE X G (E b al none) (.Tuple [.Constant (.str "scene") j5 p9] j6 p7) (E b al none) (dD X.K (.tuple [.str "scene"])) := de_tupD (dad_c de_str rfl dad_nil)
    have h5 : DE X G (E b al none) (.List [.List [] p0] p5) (E b al none) (oLn X.K [.list []]) := de_lstD (dad_c (de_lstD dad_nil) rfl dad_nil)
    refine da_s ?_ ?_ ?_
    · exact de_non
    · rfl
    refine da_s ?_ ?_ ?_
    · exact de_int
    · rfl
    refine da_s ?_ ?_ ?_
    · exact de_newS
    · rfl
    refine da_s ?_ ?_ ?_
    · exact de_str
    · rfl
    refine da_s ?_ ?_ ?_
    · exact h5
    · rfl
    refine da_s ?_ ?_ ?_
    · exact de_bl
    · rfl
    refine da_s ?_ ?_ ?_
    · exact h7
    · rfl
    exact h8
  have T8 : ∀ {p4 p5 p6 p7 : Pos} {j7}, DE X G (E b al none) (.Call (.Name "_law_take" p4) [.Name "box" p5, .Constant (.int 8) j7 p6] [] p7) (E b1 al none) (dD X.K (nD k)) := fun {p4 p5 p6 p7 j7} =>
    de_ncL (q := some v) (A := oB X.K b) B 0 C2 (da_cons de_int da_nil) (.inl rfl) (hf := let ⟨f, _, h, _⟩ := f2; ⟨f, h⟩)
  have X8 : ∀ (es : List Expr) (e2 : Expr) (p1 p2 p3 p4 : Pos), DA X G (E b al none) es (E b al none) L8 → DE X G (E b al none) e2 (E b1 al none) (dD X.K (nD k)) → PlainIx e2 → DS X G (E b al none) (.Assign [.Name "bad" p1] (.Subscript (.List es p2) e2 p3) p4) (NX (E b1 al (some (.fz P)))) := fun es e2 p1 p2 p3 p4 h1 h2 h3 =>
    ds_set B 6 (de_ix (de_lstA h1 (hz := by show 8 ≤ sizeLine; omega)) h2 (ixd_L (k := k) hP) h3) (hs := swap_sub _ _ _ _ _ _)
  refine dss_go (env1 := E b1 al (some (.fz P))) ?_ ?_
  · refine X8 _ _ _ _ _ _ ?_ ?_ ?_
    · exact D8
    · exact T8
    · exact fun _ _ => rfl
  let its : List FP := [P, isSc X.K CT CS TA (alP n), isSc X.K CT CS T p2]
  let L3 : List As := [.fz P, (oI CS (fsS X.K CT TA (alP n))).at none, (oI CS (fsS X.K CT T p2)).at none]
  let E1 := E b1 al (some (.fz P))
  let E2 := E b2 al (some (.fz P))
  have hL : ∀ (tg : Expr) (es : List Expr) (p : Pos), DA X G E1 es E2 L3 → DI true X G E1 tg (.List es p) E2 its := fun tg es p h => di_l (de_lstA h (hz := by show 3 ≤ sizeLine; omega)) rfl
  have hF : ∀ (tg iter : Expr) (body : List Stmt) (p : Pos), DI true X G E1 tg iter E2 its → (∀ i P', its[i]? = some P' → ∃ ws env2, DGt X G E2 (.fz P') tg ws env2 ∧ DSs X G env2 body (LpW E2 (NX E2))) → (∀ x, foldedSetIterable iter X.env x = pure x) → DS X G E1 (.For tg iter body [] p) (NX E2) := fun tg iter body p h1 h2 h3 =>
    ds_forN B h1 (fun _ => E2) (Wk.refl _) h2 rfl h3
  have hC : ∀ (e1 e2 e3 : Expr), DE X G E1 e1 E1 (.fz P) → notStar e1 = true → DE X G E1 e2 E1 ((oI CS (fsS X.K CT TA (alP n))).at none) → notStar e2 = true → DE X G E1 e3 E2 ((oI CS (fsS X.K CT T p2)).at none) → notStar e3 = true → DA X G E1 [e1, e2, e3] E2 L3 := fun e1 e2 e3 h1 n1 h2 n2 h3 n3 =>
    da_c h1 (da_c h2 (da_c h3 da_nil n3) n2) n1
  have S1 : ∀ (p q : Pos) (e1 e2 : Expr), DE X G E1 e1 E1 (.fz (isTb X.K CT TA)) → notStar e1 = true → DE X G E1 e2 E1 (oLn X.K ((List.range n).map fun i => PyData.list (List.replicate i (.str "zz")))) → notStar e2 = true → DE X G E1 (.Call (.Name "Scene" p) [e1, e2] [] q) E1 ((oI CS (fsS X.K CT TA (alP n))).at none) := fun p q e1 e2 h1 n1 h2 n2 =>
    de_nc B (nkC mkS g1 hS hr ⟨(TA, alP n), hTn⟩ rfl rfl) (da_c h1 (da_c h2 da_nil n2) n1) (.inl (by
      show [_, As.fz (isD X.K (.list ((List.range n).map fun i => PyData.list (List.replicate i (.str "zz")))))] = [_, As.fz (isD X.K (nmsD TA.ways (alP n)))]
      rw [hTz, al_nm]; rfl)) (he := star_cons _ _ _ n1) (hpl := by rw [star_cons _ _ _ n2]; rfl)
  have S2 : ∀ (p q : Pos) (e1 e2 : Expr), DE X G E1 e1 E1 (.fz (isTb X.K CT T)) → notStar e1 = true → DE X G E1 e2 E2 (oLn X.K (p2.map (nmD W.names))) → notStar e2 = true → DE X G E1 (.Call (.Name "Scene" p) [e1, e2] [] q) E2 ((oI CS (fsS X.K CT T p2)).at none) := fun p q e1 e2 h1 n1 h2 n2 =>
    de_nc B (nkC mkS g1 hS hr ⟨(T, p2), hso⟩ rfl rfl) (da_c h1 (da_c h2 da_nil n2) n1) (.inl (by
      show [_, As.fz (isD X.K (nmsD W.names p2))] = [_, As.fz (isD X.K (nmsD T.ways p2))]
      rw [hTw.tw]; rfl)) (he := star_cons _ _ _ n1) (hpl := by rw [star_cons _ _ _ n2]; rfl)
  refine dss_go (env1 := E2) ?_ ?_
  · refine hF _ _ _ _ ?_ ?_ ?_
    · refine hL _ _ _ ?_
      refine hC _ _ _ ?_ ?_ ?_ ?_ ?_ ?_
      · exact de_name B 6
      · rfl
      · refine S1 _ _ _ _ ?_ ?_ ?_ ?_
        · exact de_name B 5
        · rfl
        · exact de_lcr (lc1n 8 (List.range n) (fun i => isD X.K (nD i)) (fun i => PyData.list (List.replicate i (.str "zz"))) B ⟨by decide +kernel, by decide +kernel, by decide +kernel, by decide +kernel, by decide +kernel⟩ (di_rn B (de_eq (de_name B 4) (by rw [← hn]; rfl)) nb.range (by omega)) (by rw [List.length_range]; omega) rfl fun s0 H0 C cl fp B' a ha => ⟨oLn X.K (List.replicate ((a : Nat) : Int).toNat [.str "zz"]).flatten, by
              show isD X.K (.list _) = _
              rw [rep_flat]; rfl, by
              have ha' := List.mem_range.mp ha
              exact de_bin (de_lstD (ds := [.str "zz"]) (dad_c de_str rfl dad_nil)) (de_name B' 8) (opd_repL (X := BY X s0 H0 _ C cl fp) (by omega) (by omega) (by show 1 * _ ≤ _; omega))⟩)
        · rfl
      · rfl
      · refine S2 _ _ _ _ ?_ ?_ ?_ ?_
        · exact de_name B 2
        · rfl
        · exact de_nc B (nk f3 hr ⟨(W, p2), hnm⟩) (da_cons (de_name B 1) (da_cons (de_ncL (q := some v) (A := oB X.K b1) B 0 C1 (da_cons (de_name B 1) (da_cons de_int da_nil)) (.inl rfl) (hf := let ⟨f, _, h, _⟩ := f1; ⟨f, h⟩)) da_nil)) (.inl rfl)
        · rfl
      · rfl
    · intro i P' hP'
      refine ⟨[7], Rg (some ((oB X.K b2).at (some v))) (some (.fz (isWo X.prog X.w X.K W))) al (some (.fz P)) X CT CS T pl (some (.fz P')) none none, ?_, ?_⟩
      · exact dg_name B 7
      · match i, hP' with
        | 0, h =>
          obtain rfl := Option.some.inj h
          exact turn_bad nb ti kf gv hS hT f7 fx rfl B hr hst hfr hP
        | 1, h =>
          obtain rfl := Option.some.inj h
          exact turn_s nb sc si kf gv hS mr f6 f7 fx f5 e5 f8 e8 rfl B hr hst hfr hs hTn.s hTw.ts hTs
        | 2, h =>
          obtain rfl := Option.some.inj h
          exact turn_s nb sc si kf gv hS mr f6 f7 fx f5 e5 f8 e8 rfl B hr hst hfr hs hso.s hTw.ts hTw.ts
        | k + 3, h => cases h
    · intro _; rfl
  · exact dss_end (ds_ret de_bl ⟨rfl, by show _ = some ((oB X.K (rfBox b W)).at (some v)); rw [rfBox, ← hb1, ← hb2], trivial⟩)
end
end K7

set_option maxHeartbeats 1000000
/-! K40: _law_steps_right: its plain parts, a turn's checks. -/
namespace K7
open PySem PySem.Spec PyProof.Rows L2 DL Hd
theorem sum_rep (a : Nat) : ∀ n, (List.replicate n a).sum = n * a
  | 0 => by simp
  | n + 1 => by
    rw [List.replicate_succ, List.sum_cons, sum_rep a n, Nat.succ_mul, Nat.add_comm]
theorem rowsA_len (n : Nat) : ∀ k, (rowsA n k).length = n ^ k
  | 0 => rfl
  | k + 1 => by
    simp only [rowsA, List.length_flatMap, List.length_map, List.length_range]
    rw [List.map_const', sum_rep, rowsA_len n k, Nat.pow_succ]
theorem allP_len (n : Nat) : ∀ k, (allP n (k + 1)).length = (allP n k).length * n ^ k := fun k => by
  simp only [allP, List.length_flatMap, List.length_map, rowsA_len]
  rw [List.map_const', sum_rep]
theorem allP_few {n k : Nat} (h : n ≤ 2 ∧ k ≤ 4 ∨ n ≤ 5 ∧ k ≤ 3) : (allP n k).length ≤ 1000000 := by
  have h0 : (allP n 0).length = 1 := rfl
  have h1 := allP_len n 0
  have h2 := allP_len n 1
  have h3 := allP_len n 2
  have h4 := allP_len n 3
  rw [h0] at h1
  rw [h1] at h2
  rw [h2] at h3
  rw [h3] at h4
  have hn : n ≤ 5 := by omega
  have b : ∀ m, m ≤ 5 → 1 * m ^ 0 ≤ 1000000 ∧ 1 * m ^ 0 * m ^ 1 ≤ 1000000 ∧ 1 * m ^ 0 * m ^ 1 * m ^ 2 ≤ 1000000 ∧ 1 * m ^ 0 * m ^ 1 * m ^ 2 * m ^ 3 ≤ 1000000 := by decide
  obtain ⟨b1, b2, b3, b4⟩ := b n hn
  have hk : k = 0 ∨ k = 1 ∨ k = 2 ∨ k = 3 ∨ k = 4 := by omega
  rcases hk with rfl | rfl | rfl | rfl | rfl
  · rw [h0]; omega
  · rw [h1]; exact b1
  · rw [h2]; exact b2
  · rw [h3]; exact b3
  · rw [h4]; exact b4
/-- a neighbour is a scene -/
theorem near_sn {T : Tab} {pl c : Pl} (hs : SOk T pl) (h : c ∈ nearS T pl) : SnOk T c ∧ c.length = pl.length :=
  ⟨⟨(nearS_ok hs h).1, (mem_nearS h).2⟩, (nearS_ok hs h).2⟩
def thereT (W : Wo) (s : Bo × Pl) : Bo × Pl := if nearG W s.2 = [] then s else ((takeF s.1 (nearG W s.2).length).2, (nearG W s.2).getD (takeF s.1 (nearG W s.2).length).1 [])
def thereN (W : Wo) : Nat → Bo × Pl → Bo × Pl
  | 0, s => s
  | n + 1, s => thereT W (thereN W n s)
theorem thereT_in {W : Wo} {s : Bo × Pl} (h : nearG W s.2 ≠ []) : (nearG W s.2)[(takeF s.1 (nearG W s.2).length).1]? = some (thereT W s).2 := by
  have hl : 0 < (nearG W s.2).length := List.length_pos_iff.mpr h
  have ht := takeF_lt (b := s.1) hl
  unfold thereT
  rw [if_neg h]
  show _ = some (List.getD _ _ _)
  rw [List.getD_eq_getElem?_getD, List.getElem?_eq_getElem ht]
  rfl
theorem thereN_ok {W : Wo} {T : Tab} (hTw : TwOk W T) {s : Bo × Pl} (hs : SnOk T s.2) : ∀ n, SnOk T (thereN W n s).2 ∧ (thereN W n s).2.length = s.2.length
  | 0 => ⟨hs, rfl⟩
  | n + 1 => by
    obtain ⟨h1, h2⟩ := thereN_ok hTw hs n
    show SnOk T (thereT W (thereN W n s)).2 ∧ (thereT W (thereN W n s)).2.length = _
    by_cases h : nearG W (thereN W n s).2 = []
    · unfold thereT
      rw [if_pos h]
      exact ⟨h1, h2⟩
    · have hm := List.mem_of_getElem? (thereT_in h)
      rw [nearG_eq hTw (by rw [← hTw.tb]; exact h1.s.tri)] at hm
      obtain ⟨a, b⟩ := near_sn h1.s hm
      exact ⟨a, b.trans h2⟩
theorem thereT_ok {W : Wo} {s : Bo × Pl} {n : Nat} (h : BoOk (n + 1) s.1) : BoOk n (thereT W s).1 := by
  unfold thereT
  split
  · exact h.mono (by omega)
  · exact takeF_ok h
theorem thereN_bo {W : Wo} {s : Bo × Pl} : ∀ (n m : Nat), BoOk (m + n) s.1 → BoOk m (thereN W n s).1
  | 0, m, h => h
  | n + 1, m, h => thereT_ok (thereN_bo n (m + 1) (by rw [show m + 1 + n = m + (n + 1) by omega]; exact h))
theorem smp_n (n : Nat) : Smp 0 (nD n) := rfl
theorem smp_plL {pl : Pl} (h : pl.length ≤ 1000000 ∧ ∀ row ∈ pl, row.length ≤ 1000000) : Smp 2 (plL pl) :=
  .inr ⟨false, _, rfl, by rw [List.length_map]; exact h.1, fun x hx => by
    obtain ⟨row, hm, rfl⟩ := List.mem_map.mp hx
    exact .inr ⟨false, _, rfl, by rw [List.length_map]; exact h.2 row hm, fun y hy => by
      obtain ⟨k, _, rfl⟩ := List.mem_map.mp hy
      exact smp_n k⟩⟩
theorem eqv_plL (pl : Pl) : PyData.eqv (plL pl) (plL pl) = true := PySem.W.eqv_refl_alike _ (alike_plL pl pl)
theorem in_near {L : List Pl} {c : Pl} (h : c ∈ L) : ((L.map plL).any fun z => PyData.eqv z (plL c)) = true :=
  List.any_eq_true.mpr ⟨plL c, List.mem_map_of_mem h, eqv_plL c⟩
section
variable {M : Md} (nb : NoB M.mg) {CT CS : Addr} (sc : ScF M.K CS) (si : InsF M.K CS)
abbrev ssN : List Str := ["box", "world", "table", "by_name", "rows", "far", "there", "turn", "near", "any_rows", "scene", "goal", "due", "told", "one", "seen", "row", "way", "k"]
theorem sc__law_steps_right : FnScope ssN ["box", "world", "table", "by_name"] (defScope (topS 70)) := ⟨rfl, rfl, rfl, by decide +kernel, rfl, by decide +kernel, by decide +kernel⟩
end
end K7

set_option maxHeartbeats 2000000
/-! K41: _law_steps_right: a goal's turn. -/
namespace DL
open PySem PySem.Spec PyProof.Rows L2
theorem cd_lenP {X : Cx} {Ps : List FP} : CallD X (.builtin "len") [.fz (isL Ps)] [.fz (isL Ps)] (dD X.K (.int Ps.length)) :=
  cd_one call_len_seq (.int Ps.length) isD_int fun HF H va ex ⟨a, xs, h1, h2, h3⟩ Q q => by
    refine ⟨a, xs, by rw [h1], .inl (SqL.of (ex _ _ h2)), ?_⟩
    rw [h3.len]; exact q
theorem sw_cell {elt : Expr} {gs : List Comprehension} {scope : Scope} {pos py : Pos} {y : Str} {l : Nat} {env : Env} (hy : env.scope.names.lookup y = some .cell) : swapsWith (.ListComp elt gs scope pos) (some (.Name y py)) l env = pure false := by
  have ky : env.kindOf y = some .cell := hy
  unfold swapsWith
  simp only [ky]
  have e : ((some NameKind.cell : Option NameKind) == some .local) = false := by decide
  simp only [e, Bool.and_false, Bool.false_and]
theorem di_r1n {X : Cx} {G : Reg} {N : List Str} {sc : Scope} {ok : Str → Bool} {env env2 : Ev} {b tg : Expr} {p q pos : Pos} {j} {n : Nat} (B : Bx true X N sc ok) (h : DE X G env b env2 (dD X.K (.int ((n + 1 : Nat) : Int)))) (hm : X.mg "range" = none) (hn : n < 2 ^ 60) (hg : GlS sc "range" := by rfl) (hs : starEach [.Constant (.int 1) j q, b] X.env = [(false, eval (.Constant (.int 1) j q) X.env), (false, eval b X.env)] := by rfl) (hs2 : starEach [b] X.env = [(false, eval b X.env)] := by rfl) :
    DI true X G env tg (.Call (.Name "range" p) [.Constant (.int 1) j q, b] [] pos) env2 ((List.range n).map fun i => isD X.K (.int (1 + (i : Nat)))) := by
  have := di_r2 (X := X) (G := G) (tg := tg) (p := p) (pos := pos) (m := 1) (n := ((n + 1 : Nat) : Int)) B (de_int (env := env) (j := j) (pos := q)) h hm (by omega) hg hs hs2
  rw [show (((n + 1 : Nat) : Int) - 1).toNat = n by omega, rgD, List.map_map] at this
  exact this
end DL
namespace K7
open PySem PySem.Spec PyProof.Rows L2 DL Hd
theorem steps_len {T : Tab} {pl goal : Pl} {L : List Pl} (hs : SOk T pl) (hfew : (allP T.back.length pl.length).length ≤ 1000000) (h : stepsF T pl goal = some L) : L.length ≤ 1000000 := by
  obtain ⟨hfd, hrk⟩ := ledF_ok hs
  unfold stepsF at h
  by_cases hm : goal ∈ keysF (ledF T pl)
  · rw [if_pos hm] at h
    cases h
    have hfl : (ledF T pl).length ≤ 1000000 := Nat.le_trans hfd.le hfew
    rw [List.length_reverse]
    refine Nat.le_trans (pathN_len (ledF T pl) _ _) ?_
    show (keysF (ledF T pl)).idxOf goal + 1 ≤ _
    have h1 := List.idxOf_lt_length_of_mem hm
    rw [List.length_map] at h1
    omega
  · rw [if_neg hm] at h; cases h
theorem steps_sn {T : Tab} {pl goal : Pl} {d : Nat} {L : List Pl} (hp : SnOk T pl) (h : StepsOk T pl goal d L) : ∀ i, i ≤ d → ∃ c, L[i]? = some c ∧ SnOk T c
  | 0, _ => ⟨pl, h.first, hp⟩
  | i + 1, hi => by
    obtain ⟨c, hc, hs⟩ := steps_sn hp h i (by omega)
    obtain ⟨a, b, h1, h2, h3⟩ := h.near i (by omega)
    rw [hc] at h1
    cases h1
    exact ⟨b, h2, (near_sn hs.s h3).1⟩
def ssBody : List Stmt := match (defBody (topS 70)).getD 6 (.Pass ⟨0, 0, 0, 0⟩) with
  | .For _ _ b _ _ => b
  | _ => []
section
variable {M : Md} (nb : NoB M.mg) {CT CS fi fj fr fe : Addr} (sc : ScF M.K CS) (si : InsF M.K CS)
variable (hS : M.mg "Scene" = some (.ref CS)) (mr : Meth M.K CS "rows" fr) (mk : Mk M.K CS fj)
variable (g1 : FM M fj 3 ["self", "table", "rows"] (snArgs M CT CS) (fun _ => dD M.K .none))
variable (f6 : FMB M fr 2 ["self"] (srArgs M CT CS) (fun i => oLn M.K (i.1.2.map (nmD i.1.1.ways)))) (f7 : ∀ n, FB M "_law_same" (n + 1) ["told", "due"] (smArgs M n) (fun _ => dD M.K (.bool true)))
variable (f5 : FM M fe 1 ["self", "other"] (teArgs M CT) (fun i => dD M.K (.bool (tabEq i.1.1 i.1.2)))) (e5 : EqF M.K CT fe)
variable (f2 : FK M "_law_near" 3 ["world", "rows"] (lnrArgs M) (fun i => oLn M.K ((nearG i.1.1 i.1.2).map plL))) (f3 : FK M "_law_named" 1 ["world", "rows"] (lmArgs M) (fun i => oLn M.K (i.1.2.map (nmD i.1.1.names)))) (f4 : FK M "_law_key" 1 ["rows"] (keyArgs M) (fun i => dD M.K (plD i.1)))
variable (Fs : FnD M "steps" (topS 45) ["one", "other"]) (fs : FK M "steps" 6 ["one", "other"] (stArgs M CT CS) (fun i => optSs M.K CT CS i.1.1.1 (stepsF i.1.1.1 i.1.1.2 i.1.2.2)))
/-- the slots in a goal's turn -/
abbrev Sg (X : Cx) (CT CS : Addr) (W : Wo) (T : Tab) (pl : Pl) (bx th tu ne an : Option As) (c : Bool) (go du to se : Option As) : Ev :=
  [bx, some (.fz (isWo X.prog X.w X.K W)), some (.fz (isTb X.K CT T)), some (dD X.K (.bool c)), some (dD X.K (plL pl)), some (.fz (isX X.prog X.w X.K (fdN (farF W T pl)))), th, tu, ne, an, some (.fz (isSc X.K CT CS T pl)), go, du, to, none, se, none, none, none]
theorem nm_ok {W : Wo} {T : Tab} (hTw : TwOk W T) {c : Pl} (h : SOk T c) : NmOk W c := by
  have t := h.tri
  refine ⟨fun row hr k hk => ?_, t.sz, fun row hr => ?_⟩
  · have := t.lt row hr k hk
    rw [hTw.tb] at this
    rw [hTw.w.len]; exact this
  · have := t.row hr
    have := t.sz
    omega
include nb sc si hS mr mk g1 f6 f7 f5 e5 f2 f3 f4 Fs fs in
theorem goal_turn {X : Cx} {G : Reg} (hm : mdOf X = M) (B : Bx true X ssN (defScope (topS 70)) (fun _ => true)) (hr : Room 7 X.A) {W : Wo} {T : Tab} {pl goal : Pl} {bx th tu ne an : Option As} {c : Bool} {Pt : Out → Prop} (hTw : TwOk W T) (hp : SnOk T pl) (hg : SnOk T goal) (hl : goal.length = pl.length) (hfew : (allP T.back.length pl.length).length ≤ 1000000) :
    DSs X G (Sg X CT CS W T pl bx th tu ne an c (some (dD X.K (plL goal))) none none none) ssBody (LpW (Sg X CT CS W T pl bx th tu ne an (!c) none none none none) Pt) := by
  subst hm
  have hsz := sizeLine_eq
  have hu := B.un
  have hw := hTw.w
  have zp := hp.s.tri.sz
  have zg := hg.s.tri.sz
  let S (du to se : Option As) : Ev := Sg X CT CS W T pl bx th tu ne an c (some (dD X.K (plL goal))) du to se
  have hnG : ∀ c, SOk T c → nearG W c = nearS T c := fun c h => nearG_eq hTw (by rw [← hTw.tb]; exact h.tri)
  have hfar := steps_far (W := W) (goal := goal) hp.s fun c h _ => hnG c h
  obtain ⟨o, ho⟩ : ∃ o, o = getN (farF W T pl) goal := ⟨_, rfl⟩
  obtain ⟨st, hst⟩ : ∃ st, st = stepsF T pl goal := ⟨_, rfl⟩
  rw [← ho, ← hst] at hfar
  let dO : PyData := (o.map nD).getD .none
  have dkey : ∀ {c : Pl} {Y : Cx}, As.fr (dD Y.K (plD c)) = isD Y.K (.tuple (NestedKey.datas (plK c))) := fun {c Y} => by rw [plK_data]; rfl
  refine dss_go (env1 := S (some (dD X.K dO)) none none) (ds_set B 12 (de_eq (de_getMX (L := fdN (farF W T pl)) (ks := plK goal) (de_name B 5) rfl (de_nc B (nk f4 hr ⟨goal, zg⟩) (da_cons (de_name B 11) da_nil) (.inl rfl)) dkey hu (depth_pl goal)) (by rw [getL_fdN, ← ho]))) ?_
  have hck : CkOk T pl T goal := ⟨hp.s, hg.s, hTw.ts, hTw.ts, tabEq_refl T, hl⟩
  have mkS : ∀ {p1 p2 p3 p4 p5 p6 p7 : Pos}, DE X G (S (some (dD X.K dO)) none none) (.Call (.Name "Scene" p1) [.Name "table" p2, .Call (.Name "_law_named" p3) [.Name "world" p4, .Name "goal" p5] [] p6] [] p7) (S (some (dD X.K dO)) none none) ((oI CS (fsS X.K CT T goal)).at none) := fun {p1 p2 p3 p4 p5 p6 p7} =>
    de_nc B (nkC mk g1 hS hr ⟨(T, goal), hg⟩ rfl rfl) (da_cons (de_name B 2) (da_cons (de_nc B (nk f3 hr ⟨(W, goal), nm_ok hTw hg.s⟩) (da_cons (de_name B 1) (da_cons (de_name B 11) da_nil)) (.inl rfl)) da_nil)) (.inl (by
      show [_, As.fz (isD X.K (nmsD W.names goal))] = [_, As.fz (isD X.K (nmsD T.ways goal))]
      rw [hTw.tw]; rfl))
  let toA : FP := (optSs X.K CT CS T st).fr
  refine dss_go (env1 := S (some (dD X.K dO)) (some (.fz toA)) none) (ds_set (env1 := S (some (dD X.K dO)) none none) B 13 (de_if (env1 := S (some (dD X.K dO)) none none) (k := c) (A := .fz toA) (dt_val (de_name B 3)) (fun _ => ?_) (fun _ => ?_))) ?_
  · exact de_eq (de_frz (de_nc B (nk fs hr ⟨((T, pl), T, goal), hck, hfew⟩) (da_cons (de_name B 10) (da_cons mkS da_nil)) (.inl rfl))) (by show As.fz (optSs X.K CT CS T (stepsF T pl goal)).fr = As.fz (optSs X.K CT CS T st).fr; rw [hst])
  · obtain ⟨f, fd, q1, q2, q3, q4⟩ := kwF Fs fs
    exact de_eq (de_frz (de_kw2 (X := X) B q4 (hr.mono (by omega)) q1 q2 (kbinds2 q3 (by intros; rfl)) ⟨((T, pl), T, goal), hck, hfew⟩ mkS (de_name B 10) rfl rfl rfl)) (by show As.fz (optSs X.K CT CS T (stepsF T pl goal)).fr = As.fz (optSs X.K CT CS T st).fr; rw [hst])
  refine dss_goW (env1 := Sg X CT CS W T pl bx th tu ne an c none none none none) ?_ (dss_end (ds_last (ds_set B 3 (de_not (de_name B 3))) (Drop.wk (by repeat (first | exact Drop.nil | apply Drop.keep | apply Drop.skip)))))
  have wk0 : ∀ du to se, Wk (S du to se) (Sg X CT CS W T pl bx th tu ne an c none none none none) := fun du to se => Drop.wk (by repeat (first | exact Drop.nil | apply Drop.keep | apply Drop.skip))
  cases o with
  | none =>
    have e1 : st = none := hfar
    have e2 : toA = isD X.K .none := by show (optSs X.K CT CS T st).fr = _; rw [e1]; rfl
    rw [e2]
    refine ds_if (env1 := S (some (dD X.K dO)) (some (dD X.K .none)) none) (k := true) (dt_isN (de_name (P := isD X.K dO) B 12) (nonB_d _)) (fun _ => ?_) (fun h => (nomatch h))
    exact dss_end (ds_if (env1 := S (some (dD X.K dO)) (some (dD X.K .none)) none) (k := false) (dt_eq (dt_notN (de_name (P := isD X.K .none) B 13) (nonB_d _)) rfl) (fun h => (nomatch h)) (fun _ => dss_nil ⟨_, rfl, wk0 _ _ _⟩))
  | some d =>
    obtain ⟨L, e1, hL⟩ := hfar
    have e2 : toA = isL (L.map fun c => isSc X.K CT CS T c) := by
      show (optSs X.K CT CS T st).fr = _
      rw [e1]
      show isL ((L.map fun c => As.fz (isSc X.K CT CS T c)).map As.fr) = _
      rw [List.map_map]; rfl
    rw [e2]
    have hd1 := steps_len (goal := goal) hp.s hfew (hst ▸ e1)
    have hLn := hL.len
    have hLs : ∀ c ∈ L, SnOk T c := fun c hc => by
      obtain ⟨i, hi, e⟩ := List.mem_iff_getElem.mp hc
      obtain ⟨c', q1, q2⟩ := steps_sn hp hL i (by omega)
      rw [List.getElem?_eq_getElem hi, e] at q1
      cases q1
      exact q2
    let S1 (se : Option As) : Ev := S (some (dD X.K (nD d))) (some (.fz (isL (L.map fun c => isSc X.K CT CS T c)))) se
    refine ds_if (env1 := S1 none) (k := false) (dt_isN (de_name (P := isD X.K (nD d)) B 12) (nonB_d _)) (fun h => (nomatch h)) (fun _ => ?_)
    have hf : (L.filter fun _ => false) = [] := by simp
    refine dss_if (env1 := S1 none) (k := false) (dt_eq (dt_w (dw_or (dt_not (dt_val (de_nc B (nc_isiP nb (.list []) (t := "list") hasTy_L (by simp)) (da_cons (de_name (P := isL (L.map fun c => isSc X.K CT CS T c)) B 13) (da_cons (de_bty B nb.list) da_nil)) (.inl rfl)))) fun _ => (dw_or (dt_cmp (de_nc B (nc_b (cd_lenP (Ps := L.map fun c => isSc X.K CT CS T c)) nb.len) (da_cons (de_name B 13) da_nil) (.inl rfl)) (de_bin (de_name (P := isD X.K (nD d)) B 12) de_int (opd_add _ _)) (opd_neI _ _ hr.units)) fun _ => dw_or1 (dt_cmp (A := oLn X.K ((L.filter fun _ => false).map fun _ => PyData.none)) (de_lcr (lc1 14 L (fun c => isSc X.K CT CS T c) (fun _ => false) (fun _ => PyData.none) B ⟨by decide +kernel, by decide +kernel, by decide +kernel, by decide +kernel, by decide +kernel⟩ (di_l (de_name (P := isL (L.map fun c => isSc X.K CT CS T c)) B 13) rfl) (by omega) rfl fun s0 H0 C cl fp B' a ha => ⟨dts_one ?_, fun h => (nomatch h)⟩)) (de_lstD dad_nil) (opd_ne (d := .list ((L.filter fun _ => false).map fun _ => PyData.none)) (d' := .list []) hr.units ?_ rfl)))))
      ?_) (fun h => (nomatch h)) (fun _ => ?_)
    · refine dt_eq (dt_w (dw_or (dt_not (dt_val (de_nc B' (nc_b (X := BY X s0 H0 _ C cl fp) (cd_isi si.ty (.own CS) (kit_refl _ (by simp))) nb.isinstance) (da_cons (de_name B' 14) (da_cons (de_glob (v := .ref CS) (P := isV (.ref CS)) B' hS rfl (fun _ => rfl)) da_nil)) (.inl rfl)))) fun _ => dw_or1 (dt_cmp (de_fld (de_name B' 14) sc.cl sc.nt) (de_name B' 2) (opd_neTb (X := BY X s0 H0 _ C cl fp) f5 e5 hr hTw.ts hTw.ts)))) ?_
      rw [tabEq_refl]; rfl
    · rw [hf]; rfl
    · rw [hf, List.length_map, hLn]
      have : decide ((((d + 1 : Nat) : Nat) : Int) = ((d : Nat) : Int) + 1) = true := decide_eq_true (by omega)
      rw [this]; rfl
    have hws : T.ways = W.names := hTw.tw
    have htb := hTw.tb
    have hnl := hw.len
    refine dss_go (env1 := S1 (some (oLn X.K (L.map plL)))) (ds_set B 15 (hs := sw_cell (by rw [B.sc_]; rfl)) (de_lcr (lc1n 14 L (fun c => isSc X.K CT CS T c) plL B ⟨by decide +kernel, by decide +kernel, by decide +kernel, by decide +kernel, by decide +kernel⟩ (di_l (de_name (P := isL (L.map fun c => isSc X.K CT CS T c)) B 13) rfl) (by omega) rfl fun s0 H0 C cl fp B' c hc => ?_))) ?_
    · have hcs := hLs c hc
      have tz := hcs.s.tri.sz
      refine ⟨oLn X.K (c.map lsD), rfl, de_lcr (lc1n 16 c (fun row => isD X.K (nmD T.ways row)) lsD B' ⟨by decide +kernel, by decide +kernel, by decide +kernel, by decide +kernel, by decide +kernel⟩ (di_ldm c (nmD T.ways) (de_meth0 (de_name B' 14) sc.cl mr (cdb (X := BY X s0 H0 _ C cl fp) f6 B' hr ⟨(T, c), hcs.s⟩)) rfl) (by omega) rfl fun s1 H1 C1 cl1 fp1 B2 row hrow => ?_)⟩
      have rz := hcs.s.tri.row hrow
      have rl := hcs.s.tri.lt row hrow
      refine ⟨oLn X.K (row.map nD), rfl, de_lcr (lc1n 17 row (fun k => isD X.K (.str (wy T.ways k))) nD B2 ⟨by decide +kernel, by decide +kernel, by decide +kernel, by decide +kernel, by decide +kernel⟩ (di_ldm row (fun k => .str (wy T.ways k)) (de_name B2 16) rfl) (by omega) rfl fun s2 H2 C2 cl2 fp2 B3 k hk => ⟨dD X.K (nD k), rfl, ?_⟩)⟩
      have hkw : k < W.names.length := by rw [hnl, ← htb]; exact rl k hk
      exact de_indexL (zs := W.names) (z := wy T.ways k) (j := k) (de_getW (L := woL X.prog X.w X.K W) (de_name B3 1) rfl (by show X.A.units + 1 < _; omega)) rfl (de_name B3 17) (by rw [hws]; exact wy_get hkw) (by rw [hws]; exact wy_first hw.nd hkw)
    refine dss_chill 15 rfl ?_
    let S2 : Ev := S1 (some (dD X.K (.list (L.map plL))))
    have sh : ∀ c ∈ L, Smp 2 (plL c) := fun c hc => smp_plL (tri_small (hLs c hc).s.tri)
    have h0 : atI (L.map plL) ((0 : Nat) : Int) = some (plL pl) := atI_at (by rw [List.getElem?_map, hL.first]; rfl)
    have h1 : atI (L.map plL) (-1) = some (plL goal) := by
      unfold atI ixN
      rw [List.length_map, hLn, if_neg (by decide), if_pos (by omega)]
      show (L.map plL)[(-1 + ((d + 1 : Nat) : Int)).toNat]? = _
      have : (-1 + ((d + 1 : Nat) : Int)).toNat = d := by omega
      rw [this, List.getElem?_map, hL.last]; rfl
    refine dss_if (env1 := S2) (k := false) (dt_eq (dt_w (dw_or (dt_not (dt_val (de_nc B (nkb (f7 2) B hr (some ⟨plL pl, smp_plL (tri_small hp.s.tri)⟩)) (da_cons (de_ix (de_name (P := isD X.K (.list (L.map plL))) B 15) de_int (ixd_l h0)) (da_cons (de_name (P := isD X.K (plL pl)) B 4) da_nil)) (.inl rfl)))) fun _ => (dw_or1 (dt_not (dt_val (de_nc B (nkb (f7 2) B hr (some ⟨plL goal, smp_plL (tri_small hg.s.tri)⟩)) (da_cons (de_ix (de_name (P := isD X.K (.list (L.map plL))) B 15) (de_neg de_int) (ixd_l h1)) (da_cons (de_name (P := isD X.K (plL goal)) B 11) da_nil)) (.inl rfl))))))) rfl) (fun h => (nomatch h)) (fun _ => ?_)
    have hfr : ((List.range d).filter fun _ => false) = [] := by simp
    refine dss_end (ds_if (env1 := S2) (k := false) (dt_eq (dt_cmp (A := oLn X.K (((List.range d).filter fun _ => false).map nD)) (de_lcr (lc1 18 (List.range d) (fun i => isD X.K (.int (1 + (i : Nat)))) (fun _ => false) nD B ⟨by decide +kernel, by decide +kernel, by decide +kernel, by decide +kernel, by decide +kernel⟩ ?_ (by rw [List.length_range]; omega) rfl (fun s0 H0 C cl fp B' a ha => ⟨dts_one ?_, fun h => (nomatch h)⟩))) (de_lstD dad_nil) (opd_ne (d := .list (((List.range d).filter fun _ => false).map nD)) (d' := .list []) hr.units (by rw [hfr]; rfl) rfl)) (by rw [hfr]; rfl)) (fun h => (nomatch h)) (fun _ => dss_nil ⟨_, rfl, wk0 _ _ _⟩))
    · exact di_r1n B (de_eq (de_nc B (nc_b (cd_lenL (ds := L.map plL)) nb.len) (da_cons (de_name (P := isD X.K (.list (L.map plL))) B 15) da_nil) (.inl rfl)) (by rw [List.length_map, hLn])) nb.range (by omega)
    · have had := List.mem_range.mp ha
      obtain ⟨x, y, q1, q2, q3⟩ := hL.near a had
      have hxs := hLs x (List.mem_of_getElem? q1)
      rw [← hnG x hxs.s] at q3
      have i1 : atI (L.map plL) (1 + ((a : Nat) : Int)) = some (plL y) := by
        have := atI_at (xs := L.map plL) (k := a + 1) (a := plL y) (by rw [List.getElem?_map, q2]; rfl)
        rw [← this]; congr 1; omega
      have i2 : atI (L.map plL) (1 + ((a : Nat) : Int) - 1) = some (plL x) := by
        have := atI_at (xs := L.map plL) (k := a) (a := plL x) (by rw [List.getElem?_map, q1]; rfl)
        rw [← this]; congr 1; omega
      refine dt_eq (dt_cmp (de_ix (de_name (P := isD X.K (.list (L.map plL))) B' 15) (de_name B' 18) (ixd_l i1)) (de_nc B' (nk (X := BY X s0 H0 _ C cl fp) f2 hr ⟨(W, x), by rw [← htb]; exact hxs.s.tri, hw.bk.hi⟩) (da_cons (de_name B' 1) (da_cons (de_ix (de_name (P := isD X.K (.list (L.map plL))) B' 15) (de_bin (de_name B' 18) de_int (opd_sub _ _)) (ixd_l i2)) da_nil)) (.inl rfl)) (opd_notInL (X := BY X s0 H0 _ C cl fp) (d := plL y) (ds := (nearG W x).map plL) (by show X.A.units + 65 < _; omega) ((shp_plL y).ok (by omega)) ((shp_l fun c _ => shp_plL c).ok (by omega)))) ?_
      rw [in_near q3]; rfl
end
end K7

set_option maxHeartbeats 600000
/-! K42: _law_steps_right. -/
namespace K7
open PySem PySem.Spec PyProof.Rows L2 DL Hd
def mostF (W : Wo) : Nat := if W.back.length < 3 then 4 else 3
def ssS0 (b : Bo) (W : Wo) : Bo × Pl := ((takeF (sceneF W b (mostF W)).1 4).2, (sceneF W b (mostF W)).2)
def ssN0 (b : Bo) (W : Wo) : Nat := (takeF (sceneF W b (mostF W)).1 4).1
def ssS1 (b : Bo) (W : Wo) : Bo × Pl := thereN W (ssN0 b W) (ssS0 b W)
def ssS2 (b : Bo) (W : Wo) : Bo × Pl := sceneF W (ssS1 b W).1 (ssS0 b W).2.length
def ssBox (b : Bo) (W : Wo) : Bo := rfBox (ssS2 b W).1 W
theorem mostF_le (W : Wo) : mostF W ≤ 4 := by unfold mostF; split <;> omega
section
variable {M : Md} (nb : NoB M.mg) {CT CS CI fI fr fe fl fi fj : Addr} (sc : ScF M.K CS) (si : InsF M.K CS)
variable (hS : M.mg "Scene" = some (.ref CS)) (mr : Meth M.K CS "rows" fr) (mk : Mk M.K CS fj)
variable (g1 : FM M fj 3 ["self", "table", "rows"] (snArgs M CT CS) (fun _ => dD M.K .none))
variable (f6 : FMB M fr 2 ["self"] (srArgs M CT CS) (fun i => oLn M.K (i.1.2.map (nmD i.1.1.ways)))) (f7 : ∀ n, FB M "_law_same" (n + 1) ["told", "due"] (smArgs M n) (fun _ => dD M.K (.bool true)))
variable (f5 : FM M fe 1 ["self", "other"] (teArgs M CT) (fun i => dD M.K (.bool (tabEq i.1.1 i.1.2)))) (e5 : EqF M.K CT fe)
variable (f2 : FK M "_law_near" 3 ["world", "rows"] (lnrArgs M) (fun i => oLn M.K ((nearG i.1.1 i.1.2).map plL))) (f3 : FK M "_law_named" 1 ["world", "rows"] (lmArgs M) (fun i => oLn M.K (i.1.2.map (nmD i.1.1.names)))) (f4 : FK M "_law_key" 1 ["rows"] (keyArgs M) (fun i => dD M.K (plD i.1)))
variable (Fs : FnD M "steps" (topS 45) ["one", "other"]) (fs : FK M "steps" 6 ["one", "other"] (stArgs M CT CS) (fun i => optSs M.K CT CS i.1.1.1 (stepsF i.1.1.1 i.1.1.2 i.1.2.2)))
structure SsOk (b : Bo) (W : Wo) (T : Tab) : Prop where
  b : BoOk 24 b
  tw : TwOk W T
abbrev lsrArgs (M : Md) (CT : Addr) : { i : Bo × Wo × Tab × Bool // SsOk i.1 i.2.1 i.2.2.1 } → List DL.Arg := fun i => [.l (oB M.K i.1.1) (oB M.K (ssBox i.1.1 i.1.2.1)), .z (isWo M.P M.w M.K i.1.2.1), .z (isTb M.K CT i.1.2.2.1), .z (isD M.K (.bool i.1.2.2.2))]
include nb sc si hS mr mk g1 f6 f7 f5 e5 f2 f3 f4 Fs fs in
theorem ok__law_steps_right (F : FnD M "_law_steps_right" (topS 70) ["box", "world", "table", "by_name"])
    (h1 : FK M "_law_scene" 3 ["box", "world", "most"] (lscArgs M) (fun i => dD M.K (plL (sceneF i.1.2.1 i.1.1 i.1.2.2).2))) (h2 : FK M "_law_take" 1 ["box", "many"] (takeArgs M) (fun i => dD M.K (nD (takeF i.1.1 i.1.2).1)))
    (h3 : FK M "_law_far" 4 ["world", "rows"] (lfrArgs M) (fun i => .fz (isX M.P M.w M.K (fdN (farF i.1.1 i.1.2.1 i.1.2.2))))) (h4 : FK M "_law_refused" 7 ["box", "world", "table", "scene", "many"] (lrfArgs M CT CS) (fun _ => dD M.K (.bool true))) :
    FK M "_law_steps_right" 8 ["box", "world", "table", "by_name"] (lsrArgs M CT) (fun _ => dD M.K (.bool true)) := by
  refine fk (N := ssN) F sc__law_steps_right (fun _ => rfl) ?_
  rintro X rfl B hr ⟨⟨b, W, T, c⟩, hb, hTw⟩ G vs hv
  obtain ⟨v, w, u, z, rfl⟩ := len4 hv
  simp only at hb hTw
  have hsz := sizeLine_eq
  have hu := B.un
  have hw := hTw.w
  have htb := hTw.tb
  have hm4 := mostF_le W
  have hb5 := hw.bk.hi
  obtain ⟨m, hm⟩ : ∃ m, m = mostF W := ⟨_, rfl⟩
  obtain ⟨b1, hb1⟩ : ∃ b1, b1 = (sceneF W b m).1 := ⟨_, rfl⟩
  obtain ⟨pl, hpl⟩ : ∃ pl, pl = (sceneF W b m).2 := ⟨_, rfl⟩
  have hgp := sceneF_gd (W := W) (b := b) (most := m) (by omega)
  rw [← hpl] at hgp
  have hp : SnOk T pl := gd_so hTw hgp.1
  have o1 : BoOk 19 b1 := hb1 ▸ sceneF_ok (n := 19) (hb.mono (by omega))
  have hfew : (allP T.back.length pl.length).length ≤ 1000000 := by
    refine allP_few ?_
    rw [htb]
    by_cases h : W.back.length < 3
    · exact .inl ⟨by omega, by omega⟩
    · refine .inr ⟨hb5, ?_⟩
      have : m = 3 := by rw [hm]; unfold mostF; rw [if_neg h]
      omega
  obtain ⟨b2, hb2⟩ : ∃ b2, b2 = (takeF b1 4).2 := ⟨_, rfl⟩
  obtain ⟨n, hn⟩ : ∃ n, n = (takeF b1 4).1 := ⟨_, rfl⟩
  have hn4 : n < 4 := by rw [hn]; exact takeF_lt (by omega)
  have o2 : BoOk 18 b2 := hb2 ▸ takeF_ok o1
  let th (t : Nat) : Bo × Pl := thereN W t (b2, pl)
  have thS : ∀ t, SnOk T (th t).2 ∧ (th t).2.length = pl.length := fun t => thereN_ok hTw (s := (b2, pl)) hp t
  have thB : ∀ t, t ≤ 4 → BoOk 14 (th t).1 := fun t ht => thereN_bo t 14 (o2.mono (by omega))
  have triW : ∀ {c : Pl}, SOk T c → Tri W.back.length c := fun {c} h => by rw [← htb]; exact h.tri
  have zp := hp.s.tri.sz
  let far : Option As := some (.fz (isX X.prog X.w X.K (fdN (farF W T pl))))
  let rws : Option As := some (dD X.K (plL pl))
  let E (bx : Bo) (ro fa there tu ne an se : Option As) : Ev := [some ((oB X.K bx).at (some v)), some (.fz (isWo X.prog X.w X.K W)), some (.fz (isTb X.K CT T)), some (dD X.K (.bool c)), ro, fa, there, tu, ne, an, se, none, none, none, none, none, none, none, none]
  have C1 : ∀ (b0 b' : Bo) (k : Nat) (q : Pl), BoOk 6 b0 → k ≤ 5 → b' = (sceneF W b0 k).1 → q = (sceneF W b0 k).2 → NC X "_law_scene" [(oB X.K b0).at none, .fz (isWo X.prog X.w X.K W), dD X.K (nD k)] [(oB X.K b').at none, .fz (isWo X.prog X.w X.K W), dD X.K (nD k)] (dD X.K (plL q)) := fun b0 b' k q hb0 hk e1 e2 => by
    have := nk h1 hr ⟨(b0, W, k), hb0, hw, hk⟩
    rw [e1, e2]; exact this
  have C2 : ∀ (b0 : Bo) (k : Nat), BoOk 1 b0 → 0 < k → k < 1073741824 → NC X "_law_take" [(oB X.K b0).at none, dD X.K (nD k)] [(oB X.K (takeF b0 k).2).at none, dD X.K (nD k)] (dD X.K (nD (takeF b0 k).1)) := fun b0 k q1 q2 q3 => nk h2 hr ⟨(b0, k), q1, q2, q3⟩
  have hf1 : ∃ f, X.mg "_law_scene" = some (.ref f) := let ⟨f, _, h, _⟩ := h1; ⟨f, h⟩
  have hf2 : ∃ f, X.mg "_law_take" = some (.ref f) := let ⟨f, _, h, _⟩ := h2; ⟨f, h⟩
  let E0 : Ev := E b none none none none none none none
  have A3 : ∀ {p1 p2 p3 p4 p5 p6 p7 p8 : Pos} {j1 j2 j3 j4}, DE X G E0 (.IfExp (.Compare (.Subscript (.Name "world" p1) (.Constant (.str "many") j1 p2) p3) [.Lt] [.Constant (.int 3) j2 p4] p5) (.Constant (.int 4) j3 p6) (.Constant (.int 3) j4 p7) p8) E0 (dD X.K (nD m)) := by
    intro p1 p2 p3 p4 p5 p6 p7 p8 j1 j2 j3 j4
    refine de_if (env1 := E0) (k := decide (W.back.length < 3)) (dt_eq (dt_cmp (de_getW (L := woL X.prog X.w X.K W) (de_name B 1) rfl (by omega)) de_int (opd_lt _ _)) (decide_eq_decide.mpr (by omega))) (fun h => ?_) (fun h => ?_)
    · have : m = 4 := by rw [hm]; unfold mostF; rw [if_pos (of_decide_eq_true h)]
      rw [this]; exact de_int
    · have : m = 3 := by rw [hm]; unfold mostF; rw [if_neg (of_decide_eq_false h)]
      rw [this]; exact de_int
  refine dss_go (env1 := E b1 rws none none none none none none) (ds_set B 4 (de_ncL (q := some v) (A := oB X.K b) B 0 (C1 b b1 m pl (hb.mono (by omega)) (by omega) hb1 hpl) (da_cons (de_name B 1) (da_cons A3 da_nil)) (.inl rfl) (hf := hf1))) ?_
  refine dss_go (env1 := E b1 rws far none none none none none) (ds_set B 5 (de_nc B (nk h3 hr ⟨(W, T, pl), hTw, hp.s, hfew⟩) (da_cons (de_name B 1) (da_cons (de_name B 4) da_nil)) (.inl rfl))) ?_
  refine dss_go (env1 := E b1 rws far rws none none none none) (ds_set B 6 (de_name B 4)) ?_
  let Et (t : Nat) : Ev := E (th t).1 rws far (some (dD X.K (plL (th t).2))) none none none none
  have CT2 := C2 b1 4 (o1.mono (by omega)) (by omega) (by omega)
  rw [← hb2, ← hn] at CT2
  refine dss_go (env1 := Et n) (ds_forN B (di_rn (env1 := Et 0) B (de_ncL (q := some v) (A := oB X.K b1) B 0 CT2 (da_cons de_int da_nil) (.inl rfl) (hf := hf2)) nb.range (by omega)) Et (Wk.refl _) (fun t P hP => ?_) (by
    show NX _ (.nx (Et _))
    rw [List.length_map, List.length_range]; rfl)) ?_
  · rw [List.getElem?_map, Option.map_eq_some_iff] at hP
    obtain ⟨t', hq, rfl⟩ := hP
    have htn : t < n := by
      have := (List.getElem?_eq_some_iff.mp hq).1
      rwa [List.length_range] at this
    obtain ⟨s, hs⟩ : ∃ s, s = th t := ⟨_, rfl⟩
    have hs1 : th (t + 1) = thereT W s := by rw [hs]; rfl
    have hss := thS t
    rw [← hs] at hss
    have hsb : BoOk 14 s.1 := hs ▸ thB t (by omega)
    have hnG : nearG W s.2 = nearS T s.2 := nearG_eq hTw (triW hss.1.s)
    have hle := nearS_le hss.1.s
    rw [← hnG] at hle
    let tuE : Option As := some (dD X.K (.int (t' : Nat)))
    let nl : Option As := some (dD X.K (.list ((nearG W s.2).map plL)))
    let E2 (bx : Bo) (q : Pl) (ne : Option As) : Ev := E bx rws far (some (dD X.K (plL q))) tuE ne none none
    have hE : Et t = E s.1 rws far (some (dD X.K (plL s.2))) none none none none := by show E (th t).1 _ _ _ _ _ _ _ = _; rw [← hs]
    have hE1 : Et (t + 1) = E (thereT W s).1 rws far (some (dD X.K (plL (thereT W s).2))) none none none none := by show E (th (t + 1)).1 _ _ _ _ _ _ _ = _; rw [hs1]
    rw [hE, hE1]
    refine ⟨[7], E2 s.1 s.2 none, dg_name B 7, ?_⟩
    refine dss_go (env1 := E2 s.1 s.2 nl) (ds_set B 8 (de_frz (de_nc B (nk f2 hr ⟨(W, s.2), triW hss.1.s, hb5⟩) (da_cons (de_name B 1) (da_cons (de_name B 6) da_nil)) (.inl rfl)))) ?_
    have tst : ∀ {p1 p2 p3 : Pos}, DT X G (E2 s.1 s.2 nl) (.Compare (.Name "near" p1) [.NotEq] [.List [] p2] p3) (E2 s.1 s.2 nl) (!decide (nearG W s.2 = [])) := fun {p1 p2 p3} =>
      dt_eq (dt_cmp (de_name (P := isD X.K (.list ((nearG W s.2).map plL))) B 8) (de_lstD dad_nil) (opd_ne (d' := .list []) hr.units ((shp_l fun c _ => shp_plL c).ok (by omega)) (by decide +kernel))) (by rw [eqv_nil]; congr 1; exact decide_eq_decide.mpr (by simp))
    have wk1 : ∀ bx q, Wk (E2 bx q nl) (E bx rws far (some (dD X.K (plL q))) none none none none) := fun bx q => Drop.wk (by repeat (first | exact Drop.nil | apply Drop.keep | apply Drop.skip))
    by_cases he : nearG W s.2 = []
    · have e1 : thereT W s = s := by unfold thereT; rw [if_pos he]
      rw [e1]
      have tst' : ∀ {p1 p2 p3 : Pos}, DT X G (E2 s.1 s.2 nl) (.Compare (.Name "near" p1) [.NotEq] [.List [] p2] p3) (E2 s.1 s.2 nl) false := fun {p1 p2 p3} => dt_eq tst (by rw [decide_eq_true he]; rfl)
      exact dss_end (ds_last (ds_set (env1 := E2 s.1 s.2 nl) B 6 (de_if (k := false) (A := dD X.K (plL s.2)) tst' (fun h => (nomatch h)) (fun _ => de_name B 6))) (wk1 _ _))
    · have hlen : 0 < (nearG W s.2).length := List.length_pos_iff.mpr he
      have hin := thereT_in (s := s) he
      have eb : (thereT W s).1 = (takeF s.1 (nearG W s.2).length).2 := by unfold thereT; rw [if_neg he]
      have tst' : ∀ {p1 p2 p3 : Pos}, DT X G (E2 s.1 s.2 nl) (.Compare (.Name "near" p1) [.NotEq] [.List [] p2] p3) (E2 s.1 s.2 nl) true := fun {p1 p2 p3} => dt_eq tst (by rw [decide_eq_false he]; rfl)
      have C3 := C2 s.1 (nearG W s.2).length (hsb.mono (by omega)) hlen (by omega)
      rw [← eb] at C3
      have ix : atI ((nearG W s.2).map plL) (((takeF s.1 (nearG W s.2).length).1 : Nat) : Int) = some (plL (thereT W s).2) := atI_at (by rw [List.getElem?_map, hin]; rfl)
      refine dss_end (ds_last (ds_set (env1 := E2 (thereT W s).1 s.2 nl) B 6 (de_if (k := true) (A := dD X.K (plL (thereT W s).2)) tst' (fun _ => ?_) (fun h => (nomatch h)))) (wk1 _ _))
      exact de_ix (env1 := E2 s.1 s.2 nl) (de_name (P := isD X.K (.list ((nearG W s.2).map plL))) B 8) (de_ncL (q := some v) (A := oB X.K s.1) B 0 C3 (da_cons (de_eq (de_nc B (nc_b (cd_lenL (ds := (nearG W s.2).map plL)) nb.len) (da_cons (de_name B 8) da_nil) (.inl rfl)) (by rw [List.length_map])) da_nil) (.inl rfl) (hf := hf2)) (ixd_l ix)
  obtain ⟨s, hs⟩ : ∃ s, s = th n := ⟨_, rfl⟩
  have hss := thS n
  have hsb := thB n (by omega)
  rw [← hs] at hss hsb
  obtain ⟨b3, hb3⟩ : ∃ b3, b3 = (sceneF W s.1 pl.length).1 := ⟨_, rfl⟩
  obtain ⟨ap, hap⟩ : ∃ ap, ap = (sceneF W s.1 pl.length).2 := ⟨_, rfl⟩
  have hpl5 : pl.length ≤ 4 := by omega
  have hga := sceneF_gd (W := W) (b := s.1) (most := pl.length) (by omega)
  rw [← hap] at hga
  have ha : SnOk T ap := gd_so hTw hga.1
  have o3 : BoOk 7 b3 := hb3 ▸ sceneF_ok (n := 7) (hsb.mono (by omega))
  have hEn : Et n = E s.1 rws far (some (dD X.K (plL s.2))) none none none none := by show E (th n).1 _ _ _ _ _ _ _ = _; rw [← hs]
  rw [hEn]
  let thE : Option As := some (dD X.K (plL s.2))
  let anE : Option As := some (dD X.K (plL ap))
  refine dss_go (env1 := E b3 rws far thE none none anE none) (ds_set B 9 (de_ncL (q := some v) (A := oB X.K s.1) B 0 (C1 s.1 b3 pl.length ap (hsb.mono (by omega)) (by omega) hb3 hap) (da_cons (de_name B 1) (da_cons (de_eq (de_nc B (nc_b (cd_lenL (ds := pl.map lsD)) nb.len) (da_cons (de_name B 4) da_nil) (.inl rfl)) (by rw [List.length_map])) da_nil)) (.inl rfl) (hf := hf1))) ?_
  have hnm : NmOk W pl := nm_ok hTw hp.s
  refine dss_go (env1 := E b3 rws far thE none none anE (some (.fz (isSc X.K CT CS T pl)))) (ds_set B 10 (de_frz (de_nc B (nkC mk g1 hS hr ⟨(T, pl), hp⟩ rfl rfl) (da_cons (de_name B 2) (da_cons (de_nc B (nk f3 hr ⟨(W, pl), hnm⟩) (da_cons (de_name B 1) (da_cons (de_name B 4) da_nil)) (.inl rfl)) da_nil)) (.inl (by
    show [_, As.fz (isD X.K (nmsD W.names pl))] = [_, As.fz (isD X.K (nmsD T.ways pl))]
    rw [hTw.tw]; rfl))))) ?_
  have hbx : rfBox b3 W = ssBox b W := by
    rw [hb3, hs]
    show rfBox (sceneF W (thereN W n (b2, pl)).1 pl.length).1 W = _
    rw [hn, hb2, hb1, hpl, hm]; rfl
  let x : List Pl := if ap.length = pl.length then [ap] else []
  let gs : List Pl := [s.2, pl] ++ x
  have hgs : ∀ g ∈ gs, SnOk T g ∧ g.length = pl.length := fun g hg => by
    rcases List.mem_append.mp hg with h | h
    · rcases List.mem_cons.mp h with rfl | h
      · exact hss
      · rw [List.mem_singleton.mp h]; exact ⟨hp, rfl⟩
    · have h' : g ∈ (if ap.length = pl.length then [ap] else []) := h
      by_cases e : ap.length = pl.length
      · rw [if_pos e] at h'
        rw [List.mem_singleton.mp h']; exact ⟨ha, e⟩
      · rw [if_neg e] at h'; cases h'
  have hgz : gs.length ≤ 3 := by
    show ([s.2, pl] ++ (if ap.length = pl.length then [ap] else [])).length ≤ 3
    split <;> simp
  let k1 : Bool := decide (((ap.map lsD).length : Int) = ((pl.map lsD).length : Int))
  have hk1 : k1 = decide (ap.length = pl.length) := by
    show decide _ = _
    rw [List.length_map, List.length_map]
    exact decide_eq_decide.mpr (by omega)
  have hx : ([plL s.2, plL pl] ++ (List.replicate ((if k1 then (1 : Int) else 0)).toNat [plL ap]).flatten) = gs.map plL := by
    rw [hk1]
    show _ = ([s.2, pl] ++ (if ap.length = pl.length then [ap] else [])).map plL
    by_cases e : ap.length = pl.length
    · simp [e]
    · simp [e]
  let cs (i : Nat) : Bool := if i % 2 = 0 then c else !c
  have hcs : ∀ i, cs (i + 1) = !cs i := fun i => by
    show (if (i + 1) % 2 = 0 then c else !c) = !(if i % 2 = 0 then c else !c)
    by_cases e : i % 2 = 0
    · rw [if_pos e, if_neg (by omega)]
    · rw [if_neg e, if_pos (by omega)]; simp
  let Eg (i : Nat) : Ev := Sg X CT CS W T pl (some ((oB X.K b3).at (some v))) thE none none anE (cs i) none none none none
  have hk01 : 0 ≤ (if k1 then (1 : Int) else 0) ∧ (if k1 then (1 : Int) else 0) ≤ 1 := by cases k1 <;> decide
  refine dss_go (env1 := Eg gs.length) (ds_forN B (di_ldm (A := oLn X.K (gs.map plL)) (env1 := Eg 0) gs plL (de_eq (de_bin (de_lstD (ds := [plL s.2, plL pl]) (dad_cons (de_name B 6) rfl (dad_cons (de_name B 4) rfl dad_nil))) (de_bin (de_lstD (ds := [plL ap]) (dad_cons (de_name B 9) rfl dad_nil)) (de_nc B (nc_t (cd_intB k1) nb.int) (da_cons (de_cmp (de_nc B (nc_b (cd_lenL (ds := ap.map lsD)) nb.len) (da_cons (de_name B 9) da_nil) (.inl rfl)) (de_nc B (nc_b (cd_lenL (ds := pl.map lsD)) nb.len) (da_cons (de_name B 4) da_nil) (.inl rfl)) (opd_eqI _ _ hr.units)) da_nil) (.inl rfl)) (opd_repL (ds := [plL ap]) (n := if k1 then (1 : Int) else 0) (by omega) (by omega) (by show 1 * _ ≤ _; omega))) (opd_catL (ds := [plL s.2, plL pl]) (es := (List.replicate ((if k1 then (1 : Int) else 0)).toNat [plL ap]).flatten) ?_)) (by rw [hx])) rfl) Eg (Wk.refl _) (fun i P hP => ?_) (by
    show NX _ (.nx (Eg _))
    rw [List.length_map]; rfl)) ?_
  · have : ((List.replicate ((if k1 then (1 : Int) else 0)).toNat [plL ap]).flatten).length ≤ 1 := by rw [rep_flat, List.length_replicate]; omega
    show 2 + _ ≤ _
    omega
  · rw [List.getElem?_map, Option.map_eq_some_iff] at hP
    obtain ⟨g, hq, rfl⟩ := hP
    obtain ⟨q1, q2⟩ := hgs g (List.mem_of_getElem? hq)
    refine ⟨[11], Sg X CT CS W T pl (some ((oB X.K b3).at (some v))) thE none none anE (cs i) (some (dD X.K (plL g))) none none none, dg_name B 11, ?_⟩
    have e : Eg (i + 1) = Sg X CT CS W T pl (some ((oB X.K b3).at (some v))) thE none none anE (!cs i) none none none none := by
      show Sg X CT CS W T pl _ thE none none anE (cs (i + 1)) none none none none = _
      rw [hcs]
    rw [e]
    exact goal_turn nb sc si hS mr mk g1 f6 f7 f5 e5 f2 f3 f4 Fs fs rfl B hr hTw hp q1 q2 hfew
  have Cr : NC X "_law_refused" [(oB X.K b3).at none, .fz (isWo X.prog X.w X.K W), .fz (isTb X.K CT T), .fz (isSc X.K CT CS T pl), dD X.K (nD pl.length)] [(oB X.K (rfBox b3 W)).at none, .fz (isWo X.prog X.w X.K W), .fz (isTb X.K CT T), .fz (isSc X.K CT CS T pl), dD X.K (nD pl.length)] (dD X.K (.bool true)) := nk h4 hr ⟨(b3, W, T, pl), o3, hTw, hp.s⟩
  have hf4 : ∃ f, X.mg "_law_refused" = some (.ref f) := let ⟨f, _, h, _⟩ := h4; ⟨f, h⟩
  refine dss_end (ds_ret (de_ncL (q := some v) (A := oB X.K b3) B 0 Cr (da_cons (de_name B 1) (da_cons (de_name B 2) (da_cons (de_name B 10) (da_cons (de_eq (de_nc B (nc_b (cd_lenL (ds := pl.map lsD)) nb.len) (da_cons (de_name B 4) da_nil) (.inl rfl)) (by rw [List.length_map])) da_nil)))) (.inl rfl) (hf := hf4)) ⟨rfl, ?_, trivial⟩)
  show some _ = some ((oB X.K (ssBox b W)).at (some v))
  rw [← hbx]
end
end K7

set_option maxHeartbeats 1000000
/-! K43: the script; _law_cell of it. -/
namespace DL
open PySem PySem.Spec PyProof.Rows L2
/-- a list of these ints, perhaps a part of the module -/
def isScr (K : PySem.W.Frag) (ns : List Int) : FP := ⟨fun H v => ∃ a, v = .ref a ∧ SqL K H a (ns.map V.int), fun e ⟨a, h1, h2⟩ => ⟨a, h1, e.l h2⟩⟩
section
variable {X : Cx} {K : PySem.W.Frag} {G : Reg} {env env1 : Ev} {A : As} {e : Expr} {pos : Pos}
theorem dpAll_of_ints {H : Hp} : ∀ ns : List Int, DpAll K H (ns.map V.int) (ns.map PyData.int)
  | [] => .nil
  | n :: ns => .cons (.int n) (dpAll_of_ints ns)
theorem cd_lenScr {ns : List Int} : CallD X (.builtin "len") [.fz (isScr X.K ns)] [.fz (isScr X.K ns)] (dD X.K (.int ns.length)) :=
  cd_one call_len_seq (.int ns.length) isD_int fun HF H va ex ⟨a, h1, h2⟩ Q q => by
    refine ⟨a, ns.map V.int, by rw [h1], .inl (ex.l h2), ?_⟩
    rw [List.length_map]; exact q
theorem ixd_scr {ns : List Int} {k : Nat} {z : Int} (h : ns[k]? = some z) : IxD X (isScr X.K ns) (isD X.K (.int (k : Nat))) (dD X.K (.int z)) :=
  ⟨_, ix_list, fun G T env σ H va vb hs Q q => by
    obtain ⟨HF, o1, o2, h1, ⟨p, e, h2⟩, hb, t, s⟩ := hs.two'
    exact ⟨p, ns.map V.int, (k : Nat), .int z, e, dpI hb, h1.inH.l h2, atI_at (by rw [List.getElem?_map, h]; rfl), q _ H ⟨HF, [] ++ o1, o2, h1, .cons (A := dD X.K (.int z)) ⟨rfl, .int z⟩ t, s⟩⟩⟩
theorem de_slScr {lo hi : Option Expr} {l u : Option Int} {p2 : Pos} {ns : List Int} (h : DE X G env e env1 A) (hA : A.fr = isScr X.K ns) (hl : DO X G env1 lo l) (hh : DO X G env1 hi u) : DE X G env (.Subscript e (.Slice lo hi none p2) pos) env1 (oLn X.K (cutD (ns.map .int) l u)) := by
  obtain ⟨tl, pl, kl⟩ := hl
  obtain ⟨th, ph, kh⟩ := hh
  refine de_of (pe_slice sl_list cE_pe pl ph) fun T σ H hs Q q => h T σ H hs _ fun v H1 h1 => kl _ σ H1 h1.freeze _ fun H2 h2 => kh _ σ H2 h2 _ fun H3 h3 => ?_
  rw [hA] at h3
  obtain ⟨HF, o1, o2, k1, ⟨p, e, h4⟩, t, s⟩ := h3.one'
  refine ⟨p, ns.map V.int, e, k1.inH.l h4, fun p hp => q _ _ (StA.newO k1 t s hp ⟨fun _ z => (nomatch z), p, _, rfl, rfl, dpAll_cut (dpAll_of_ints ns) l u⟩)⟩
end
end DL
namespace K7
open PySem PySem.Spec PyProof.Rows L2 DL Hd
section
variable {M : Md} (nb : NoB M.mg)
abbrev cellArgs (M : Md) : List Int × Nat → List DL.Arg := fun i => [.z (isScr M.K i.1), .z (isD M.K (nD i.2))]
include nb in
theorem ok__law_cellS (F : FnD M "_law_cell" (topS 47) ["script", "k"]) : FK M "_law_cell" 1 ["script", "k"] (cellArgs M) (fun i => dD M.K (.int (cellF i.1 i.2))) := by
  refine fk (N := ["script", "k"]) F sc__law_cell (fun _ => rfl) ?_
  rintro X rfl B hr ⟨zs, k⟩ G vs hv
  obtain ⟨v, w, rfl⟩ := len2 hv
  let E : Ev := [some (.fz (isScr X.K zs)), some (dD X.K (nD k))]
  refine dss_end (ds_ret (env1 := E) (A := dD X.K (.int (cellF zs k))) (de_if (env1 := E) (k := decide (((k : Nat) : Int) < (zs.length : Nat))) (dt_cmp (de_name B 1) (de_nc B (nc_b cd_lenScr nb.len) (da_cons (de_name (P := isScr X.K zs) B 0) da_nil) (.inl rfl)) (opd_lt _ _)) (fun h => ?_) (fun h => ?_)) ⟨rfl, trivial⟩)
  · have hk : k < zs.length := by simpa using h
    have e : cellF zs k = zs[k] := by unfold cellF; rw [List.getElem?_eq_getElem hk]
    refine de_ix (de_name (P := isScr X.K zs) B 0) (de_name (P := isD X.K (nD k)) B 1) (ixd_scr ?_)
    rw [List.getElem?_eq_getElem hk, e]
  · have hk : zs.length ≤ k := by simpa using h
    have e : cellF zs k = 6353 * (k : Int) + (zs.take 1).sum % 1000033 := by unfold cellF; rw [List.getElem?_eq_none hk]
    have ec : DL.cutD (zs.map PyData.int) none (some 1) = (zs.take 1).map .int := by
      cases zs with
      | nil => rfl
      | cons a l => simp [DL.cutD, HT.sIx]
    refine de_eq (de_bin (de_bin de_int (de_name (P := isD X.K (nD k)) B 1) (opd_mul _ _ (.inl ⟨by decide, by decide⟩))) (de_bin (de_nc B (nc_t (cd_int _) nb.int) (da_cons (de_nc B (nc_b (cd_sum B.calm (zs.take 1)) nb.sum) (da_cons (de_eq (de_frz (de_slScr (de_name (P := isScr X.K zs) B 0) rfl do_none (do_some de_int))) (by show As.fz (isD X.K (.list (DL.cutD _ _ _))) = _; rw [ec])) da_nil) (.inl rfl)) da_nil) (.inl rfl)) de_int (opd_mod _ _ (by decide))) (opd_add _ _)) (by rw [e])
end
end K7

set_option maxHeartbeats 1000000
/-! K44: law. -/
namespace K7
open PySem PySem.Spec PyProof.Rows L2 DL Hd
section
variable {M : Md} (nb : NoB M.mg) {CT CS : Addr}
theorem sc_law : FnScope ["script", "k", "box", "by_name", "world", "table"] ["script"] (defScope (topS 72)) := ⟨rfl, rfl, rfl, by decide +kernel, rfl, by decide +kernel, by decide +kernel⟩
include nb in
theorem ok_law (F : FnD M "law" (topS 72) ["script"]) (h1 : FK M "_law_box" 1 ["great"] (fun z : Int => [.z (isD M.K (.int z))]) (fun z => oLn M.K (boD (boxF z)))) (h2 : FK M "_law_cell" 1 ["script", "k"] (cellArgs M) (fun i => dD M.K (.int (cellF i.1 i.2))))
    (h3 : FK M "_law_take" 1 ["box", "many"] (takeArgs M) (fun i => dD M.K (nD (takeF i.1.1 i.1.2).1))) (h4 : FK M "_law_world" 4 ["box", "many"] (lwArgs M) (fun i => .fz (isWo M.P M.w M.K (worldF i.1.1 i.1.2).1))) (h5 : FK M "_law_table" 6 ["box", "world"] (ltArgs M) (fun i => .fz (isTb M.K CT (tableF i.1.2 i.1.1).1)))
    (h6 : FK M "_law_neighbours_right" 7 ["box", "world", "table", "by_name"] (lnbArgs M CT) (fun _ => dD M.K (.bool true))) (h7 : FK M "_law_steps_right" 8 ["box", "world", "table", "by_name"] (lsrArgs M CT) (fun _ => dD M.K (.bool true))) :
    FK M "law" 9 ["script"] (fun ns : List Int => [.z (isScr M.K ns)]) (fun _ => dD M.K (.bool true)) := by
  refine fk (N := ["script", "k", "box", "by_name", "world", "table"]) F sc_law (fun _ => rfl) ?_
  rintro X rfl B hr ns G vs hv
  obtain ⟨v, rfl⟩ := len1 hv
  have hsz := sizeLine_eq
  have hu := B.un
  let E (k bx by_ wo ta : Option As) : Ev := [some (.fz (isScr X.K ns)), k, bx, by_, wo, ta]
  let E0 : Ev := E none none none none none
  have hf3 : ∃ f, X.mg "_law_take" = some (.ref f) := let ⟨f, _, h, _⟩ := h3; ⟨f, h⟩
  have hf4 : ∃ f, X.mg "_law_world" = some (.ref f) := let ⟨f, _, h, _⟩ := h4; ⟨f, h⟩
  have hf5 : ∃ f, X.mg "_law_table" = some (.ref f) := let ⟨f, _, h, _⟩ := h5; ⟨f, h⟩
  have hf6 : ∃ f, X.mg "_law_neighbours_right" = some (.ref f) := let ⟨f, _, h, _⟩ := h6; ⟨f, h⟩
  have hf7 : ∃ f, X.mg "_law_steps_right" = some (.ref f) := let ⟨f, _, h, _⟩ := h7; ⟨f, h⟩
  have C3 : ∀ (b0 : Bo) (k : Nat), BoOk 1 b0 → 0 < k → k < 1073741824 → NC X "_law_take" [(oB X.K b0).at none, dD X.K (nD k)] [(oB X.K (takeF b0 k).2).at none, dD X.K (nD k)] (dD X.K (nD (takeF b0 k).1)) := fun b0 k q1 q2 q3 => nk h3 hr ⟨(b0, k), q1, q2, q3⟩
  let mn : Int := if (3 : Int) < (ns.length : Nat) then 3 else (ns.length : Nat)
  let mx : Int := if mn > 1 then mn else 1
  have hmx : mx < 2 ^ 62 ∧ -(2 ^ 62) ≤ mx := by
    have a1 : 0 ≤ mn ∧ mn ≤ 3 := by
      show 0 ≤ (if (3 : Int) < (ns.length : Nat) then (3 : Int) else (ns.length : Nat)) ∧ (if (3 : Int) < (ns.length : Nat) then (3 : Int) else (ns.length : Nat)) ≤ (3 : Int)
      split <;> omega
    show (if mn > 1 then mn else 1) < _ ∧ _ ≤ (if mn > 1 then mn else 1)
    split <;> omega
  refine dss_go (env1 := E0) (ds_forN B (di_r1 (n := mx) (env1 := E0) B (de_nc B (nc_b (cd_max2 B.calm 1 mn) nb.max) (da_cons de_int (da_cons (de_nc B (nc_b (cd_min2 B.calm ((ns.length : Nat) : Int) 3) nb.min) (da_cons (de_nc B (nc_b cd_lenScr nb.len) (da_cons (de_name (P := isScr X.K ns) B 0) da_nil) (.inl rfl)) (da_cons de_int da_nil)) (.inl rfl)) da_nil)) (.inl rfl)) nb.range hmx) (fun _ => E0) (Wk.refl _) (fun i P hP => ?_) rfl) (dss_end (ds_ret de_bl ⟨rfl, trivial⟩))
  have hP' : P = isD X.K (nD i) := by
    rw [List.getElem?_map, Option.map_eq_some_iff] at hP
    obtain ⟨d, hd, rfl⟩ := hP
    unfold rgD at hd
    rw [List.getElem?_map, Option.map_eq_some_iff] at hd
    obtain ⟨j, hj, rfl⟩ := hd
    obtain ⟨h1, h2⟩ := List.getElem?_eq_some_iff.mp hj
    rw [List.getElem_range] at h2
    subst h2
    rw [Int.zero_add]; rfl
  subst hP'
  let kE : Option As := some (dD X.K (nD i))
  refine ⟨[1], E kE none none none none, dg_name B 1, ?_⟩
  obtain ⟨b0, hb0⟩ : ∃ b0, b0 = boxF (cellF ns i) := ⟨_, rfl⟩
  have o0 : BoOk 600 b0 := hb0 ▸ (boxF_ok _).mono (by omega)
  refine dss_go (env1 := E kE (some (oLn X.K (boD b0))) none none none) (ds_set B 2 (de_eq (de_nc B (nk h1 hr (cellF ns i)) (da_cons (de_nc B (nk h2 hr (ns, i)) (da_cons (de_name (P := isScr X.K ns) B 0) (da_cons (de_name B 1) da_nil)) (.inl rfl)) da_nil) (.inl rfl)) (by rw [hb0]; rfl))) ?_
  obtain ⟨b1, hb1⟩ : ∃ b1, b1 = (takeF b0 2).2 := ⟨_, rfl⟩
  obtain ⟨c, hc⟩ : ∃ c, c = decide ((((takeF b0 2).1 : Nat) : Int) = 1) := ⟨_, rfl⟩
  have o1 : BoOk 599 b1 := hb1 ▸ takeF_ok o0
  let byE : Option As := some (dD X.K (.bool c))
  have T0 := C3 b0 2 (o0.mono (by omega)) (by omega) (by omega)
  rw [← hb1] at T0
  refine dss_go (env1 := E kE (some ((oB X.K b1).at none)) byE none none) (ds_set (env1 := E kE (some ((oB X.K b1).at none)) none none none) B 3 (de_eq (de_cmp (de_ncL (q := none) (A := oB X.K b0) B 2 T0 (da_cons de_int da_nil) (.inl rfl) (hf := hf3)) de_int (opd_eqI _ _ hr.units)) (by rw [hc]))) ?_
  obtain ⟨b2, hb2⟩ : ∃ b2, b2 = (takeF b1 4).2 := ⟨_, rfl⟩
  have o2 : BoOk 598 b2 := hb2 ▸ takeF_ok o1
  obtain ⟨kk, hkk⟩ : ∃ kk, kk = if 0 < (takeF b1 4).1 then 3 else 4 := ⟨_, rfl⟩
  have hk34 : 3 ≤ kk ∧ kk ≤ 4 := by rw [hkk]; split <;> omega
  obtain ⟨b3, hb3⟩ : ∃ b3, b3 = (takeF b2 kk).2 := ⟨_, rfl⟩
  have o3 : BoOk 597 b3 := hb3 ▸ takeF_ok o2
  obtain ⟨t, ht⟩ : ∃ t, t = (takeF b2 kk).1 := ⟨_, rfl⟩
  have ht4 : t < kk := by rw [ht]; exact takeF_lt (by omega)
  obtain ⟨W, hW⟩ : ∃ W, W = (worldF b3 (1 + t)).1 := ⟨_, rfl⟩
  obtain ⟨b4, hb4⟩ : ∃ b4, b4 = (worldF b3 (1 + t)).2 := ⟨_, rfl⟩
  have hw : WoOk W := hW ▸ (worldF_wo (b := b3) (m := 1 + t) (by omega) (by omega)).1
  have o4 : BoOk 326 b4 := hb4 ▸ worldF_ok (n := 326) (by omega) (o3.mono (by omega))
  obtain ⟨T, hT⟩ : ∃ T, T = (tableF W b4).1 := ⟨_, rfl⟩
  obtain ⟨b5, hb5⟩ : ∃ b5, b5 = (tableF W b4).2 := ⟨_, rfl⟩
  have hTw : TwOk W T := hT ▸ twOk hw
  have o5 : BoOk 76 b5 := hb5 ▸ tableR_ok (n := 76) hw (o4.mono (by omega))
  obtain ⟨b6, hb6⟩ : ∃ b6, b6 = (sceneF W b5 5).1 := ⟨_, rfl⟩
  have o6 : BoOk 70 b6 := hb6 ▸ sceneF_ok (n := 70) (o5.mono (by omega))
  have T1 := C3 b1 4 (o1.mono (by omega)) (by omega) (by omega)
  rw [← hb2] at T1
  have T2 := C3 b2 kk (o2.mono (by omega)) (by omega) (by omega)
  rw [← hb3, ← ht] at T2
  have CW : NC X "_law_world" [(oB X.K b3).at none, dD X.K (nD (1 + t))] [(oB X.K b4).at none, dD X.K (nD (1 + t))] (.fz (isWo X.prog X.w X.K W)) := by
    have := nk h4 hr ⟨(b3, 1 + t), o3.mono (by omega), by show 0 < 1 + t; omega, by show 1 + t ≤ 5; omega⟩
    rw [hW, hb4]; exact this
  have CTb : NC X "_law_table" [(oB X.K b4).at none, .fz (isWo X.prog X.w X.K W)] [(oB X.K b5).at none, .fz (isWo X.prog X.w X.K W)] (.fz (isTb X.K CT T)) := by
    have := nk h5 hr ⟨(b4, W), o4.mono (by omega), hw⟩
    rw [hT, hb5]; exact this
  have CN : NC X "_law_neighbours_right" [(oB X.K b5).at none, .fz (isWo X.prog X.w X.K W), .fz (isTb X.K CT T), dD X.K (.bool c)] [(oB X.K b6).at none, .fz (isWo X.prog X.w X.K W), .fz (isTb X.K CT T), dD X.K (.bool c)] (dD X.K (.bool true)) := by
    have := nk h6 hr ⟨(b5, W, T, c), o5.mono (by omega), hTw⟩
    rw [hb6]; exact this
  have CS : NC X "_law_steps_right" [(oB X.K b6).at none, .fz (isWo X.prog X.w X.K W), .fz (isTb X.K CT T), dD X.K (.bool (!c))] [(oB X.K (ssBox b6 W)).at none, .fz (isWo X.prog X.w X.K W), .fz (isTb X.K CT T), dD X.K (.bool (!c))] (dD X.K (.bool true)) := nk h7 hr ⟨(b6, W, T, !c), o6.mono (by omega), hTw⟩
  let S (bx : Bo) (wo ta : Option As) : Ev := E kE (some ((oB X.K bx).at none)) byE wo ta
  have A3 : ∀ {p1 p2 p3 p4 p5 p6 p7 p8 p9 : Pos} {j1 j2 j3 j4}, DE X G (S b1 none none) (.IfExp (.Compare (.Call (.Name "_law_take" p1) [.Name "box" p2, .Constant (.int 4) j1 p3] [] p4) [.Gt] [.Constant (.int 0) j2 p5] p6) (.Constant (.int 3) j3 p7) (.Constant (.int 4) j4 p8) p9) (S b2 none none) (dD X.K (nD kk)) := by
    intro p1 p2 p3 p4 p5 p6 p7 p8 p9 j1 j2 j3 j4
    refine de_if (env1 := S b2 none none) (k := decide (0 < (takeF b1 4).1)) (dt_eq (dt_cmp (env1 := S b2 none none) (de_ncL (q := none) (A := oB X.K b1) B 2 T1 (da_cons de_int da_nil) (.inl rfl) (hf := hf3)) de_int (opd_gt _ _)) (decide_eq_decide.mpr (by omega))) (fun h => ?_) (fun h => ?_)
    · have : kk = 3 := by rw [hkk, if_pos (of_decide_eq_true h)]
      rw [this]; exact de_int
    · have : kk = 4 := by rw [hkk, if_neg (of_decide_eq_false h)]
      rw [this]; exact de_int
  let woE : Option As := some (.fz (isWo X.prog X.w X.K W))
  let taE : Option As := some (.fz (isTb X.K CT T))
  refine dss_go (env1 := S b4 woE none) (ds_set (env1 := S b4 none none) B 4 (de_ncL (q := none) (A := oB X.K b3) (env1 := S b3 none none) B 2 CW (da_cons (de_eq (de_bin (env1 := S b1 none none) de_int (de_ncL (q := none) (A := oB X.K b2) (env1 := S b2 none none) B 2 T2 (da_cons A3 da_nil) (.inl rfl) (hf := hf3)) (opd_add _ _)) (by show dD X.K (.int (1 + ((t : Nat) : Int))) = dD X.K (.int ((1 + t : Nat) : Int)); rw [show ((1 + t : Nat) : Int) = 1 + ((t : Nat) : Int) by omega])) da_nil) (.inl rfl) (hf := hf4))) ?_
  refine dss_go (env1 := S b5 woE taE) (ds_set (env1 := S b5 woE none) B 5 (de_ncL (q := none) (A := oB X.K b4) (env1 := S b4 woE none) B 2 CTb (da_cons (de_name B 4) da_nil) (.inl rfl) (hf := hf5))) ?_
  refine dss_end (ds_if (env1 := S (ssBox b6 W) woE taE) (k := false) (dt_eq (dt_w (dw_orE (k := !true) (k' := !true) (env2 := S (ssBox b6 W) woE taE) (dt_not (dt_val (de_ncL (q := none) (A := oB X.K b5) (env1 := S b5 woE taE) B 2 CN (da_cons (de_name B 4) (da_cons (de_name B 5) (da_cons (de_name B 3) da_nil))) (.inl rfl) (hf := hf6)))) fun _ => dw_or1 (dt_not (dt_val (de_ncL (q := none) (A := oB X.K b6) (env1 := S b6 woE taE) B 2 CS (da_cons (de_name B 4) (da_cons (de_name B 5) (da_cons (de_not (de_name B 3)) da_nil))) (.inl rfl) (hf := hf7)))))) rfl) (fun h => (nomatch h)) (fun _ => dss_nil (Drop.wk (by repeat (first | exact Drop.nil | apply Drop.keep | apply Drop.skip)))))
end
end K7

set_option maxHeartbeats 0
/-! KH: the head of k70. -/
namespace Hd
open PySem PySem.Spec PyProof.Rows L2
def fn : List He.DefD := [
  ⟨("is_list", none), "is_list", "is_list", defArgs (topS 15), defBody (topS 15), defScope (topS 15), [], []⟩,
  ⟨("is_tuple_of", none), "is_tuple_of", "is_tuple_of", defArgs (topS 16), defBody (topS 16), defScope (topS 16), [], []⟩,
  ⟨("is_word", none), "is_word", "is_word", defArgs (topS 17), defBody (topS 17), defScope (topS 17), [], []⟩,
  ⟨("is_name", none), "is_name", "is_name", defArgs (topS 18), defBody (topS 18), defScope (topS 18), [], []⟩,
  ⟨("are_ways", none), "are_ways", "are_ways", defArgs (topS 21), defBody (topS 21), defScope (topS 21), [], []⟩,
  ⟨("lot", none), "lot", "lot", defArgs (topS 22), defBody (topS 22), defScope (topS 22), [], []⟩,
  ⟨("masks_of", none), "masks_of", "masks_of", defArgs (topS 23), defBody (topS 23), defScope (topS 23), [], []⟩,
  ⟨("threes_in", none), "threes_in", "threes_in", defArgs (topS 25), defBody (topS 25), defScope (topS 25), [], []⟩,
  ⟨("is_three_of", none), "is_three_of", "is_three_of", defArgs (topS 26), defBody (topS 26), defScope (topS 26), [], []⟩,
  ⟨("names_at", none), "names_at", "names_at", defArgs (topS 28), defBody (topS 28), defScope (topS 28), [], []⟩,
  ⟨("are_rows", none), "are_rows", "are_rows", defArgs (topS 32), defBody (topS 32), defScope (topS 32), [], []⟩,
  ⟨("cells_of", none), "cells_of", "cells_of", defArgs (topS 33), defBody (topS 33), defScope (topS 33), [], []⟩,
  ⟨("is_let", none), "is_let", "is_let", defArgs (topS 34), defBody (topS 34), defScope (topS 34), [], []⟩,
  ⟨("are_let", none), "are_let", "are_let", defArgs (topS 35), defBody (topS 35), defScope (topS 35), [], []⟩,
  ⟨("scene_with", none), "scene_with", "scene_with", defArgs (topS 37), defBody (topS 37), defScope (topS 37), [], []⟩,
  ⟨("changed", none), "changed", "changed", defArgs (topS 40), defBody (topS 40), defScope (topS 40), [], []⟩,
  ⟨("rows_near", none), "rows_near", "rows_near", defArgs (topS 41), defBody (topS 41), defScope (topS 41), [], []⟩,
  ⟨("neighbours", none), "neighbours", "neighbours", defArgs (topS 42), defBody (topS 42), defScope (topS 42), [], []⟩,
  ⟨("check_other", none), "check_other", "check_other", defArgs (topS 43), defBody (topS 43), defScope (topS 43), [], []⟩,
  ⟨("led_from", none), "led_from", "led_from", defArgs (topS 44), defBody (topS 44), defScope (topS 44), [], []⟩,
  ⟨("steps", none), "steps", "steps", defArgs (topS 45), defBody (topS 45), defScope (topS 45), [], []⟩,
  ⟨("_law_cell", none), "_law_cell", "_law_cell", defArgs (topS 47), defBody (topS 47), defScope (topS 47), [], []⟩,
  ⟨("_law_box", none), "_law_box", "_law_box", defArgs (topS 48), defBody (topS 48), defScope (topS 48), [], []⟩,
  ⟨("_law_take", none), "_law_take", "_law_take", defArgs (topS 49), defBody (topS 49), defScope (topS 49), [], []⟩,
  ⟨("_law_mixed", none), "_law_mixed", "_law_mixed", defArgs (topS 50), defBody (topS 50), defScope (topS 50), [], []⟩,
  ⟨("_law_same", none), "_law_same", "_law_same", defArgs (topS 51), defBody (topS 51), defScope (topS 51), [], []⟩,
  ⟨("_law_names", none), "_law_names", "_law_names", defArgs (topS 52), defBody (topS 52), defScope (topS 52), [], []⟩,
  ⟨("_law_six", none), "_law_six", "_law_six", defArgs (topS 53), defBody (topS 53), defScope (topS 53), [], []⟩,
  ⟨("_law_lots", none), "_law_lots", "_law_lots", defArgs (topS 54), defBody (topS 54), defScope (topS 54), [], []⟩,
  ⟨("_law_backs", none), "_law_backs", "_law_backs", defArgs (topS 55), defBody (topS 55), defScope (topS 55), [], []⟩,
  ⟨("_law_world", none), "_law_world", "_law_world", defArgs (topS 56), defBody (topS 56), defScope (topS 56), [], []⟩,
  ⟨("_law_made", none), "_law_made", "_law_made", defArgs (topS 57), defBody (topS 57), defScope (topS 57), [], []⟩,
  ⟨("_law_table", none), "_law_table", "_law_table", defArgs (topS 58), defBody (topS 58), defScope (topS 58), [], []⟩,
  ⟨("_law_cells", none), "_law_cells", "_law_cells", defArgs (topS 59), defBody (topS 59), defScope (topS 59), [], []⟩,
  ⟨("_law_goes", none), "_law_goes", "_law_goes", defArgs (topS 60), defBody (topS 60), defScope (topS 60), [], []⟩,
  ⟨("_law_looks", none), "_law_looks", "_law_looks", defArgs (topS 61), defBody (topS 61), defScope (topS 61), [], []⟩,
  ⟨("_law_scene", none), "_law_scene", "_law_scene", defArgs (topS 62), defBody (topS 62), defScope (topS 62), [], []⟩,
  ⟨("_law_named", none), "_law_named", "_law_named", defArgs (topS 63), defBody (topS 63), defScope (topS 63), [], []⟩,
  ⟨("_law_changed", none), "_law_changed", "_law_changed", defArgs (topS 64), defBody (topS 64), defScope (topS 64), [], []⟩,
  ⟨("_law_is_scene", none), "_law_is_scene", "_law_is_scene", defArgs (topS 65), defBody (topS 65), defScope (topS 65), [], []⟩,
  ⟨("_law_near", none), "_law_near", "_law_near", defArgs (topS 66), defBody (topS 66), defScope (topS 66), [], []⟩,
  ⟨("_law_far", none), "_law_far", "_law_far", defArgs (topS 67), defBody (topS 67), defScope (topS 67), [], []⟩,
  ⟨("_law_key", none), "_law_key", "_law_key", defArgs (topS 68), defBody (topS 68), defScope (topS 68), [], []⟩,
  ⟨("_law_neighbours_right", none), "_law_neighbours_right", "_law_neighbours_right", defArgs (topS 69), defBody (topS 69), defScope (topS 69), [], []⟩,
  ⟨("_law_steps_right", none), "_law_steps_right", "_law_steps_right", defArgs (topS 70), defBody (topS 70), defScope (topS 70), [], []⟩,
  ⟨("_law_refused", none), "_law_refused", "_law_refused", defArgs (topS 71), defBody (topS 71), defScope (topS 71), [], []⟩,
  ⟨("law", none), "law", "law", defArgs (topS 72), defBody (topS 72), defScope (topS 72), [], []⟩,
  ⟨("Table", some "__init__"), "__init__", "Table.__init__", defArgs (inClass (topS 24) 0), defBody (inClass (topS 24) 0), defScope (inClass (topS 24) 0), [], []⟩,
  ⟨("Table", some "__eq__"), "__eq__", "Table.__eq__", defArgs (inClass (topS 24) 1), defBody (inClass (topS 24) 1), defScope (inClass (topS 24) 1), [], []⟩,
  ⟨("Scene", some "__init__"), "__init__", "Scene.__init__", defArgs (inClass (topS 36) 0), defBody (inClass (topS 36) 0), defScope (inClass (topS 36) 0), [], []⟩,
  ⟨("Scene", some "__len__"), "__len__", "Scene.__len__", defArgs (inClass (topS 36) 1), defBody (inClass (topS 36) 1), defScope (inClass (topS 36) 1), [], []⟩,
  ⟨("Scene", some "rows"), "rows", "Scene.rows", defArgs (inClass (topS 36) 4), defBody (inClass (topS 36) 4), defScope (inClass (topS 36) 4), [], []⟩,
  ⟨("InvalidOther", some "__init__"), "__init__", "InvalidOther.__init__", defArgs (inClass (topS 3) 0), defBody (inClass (topS 3) 0), defScope (inClass (topS 3) 0), [], []⟩]
def fs : List (PySem.W.Frag → Bool) := [
  fun K => He.Fa.ok K (.free "len"),
  fun K => He.Fa.ok K (.free "range"),
  fun K => He.Fa.ok K (.free "isinstance"),
  fun K => He.Fa.ok K (.free "all"),
  fun K => He.Fa.ok K (.free "sorted"),
  fun K => He.Fa.ok K (.free "dict"),
  fun K => He.Fa.ok K (.free "tuple"),
  fun K => He.Fa.ok K (.free "list"),
  fun K => He.Fa.ok K (.free "int"),
  fun K => He.Fa.ok K (.free "str"),
  fun K => He.Fa.ok K (.free "bool"),
  fun K => He.Fa.ok K (.free "max"),
  fun K => He.Fa.ok K (.free "min"),
  fun K => He.Fa.ok K (.free "abs"),
  fun K => He.Fa.ok K (.free "sum"),
  fun K => He.Fa.ok K (.free "enumerate"),
  fun K => He.Fa.ok K (.glo "is_list"),
  fun K => He.Fa.ok K (.glo "is_tuple_of"),
  fun K => He.Fa.ok K (.glo "is_word"),
  fun K => He.Fa.ok K (.glo "is_name"),
  fun K => He.Fa.ok K (.glo "are_ways"),
  fun K => He.Fa.ok K (.glo "lot"),
  fun K => He.Fa.ok K (.glo "masks_of"),
  fun K => He.Fa.ok K (.glo "threes_in"),
  fun K => He.Fa.ok K (.glo "is_three_of"),
  fun K => He.Fa.ok K (.glo "names_at"),
  fun K => He.Fa.ok K (.glo "are_rows"),
  fun K => He.Fa.ok K (.glo "cells_of"),
  fun K => He.Fa.ok K (.glo "is_let"),
  fun K => He.Fa.ok K (.glo "are_let"),
  fun K => He.Fa.ok K (.glo "scene_with"),
  fun K => He.Fa.ok K (.glo "changed"),
  fun K => He.Fa.ok K (.glo "rows_near"),
  fun K => He.Fa.ok K (.glo "neighbours"),
  fun K => He.Fa.ok K (.glo "check_other"),
  fun K => He.Fa.ok K (.glo "led_from"),
  fun K => He.Fa.ok K (.glo "steps"),
  fun K => He.Fa.ok K (.glo "_law_cell"),
  fun K => He.Fa.ok K (.glo "_law_box"),
  fun K => He.Fa.ok K (.glo "_law_take"),
  fun K => He.Fa.ok K (.glo "_law_mixed"),
  fun K => He.Fa.ok K (.glo "_law_same"),
  fun K => He.Fa.ok K (.glo "_law_names"),
  fun K => He.Fa.ok K (.glo "_law_six"),
  fun K => He.Fa.ok K (.glo "_law_lots"),
  fun K => He.Fa.ok K (.glo "_law_backs"),
  fun K => He.Fa.ok K (.glo "_law_world"),
  fun K => He.Fa.ok K (.glo "_law_made"),
  fun K => He.Fa.ok K (.glo "_law_table"),
  fun K => He.Fa.ok K (.glo "_law_cells"),
  fun K => He.Fa.ok K (.glo "_law_goes"),
  fun K => He.Fa.ok K (.glo "_law_looks"),
  fun K => He.Fa.ok K (.glo "_law_scene"),
  fun K => He.Fa.ok K (.glo "_law_named"),
  fun K => He.Fa.ok K (.glo "_law_changed"),
  fun K => He.Fa.ok K (.glo "_law_is_scene"),
  fun K => He.Fa.ok K (.glo "_law_near"),
  fun K => He.Fa.ok K (.glo "_law_far"),
  fun K => He.Fa.ok K (.glo "_law_key"),
  fun K => He.Fa.ok K (.glo "_law_neighbours_right"),
  fun K => He.Fa.ok K (.glo "_law_steps_right"),
  fun K => He.Fa.ok K (.glo "_law_refused"),
  fun K => He.Fa.ok K (.glo "law"),
  fun K => He.Fa.ok K (.glo "Table"),
  fun K => He.Fa.ok K (.glo "Scene"),
  fun K => He.Fa.ok K (.glo "InvalidOther"),
  fun K => He.Fa.ok K (.glo "KEPT_WORDS"),
  fun K => He.Fa.ok K (.int "MOST_LETTERS" 8),
  fun K => He.Fa.ok K (.int "MOST_WAYS" 5),
  fun K => He.Fa.ok K (.int "NO_WAY" (-1)),
  fun K => He.Fa.ok K (.str "LETTERS" "abcdefghijklmnopqrstuvwxyz"),
  fun K => He.tupB K "KEPT_WORDS" [.str "all", .str "some", .str "not", .str "none", .str "any", .str "if"],
  fun K => He.Fa.ok K (.cls "Table"),
  fun K => He.Fa.ok K (.mkr "Table"),
  fun K => He.Fa.ok K (.noat "Table" "ways"),
  fun K => He.Fa.ok K (.noat "Table" "back"),
  fun K => He.Fa.ok K (.noat "Table" "masks"),
  fun K => decide (PySem.W.findIn K (.ref (He.ga K "Table")) "__class__" = some (some (.builtin "object.__class__"))),
  fun K => decide (PySem.W.mroIn K (He.ga K "Table") (.type "object") = some true),
  fun K => He.Fa.ok K (.cls "Scene"),
  fun K => He.Fa.ok K (.mkr "Scene"),
  fun K => He.Fa.ok K (.noat "Scene" "table"),
  fun K => He.Fa.ok K (.noat "Scene" "places"),
  fun K => He.Fa.ok K (.noat "Scene" "cells"),
  fun K => decide (PySem.W.findIn K (.ref (He.ga K "Scene")) "__class__" = some (some (.builtin "object.__class__"))),
  fun K => decide (PySem.W.mroIn K (He.ga K "Scene") (.type "object") = some true),
  fun K => decide (PySem.W.specialIn K (.builtin "object.__class__") "__get__" = some (some (.builtin "getset_descriptor.__get__"))),
  fun K => decide (PySem.W.takesIn K (.builtin "object.__class__") = some true),
  fun K => He.Fa.ok K (.meth "Table" "__eq__"),
  fun K => decide (PySem.W.findIn K (.ref (He.ga K "Table")) "__ne__" = some (some (.builtin "object.__ne__"))),
  fun K => He.Fa.ok K (.meth "Scene" "__len__"),
  fun K => He.Fa.ok K (.meth "Scene" "rows"),
  fun K => ["NoneType", "bool", "int", "str", "list", "tuple", "dict"].all fun t => decide (PySem.W.kitOne K (.type t) (.ref (He.ga K "Scene")) = some false),
  fun K => ["NoneType", "bool", "int", "str", "list", "tuple", "dict"].all fun t => decide (PySem.W.kitOne K (.type t) (.ref (He.ga K "Table")) = some false),
  fun K => decide (PySem.W.kitOne K (.ref (He.ga K "Table")) (.ref (He.ga K "Scene")) = some false),
  fun K => decide (PySem.W.kitOne K (.ref (He.ga K "Table")) (.type "list") = some false),
  fun K => decide (PySem.W.kitOne K (.ref (He.ga K "Scene")) (.type "list") = some false),
  fun K => PySem.W.excInitIn K (He.ga K "InvalidOther") PySem.GvX.exTl "Exception.__new__",
  fun K => PySem.W.excOver K (He.ga K "InvalidOther") PySem.GvX.exTl,
  fun K => decide (PySem.W.findIn K (.ref (He.ga K "InvalidOther")) "__setattr__" = some (some (.builtin "object.__setattr__"))),
  fun K => decide (PySem.W.findIn K (.ref (He.ga K "InvalidOther")) "__getattribute__" = some (some (.builtin "BaseException.__getattribute__"))),
  fun K => decide (PySem.W.findIn K (.ref (He.ga K "InvalidOther")) "__getattr__" = some none),
  fun K => decide (PySem.W.findIn K (.ref (He.ga K "InvalidOther")) "given" = some none),
  fun K => decide (PySem.W.findIn K (.ref (He.ga K "InvalidOther")) "__init__" = some (some (.ref (He.ma K (He.ga K "InvalidOther") "__init__")))),
  fun K => decide (PySem.W.typeIn K (.ref (He.ma K (He.ga K "InvalidOther") "__init__")) = some (.type "function")),
  fun K => PySem.W.keepIn K (.ref (He.ga K "InvalidOther")),
  fun K => decide (PySem.W.subIn K (.ref (He.ga K "InvalidOther")) (.type "BaseException") = some true),
  fun K => decide (PySem.W.typeIn K (.ref (He.ga K "InvalidOther")) = some (.type "type")),
  fun K => PySem.W.hasDictIn K (He.ga K "InvalidOther"),
  fun K => decide (PySem.W.exmOne K (.ref (He.ga K "InvalidOther")) (.ref (He.ga K "InvalidOther")) = some true),
  fun K => (match K.lookup (He.ma K (He.ga K "InvalidOther") "__init__") with | some ⟨_, _, .func fd, _⟩ => decide (fd.kwdefaults = .none) | _ => false)]
abbrev R : PySem.W.OpenRow := PySem.W.OpenLaw.row PySem.Challenge.rw_waysenough_k70_neighbours_and_steps
def SaysP (fs : List (PySem.W.Frag → Bool)) (fn : List He.DefD) (K : PySem.W.Frag) : Prop := (((fs.all fun f => f K) && fn.all fun d => d.ok K, fn.map fun d => He.fnW K d.at_) : He.AlD) = He.valD fn
def obsPG (n : Nat) (fs : List (PySem.W.Frag → Bool)) (fn : List He.DefD) (g : Addr → Option Obj) : He.AlD :=
  let K := He.frG g (He.asD g n)
  ((fs.all fun f => f K) && fn.all fun d => d.ok K, fn.map fun d => He.fnW K d.at_)
def hookP (n : Nat) (fs : List (PySem.W.Frag → Bool)) (fn : List He.DefD) : PySem.W.Hook where
  α := He.AlD
  obs := fun s => obsPG n fs fn s.heap.get?
  val := fun _ => He.valD fn
  says := fun _ h => ∃ K : PySem.W.Frag, K.In h ∧ SaysP fs fn K
  of := fun _ _ e => ⟨_, He.frG_in, e⟩
  keeps := fun _ _ _ ⟨K, hK, c⟩ k => ⟨K, PySem.W.Frag.In.keeps hK k, c⟩
theorem obsPG_eq {n : Nat} {fs : List (PySem.W.Frag → Bool)} {fn : List He.DefD} {g : Addr → Option Obj} {s : Shared} (h : ∀ a, g a = s.heap.get? a) : obsPG n fs fn g = (hookP n fs fn).obs s := by
  have e : g = s.heap.get? := funext h
  rw [e] <;> rfl
abbrev hk : PySem.W.Hook := hookP 4 fs fn
def ob (s : PySem.W.SharedT) : He.AlD := obsPG 4 fs fn (HandSHeadRun.getT s)
theorem ob_eq (s : PySem.W.SharedT) : ob s = hk.obs s.abs := obsPG_eq (HandSHeadRun.getT_eq s)
def nm0 : List Str := [("_wall" : Str), ("WayError" : Str), ("InvalidOther" : Str), ("InvalidRows" : Str), ("InvalidThing" : Str), ("InvalidThrees" : Str), ("InvalidWay" : Str), ("InvalidWays" : Str), ("LETTERS" : Str), ("MOST_LETTERS" : Str), ("KEPT_WORDS" : Str), ("is_integer" : Str), ("is_index" : Str), ("is_list" : Str)]
def nm1 : List Str := [("is_tuple_of" : Str), ("is_word" : Str), ("is_name" : Str), ("MOST_WAYS" : Str), ("are_ways" : Str), ("lot" : Str), ("masks_of" : Str), ("Table" : Str), ("threes_in" : Str), ("is_three_of" : Str), ("place_in" : Str), ("names_at" : Str), ("let_threes" : Str), ("NO_WAY" : Str)]
def nm2 : List Str := [("are_rows" : Str), ("cells_of" : Str), ("is_let" : Str), ("are_let" : Str), ("Scene" : Str), ("scene_with" : Str), ("check_thing" : Str), ("changed" : Str), ("rows_near" : Str), ("neighbours" : Str), ("check_other" : Str), ("led_from" : Str), ("steps" : Str), ("_law_cell" : Str)]
def nm3 : List Str := [("_law_box" : Str), ("_law_take" : Str), ("_law_mixed" : Str), ("_law_same" : Str), ("_law_names" : Str), ("_law_six" : Str), ("_law_lots" : Str), ("_law_backs" : Str), ("_law_world" : Str), ("_law_made" : Str), ("_law_table" : Str), ("_law_cells" : Str), ("_law_goes" : Str), ("_law_looks" : Str)]
def nm4 : List Str := [("_law_scene" : Str), ("_law_named" : Str), ("_law_changed" : Str), ("_law_is_scene" : Str), ("_law_near" : Str), ("_law_far" : Str), ("_law_key" : Str), ("_law_neighbours_right" : Str), ("_law_steps_right" : Str), ("_law_refused" : Str)]
def names : List Str := nm0 ++ nm1 ++ nm2 ++ nm3 ++ nm4
theorem run (w : World) : HandSHeadRun.RunEq R (PySem.W.view R.prog [72]) hk ob 20000 names w := by
  intro os
  kernel_rfl
theorem says_f {K : PySem.W.Frag} (c : SaysP fs fn K) (i : Nat) {f : PySem.W.Frag → Bool} (h : fs[i]? = some f) : f K = true := by
  have e := congrArg Prod.fst c
  have e2 : ((fs.all fun f => f K) && fn.all fun d => d.ok K) = true := e
  exact List.all_eq_true.mp (Bool.and_eq_true_iff.mp e2).1 f (List.mem_of_getElem? h)
theorem says_d {K : PySem.W.Frag} (c : SaysP fs fn K) (i : Nat) {d : He.DefD} (h : fn[i]? = some d) : ∃ fd, FunD K d.name d.qual d.params d.body d.scope (d.dvs K) (d.kws K) (He.fAd K d.at_) fd := by
  have e := congrArg Prod.fst c
  have e2 : ((fs.all fun f => f K) && fn.all fun d => d.ok K) = true := e
  have e3 := List.all_eq_true.mp (Bool.and_eq_true_iff.mp e2).2 d (List.mem_of_getElem? h)
  have e4 : fn.map (fun d => He.fnW K d.at_) = fn.map He.DefD.val := congrArg Prod.snd c
  have e5 : He.fnW K d.at_ = d.val := List.map_inj_left.mp e4 d (List.mem_of_getElem? h)
  exact He.DefD.funD e5 e3
end Hd

set_option maxHeartbeats 4000000
/-! KZ: the facts put together; the end. -/
namespace K7
open PySem PySem.Spec PyProof.Rows L2 DL Hd
theorem mkFnD {M : Md} {x : Str} {st : Stmt} {ps : List Str} (F : ∃ fd, FunD M.K x x (defArgs st) (defBody st) (defScope st) [] [] (He.ga M.K x) fd) (g : M.mg x = some (.ref (He.ga M.K x)))
    (hb : ∀ {fd}, FunD M.K x x (defArgs st) (defBody st) (defScope st) [] [] (He.ga M.K x) fd → Binds M.K fd ps []) : FnD M x st ps := by
  obtain ⟨fd, F⟩ := F
  exact ⟨_, fd, g, hb F, F⟩
theorem mkFnM {M : Md} {x qual : Str} {st : Stmt} {ps : List Str} {f : Addr} (F : ∃ fd, FunD M.K x qual (defArgs st) (defBody st) (defScope st) [] [] f fd)
    (hb : ∀ {fd}, FunD M.K x qual (defArgs st) (defBody st) (defScope st) [] [] f fd → Binds M.K fd ps []) : FnM M x qual st ps f := by
  obtain ⟨fd, F⟩ := F
  exact ⟨fd, hb F, F⟩
theorem glI {M : Md} {x : Str} {i : Int} (h : ∃ t, M.mg x = some (.int i t)) : GlD M x (.int i) := by
  obtain ⟨t, h⟩ := h
  exact ⟨.int i, _, h, ⟨t, rfl⟩, fun HF => isD_int HF⟩
theorem glS {M : Md} {x z : Str} (h : ∃ t, M.mg x = some (.str z t)) : GlD M x (.str z) := by
  obtain ⟨t, h⟩ := h
  exact ⟨.str z, _, h, ⟨t, rfl⟩, fun HF => isD_str HF⟩
theorem dpAll_of_strs {K : PySem.W.Frag} {H : Hp} : ∀ zs : List Str, DL.DpAll K H (zs.map V.str) (zs.map PyData.str)
  | [] => .nil
  | z :: zs => .cons (.str z) (dpAll_of_strs zs)
theorem glT {M : Md} {x : Str} {zs : List Str} (h : M.mg x = some (.ref (He.ga M.K x))) (t : ∀ H, SqT M.K H (He.ga M.K x) (zs.map V.str)) : GlD M x (.tuple (zs.map .str)) :=
  ⟨.ref (He.ga M.K x), _, h, rfl, fun HF => DL.Dp.tup (t HF) (dpAll_of_strs zs)⟩
theorem dec {p : Prop} [Decidable p] (h : decide p = true) : p := of_decide_eq_true h
set_option maxHeartbeats 0 in
theorem law_facts {P : Program} {w : World} {K : PySem.W.Frag} {h : Heap} {mg : Str → Option Value} {base : Heap} (X : K.In h) (G : h.Ns mainGlobals mg) (c : SaysP fs fn K) :
    FK ⟨P, w, K, mg, base⟩ "law" 9 ["script"] (fun ns : List Int => [.z (isScr K ns)]) (fun _ => dD K (.bool true)) := by
  let M : Md := ⟨P, w, K, mg, base⟩
  have G_is_list : M.mg "is_list" = some (.ref (He.ga K "is_list")) := He.glo_ok X G (says_f c 16 rfl)
  have G_is_tuple_of : M.mg "is_tuple_of" = some (.ref (He.ga K "is_tuple_of")) := He.glo_ok X G (says_f c 17 rfl)
  have G_is_word : M.mg "is_word" = some (.ref (He.ga K "is_word")) := He.glo_ok X G (says_f c 18 rfl)
  have G_is_name : M.mg "is_name" = some (.ref (He.ga K "is_name")) := He.glo_ok X G (says_f c 19 rfl)
  have G_are_ways : M.mg "are_ways" = some (.ref (He.ga K "are_ways")) := He.glo_ok X G (says_f c 20 rfl)
  have G_lot : M.mg "lot" = some (.ref (He.ga K "lot")) := He.glo_ok X G (says_f c 21 rfl)
  have G_masks_of : M.mg "masks_of" = some (.ref (He.ga K "masks_of")) := He.glo_ok X G (says_f c 22 rfl)
  have G_threes_in : M.mg "threes_in" = some (.ref (He.ga K "threes_in")) := He.glo_ok X G (says_f c 23 rfl)
  have G_is_three_of : M.mg "is_three_of" = some (.ref (He.ga K "is_three_of")) := He.glo_ok X G (says_f c 24 rfl)
  have G_names_at : M.mg "names_at" = some (.ref (He.ga K "names_at")) := He.glo_ok X G (says_f c 25 rfl)
  have G_are_rows : M.mg "are_rows" = some (.ref (He.ga K "are_rows")) := He.glo_ok X G (says_f c 26 rfl)
  have G_cells_of : M.mg "cells_of" = some (.ref (He.ga K "cells_of")) := He.glo_ok X G (says_f c 27 rfl)
  have G_is_let : M.mg "is_let" = some (.ref (He.ga K "is_let")) := He.glo_ok X G (says_f c 28 rfl)
  have G_are_let : M.mg "are_let" = some (.ref (He.ga K "are_let")) := He.glo_ok X G (says_f c 29 rfl)
  have G_scene_with : M.mg "scene_with" = some (.ref (He.ga K "scene_with")) := He.glo_ok X G (says_f c 30 rfl)
  have G_changed : M.mg "changed" = some (.ref (He.ga K "changed")) := He.glo_ok X G (says_f c 31 rfl)
  have G_rows_near : M.mg "rows_near" = some (.ref (He.ga K "rows_near")) := He.glo_ok X G (says_f c 32 rfl)
  have G_neighbours : M.mg "neighbours" = some (.ref (He.ga K "neighbours")) := He.glo_ok X G (says_f c 33 rfl)
  have G_check_other : M.mg "check_other" = some (.ref (He.ga K "check_other")) := He.glo_ok X G (says_f c 34 rfl)
  have G_led_from : M.mg "led_from" = some (.ref (He.ga K "led_from")) := He.glo_ok X G (says_f c 35 rfl)
  have G_steps : M.mg "steps" = some (.ref (He.ga K "steps")) := He.glo_ok X G (says_f c 36 rfl)
  have G__law_cell : M.mg "_law_cell" = some (.ref (He.ga K "_law_cell")) := He.glo_ok X G (says_f c 37 rfl)
  have G__law_box : M.mg "_law_box" = some (.ref (He.ga K "_law_box")) := He.glo_ok X G (says_f c 38 rfl)
  have G__law_take : M.mg "_law_take" = some (.ref (He.ga K "_law_take")) := He.glo_ok X G (says_f c 39 rfl)
  have G__law_mixed : M.mg "_law_mixed" = some (.ref (He.ga K "_law_mixed")) := He.glo_ok X G (says_f c 40 rfl)
  have G__law_same : M.mg "_law_same" = some (.ref (He.ga K "_law_same")) := He.glo_ok X G (says_f c 41 rfl)
  have G__law_names : M.mg "_law_names" = some (.ref (He.ga K "_law_names")) := He.glo_ok X G (says_f c 42 rfl)
  have G__law_six : M.mg "_law_six" = some (.ref (He.ga K "_law_six")) := He.glo_ok X G (says_f c 43 rfl)
  have G__law_lots : M.mg "_law_lots" = some (.ref (He.ga K "_law_lots")) := He.glo_ok X G (says_f c 44 rfl)
  have G__law_backs : M.mg "_law_backs" = some (.ref (He.ga K "_law_backs")) := He.glo_ok X G (says_f c 45 rfl)
  have G__law_world : M.mg "_law_world" = some (.ref (He.ga K "_law_world")) := He.glo_ok X G (says_f c 46 rfl)
  have G__law_made : M.mg "_law_made" = some (.ref (He.ga K "_law_made")) := He.glo_ok X G (says_f c 47 rfl)
  have G__law_table : M.mg "_law_table" = some (.ref (He.ga K "_law_table")) := He.glo_ok X G (says_f c 48 rfl)
  have G__law_cells : M.mg "_law_cells" = some (.ref (He.ga K "_law_cells")) := He.glo_ok X G (says_f c 49 rfl)
  have G__law_goes : M.mg "_law_goes" = some (.ref (He.ga K "_law_goes")) := He.glo_ok X G (says_f c 50 rfl)
  have G__law_looks : M.mg "_law_looks" = some (.ref (He.ga K "_law_looks")) := He.glo_ok X G (says_f c 51 rfl)
  have G__law_scene : M.mg "_law_scene" = some (.ref (He.ga K "_law_scene")) := He.glo_ok X G (says_f c 52 rfl)
  have G__law_named : M.mg "_law_named" = some (.ref (He.ga K "_law_named")) := He.glo_ok X G (says_f c 53 rfl)
  have G__law_changed : M.mg "_law_changed" = some (.ref (He.ga K "_law_changed")) := He.glo_ok X G (says_f c 54 rfl)
  have G__law_is_scene : M.mg "_law_is_scene" = some (.ref (He.ga K "_law_is_scene")) := He.glo_ok X G (says_f c 55 rfl)
  have G__law_near : M.mg "_law_near" = some (.ref (He.ga K "_law_near")) := He.glo_ok X G (says_f c 56 rfl)
  have G__law_far : M.mg "_law_far" = some (.ref (He.ga K "_law_far")) := He.glo_ok X G (says_f c 57 rfl)
  have G__law_key : M.mg "_law_key" = some (.ref (He.ga K "_law_key")) := He.glo_ok X G (says_f c 58 rfl)
  have G__law_neighbours_right : M.mg "_law_neighbours_right" = some (.ref (He.ga K "_law_neighbours_right")) := He.glo_ok X G (says_f c 59 rfl)
  have G__law_steps_right : M.mg "_law_steps_right" = some (.ref (He.ga K "_law_steps_right")) := He.glo_ok X G (says_f c 60 rfl)
  have G__law_refused : M.mg "_law_refused" = some (.ref (He.ga K "_law_refused")) := He.glo_ok X G (says_f c 61 rfl)
  have G_law : M.mg "law" = some (.ref (He.ga K "law")) := He.glo_ok X G (says_f c 62 rfl)
  have G_Table : M.mg "Table" = some (.ref (He.ga K "Table")) := He.glo_ok X G (says_f c 63 rfl)
  have G_Scene : M.mg "Scene" = some (.ref (He.ga K "Scene")) := He.glo_ok X G (says_f c 64 rfl)
  have G_InvalidOther : M.mg "InvalidOther" = some (.ref (He.ga K "InvalidOther")) := He.glo_ok X G (says_f c 65 rfl)
  have G_KEPT_WORDS : M.mg "KEPT_WORDS" = some (.ref (He.ga K "KEPT_WORDS")) := He.glo_ok X G (says_f c 66 rfl)
  have nb : NoB M.mg := ⟨He.free_ok X G (says_f c 0 rfl), He.free_ok X G (says_f c 1 rfl), He.free_ok X G (says_f c 2 rfl), He.free_ok X G (says_f c 3 rfl), He.free_ok X G (says_f c 4 rfl), He.free_ok X G (says_f c 5 rfl), He.free_ok X G (says_f c 6 rfl), He.free_ok X G (says_f c 7 rfl), He.free_ok X G (says_f c 8 rfl), He.free_ok X G (says_f c 9 rfl), He.free_ok X G (says_f c 10 rfl), He.free_ok X G (says_f c 11 rfl), He.free_ok X G (says_f c 12 rfl), He.free_ok X G (says_f c 13 rfl), He.free_ok X G (says_f c 14 rfl), He.free_ok X G (says_f c 15 rfl)⟩
  have D_is_list : FnD M "is_list" (topS 15) ["value"] := mkFnD (says_d c 0 rfl) G_is_list fun F => F.bindsN fun _ _ _ _ _ _ us hl => match us, hl with | [_], _ => rfl
  have D_is_tuple_of : FnD M "is_tuple_of" (topS 16) ["value", "many"] := mkFnD (says_d c 1 rfl) G_is_tuple_of fun F => F.bindsN fun _ _ _ _ _ _ us hl => match us, hl with | [_, _], _ => rfl
  have D_is_word : FnD M "is_word" (topS 17) ["value"] := mkFnD (says_d c 2 rfl) G_is_word fun F => F.bindsN fun _ _ _ _ _ _ us hl => match us, hl with | [_], _ => rfl
  have D_is_name : FnD M "is_name" (topS 18) ["value"] := mkFnD (says_d c 3 rfl) G_is_name fun F => F.bindsN fun _ _ _ _ _ _ us hl => match us, hl with | [_], _ => rfl
  have D_are_ways : FnD M "are_ways" (topS 21) ["value"] := mkFnD (says_d c 4 rfl) G_are_ways fun F => F.bindsN fun _ _ _ _ _ _ us hl => match us, hl with | [_], _ => rfl
  have D_lot : FnD M "lot" (topS 22) ["back", "three"] := mkFnD (says_d c 5 rfl) G_lot fun F => F.bindsN fun _ _ _ _ _ _ us hl => match us, hl with | [_, _], _ => rfl
  have D_masks_of : FnD M "masks_of" (topS 23) ["back", "threes"] := mkFnD (says_d c 6 rfl) G_masks_of fun F => F.bindsN fun _ _ _ _ _ _ us hl => match us, hl with | [_, _], _ => rfl
  have D_threes_in : FnD M "threes_in" (topS 25) ["table", "threes"] := mkFnD (says_d c 7 rfl) G_threes_in fun F => F.bindsN fun _ _ _ _ _ _ us hl => match us, hl with | [_, _], _ => rfl
  have D_is_three_of : FnD M "is_three_of" (topS 26) ["table", "value"] := mkFnD (says_d c 8 rfl) G_is_three_of fun F => F.bindsN fun _ _ _ _ _ _ us hl => match us, hl with | [_, _], _ => rfl
  have D_names_at : FnD M "names_at" (topS 28) ["table", "places"] := mkFnD (says_d c 9 rfl) G_names_at fun F => F.bindsN fun _ _ _ _ _ _ us hl => match us, hl with | [_, _], _ => rfl
  have D_are_rows : FnD M "are_rows" (topS 32) ["table", "value"] := mkFnD (says_d c 10 rfl) G_are_rows fun F => F.bindsN fun _ _ _ _ _ _ us hl => match us, hl with | [_, _], _ => rfl
  have D_cells_of : FnD M "cells_of" (topS 33) ["table", "places"] := mkFnD (says_d c 11 rfl) G_cells_of fun F => F.bindsN fun _ _ _ _ _ _ us hl => match us, hl with | [_, _], _ => rfl
  have D_is_let : FnD M "is_let" (topS 34) ["table", "cells", "i", "j", "k"] := mkFnD (says_d c 12 rfl) G_is_let fun F => F.bindsN fun _ _ _ _ _ _ us hl => match us, hl with | [_, _, _, _, _], _ => rfl
  have D_are_let : FnD M "are_let" (topS 35) ["table", "cells"] := mkFnD (says_d c 13 rfl) G_are_let fun F => F.bindsN fun _ _ _ _ _ _ us hl => match us, hl with | [_, _], _ => rfl
  have D_scene_with : FnD M "scene_with" (topS 37) ["table", "places"] := mkFnD (says_d c 14 rfl) G_scene_with fun F => F.bindsN fun _ _ _ _ _ _ us hl => match us, hl with | [_, _], _ => rfl
  have D_changed : FnD M "changed" (topS 40) ["places", "i", "j", "place"] := mkFnD (says_d c 15 rfl) G_changed fun F => F.bindsN fun _ _ _ _ _ _ us hl => match us, hl with | [_, _, _, _], _ => rfl
  have D_rows_near : FnD M "rows_near" (topS 41) ["table", "places"] := mkFnD (says_d c 16 rfl) G_rows_near fun F => F.bindsN fun _ _ _ _ _ _ us hl => match us, hl with | [_, _], _ => rfl
  have D_neighbours : FnD M "neighbours" (topS 42) ["scene"] := mkFnD (says_d c 17 rfl) G_neighbours fun F => F.bindsN fun _ _ _ _ _ _ us hl => match us, hl with | [_], _ => rfl
  have D_check_other : FnD M "check_other" (topS 43) ["one", "other"] := mkFnD (says_d c 18 rfl) G_check_other fun F => F.bindsN fun _ _ _ _ _ _ us hl => match us, hl with | [_, _], _ => rfl
  have D_led_from : FnD M "led_from" (topS 44) ["table", "places"] := mkFnD (says_d c 19 rfl) G_led_from fun F => F.bindsN fun _ _ _ _ _ _ us hl => match us, hl with | [_, _], _ => rfl
  have D_steps : FnD M "steps" (topS 45) ["one", "other"] := mkFnD (says_d c 20 rfl) G_steps fun F => F.bindsN fun _ _ _ _ _ _ us hl => match us, hl with | [_, _], _ => rfl
  have D__law_cell : FnD M "_law_cell" (topS 47) ["script", "k"] := mkFnD (says_d c 21 rfl) G__law_cell fun F => F.bindsN fun _ _ _ _ _ _ us hl => match us, hl with | [_, _], _ => rfl
  have D__law_box : FnD M "_law_box" (topS 48) ["great"] := mkFnD (says_d c 22 rfl) G__law_box fun F => F.bindsN fun _ _ _ _ _ _ us hl => match us, hl with | [_], _ => rfl
  have D__law_take : FnD M "_law_take" (topS 49) ["box", "many"] := mkFnD (says_d c 23 rfl) G__law_take fun F => F.bindsN fun _ _ _ _ _ _ us hl => match us, hl with | [_, _], _ => rfl
  have D__law_mixed : FnD M "_law_mixed" (topS 50) ["box", "items"] := mkFnD (says_d c 24 rfl) G__law_mixed fun F => F.bindsN fun _ _ _ _ _ _ us hl => match us, hl with | [_, _], _ => rfl
  have D__law_same : FnD M "_law_same" (topS 51) ["told", "due"] := mkFnD (says_d c 25 rfl) G__law_same fun F => F.bindsN fun _ _ _ _ _ _ us hl => match us, hl with | [_, _], _ => rfl
  have D__law_names : FnD M "_law_names" (topS 52) ["box", "many"] := mkFnD (says_d c 26 rfl) G__law_names fun F => F.bindsN fun _ _ _ _ _ _ us hl => match us, hl with | [_, _], _ => rfl
  have D__law_six : FnD M "_law_six" (topS 53) ["back", "three"] := mkFnD (says_d c 27 rfl) G__law_six fun F => F.bindsN fun _ _ _ _ _ _ us hl => match us, hl with | [_, _], _ => rfl
  have D__law_lots : FnD M "_law_lots" (topS 54) ["back"] := mkFnD (says_d c 28 rfl) G__law_lots fun F => F.bindsN fun _ _ _ _ _ _ us hl => match us, hl with | [_], _ => rfl
  have D__law_backs : FnD M "_law_backs" (topS 55) ["box", "many"] := mkFnD (says_d c 29 rfl) G__law_backs fun F => F.bindsN fun _ _ _ _ _ _ us hl => match us, hl with | [_, _], _ => rfl
  have D__law_world : FnD M "_law_world" (topS 56) ["box", "many"] := mkFnD (says_d c 30 rfl) G__law_world fun F => F.bindsN fun _ _ _ _ _ _ us hl => match us, hl with | [_, _], _ => rfl
  have D__law_made : FnD M "_law_made" (topS 57) ["names", "back", "lots"] := mkFnD (says_d c 31 rfl) G__law_made fun F => F.bindsN fun _ _ _ _ _ _ us hl => match us, hl with | [_, _, _], _ => rfl
  have D__law_table : FnD M "_law_table" (topS 58) ["box", "world"] := mkFnD (says_d c 32 rfl) G__law_table fun F => F.bindsN fun _ _ _ _ _ _ us hl => match us, hl with | [_, _], _ => rfl
  have D__law_cells : FnD M "_law_cells" (topS 59) ["world", "rows"] := mkFnD (says_d c 33 rfl) G__law_cells fun F => F.bindsN fun _ _ _ _ _ _ us hl => match us, hl with | [_, _], _ => rfl
  have D__law_goes : FnD M "_law_goes" (topS 60) ["world", "cells", "look"] := mkFnD (says_d c 34 rfl) G__law_goes fun F => F.bindsN fun _ _ _ _ _ _ us hl => match us, hl with | [_, _, _], _ => rfl
  have D__law_looks : FnD M "_law_looks" (topS 61) ["world", "rows"] := mkFnD (says_d c 35 rfl) G__law_looks fun F => F.bindsN fun _ _ _ _ _ _ us hl => match us, hl with | [_, _], _ => rfl
  have D__law_scene : FnD M "_law_scene" (topS 62) ["box", "world", "most"] := mkFnD (says_d c 36 rfl) G__law_scene fun F => F.bindsN fun _ _ _ _ _ _ us hl => match us, hl with | [_, _, _], _ => rfl
  have D__law_named : FnD M "_law_named" (topS 63) ["world", "rows"] := mkFnD (says_d c 37 rfl) G__law_named fun F => F.bindsN fun _ _ _ _ _ _ us hl => match us, hl with | [_, _], _ => rfl
  have D__law_changed : FnD M "_law_changed" (topS 64) ["rows", "i", "j", "place"] := mkFnD (says_d c 38 rfl) G__law_changed fun F => F.bindsN fun _ _ _ _ _ _ us hl => match us, hl with | [_, _, _, _], _ => rfl
  have D__law_is_scene : FnD M "_law_is_scene" (topS 65) ["world", "rows"] := mkFnD (says_d c 39 rfl) G__law_is_scene fun F => F.bindsN fun _ _ _ _ _ _ us hl => match us, hl with | [_, _], _ => rfl
  have D__law_near : FnD M "_law_near" (topS 66) ["world", "rows"] := mkFnD (says_d c 40 rfl) G__law_near fun F => F.bindsN fun _ _ _ _ _ _ us hl => match us, hl with | [_, _], _ => rfl
  have D__law_far : FnD M "_law_far" (topS 67) ["world", "rows"] := mkFnD (says_d c 41 rfl) G__law_far fun F => F.bindsN fun _ _ _ _ _ _ us hl => match us, hl with | [_, _], _ => rfl
  have D__law_key : FnD M "_law_key" (topS 68) ["rows"] := mkFnD (says_d c 42 rfl) G__law_key fun F => F.bindsN fun _ _ _ _ _ _ us hl => match us, hl with | [_], _ => rfl
  have D__law_neighbours_right : FnD M "_law_neighbours_right" (topS 69) ["box", "world", "table", "by_name"] := mkFnD (says_d c 43 rfl) G__law_neighbours_right fun F => F.bindsN fun _ _ _ _ _ _ us hl => match us, hl with | [_, _, _, _], _ => rfl
  have D__law_steps_right : FnD M "_law_steps_right" (topS 70) ["box", "world", "table", "by_name"] := mkFnD (says_d c 44 rfl) G__law_steps_right fun F => F.bindsN fun _ _ _ _ _ _ us hl => match us, hl with | [_, _, _, _], _ => rfl
  have D__law_refused : FnD M "_law_refused" (topS 71) ["box", "world", "table", "scene", "many"] := mkFnD (says_d c 45 rfl) G__law_refused fun F => F.bindsN fun _ _ _ _ _ _ us hl => match us, hl with | [_, _, _, _, _], _ => rfl
  have D_law : FnD M "law" (topS 72) ["script"] := mkFnD (says_d c 46 rfl) G_law fun F => F.bindsN fun _ _ _ _ _ _ us hl => match us, hl with | [_], _ => rfl
  have M_Table_init : FnM M "__init__" "Table.__init__" (inClass (topS 24) 0) ["self", "ways", "threes"] (He.ma K (He.ga K "Table") "__init__") := mkFnM (says_d c 47 rfl) fun F => F.bindsN fun _ _ _ _ _ _ us hl => match us, hl with | [_, _, _], _ => rfl
  have M_Table_eq : FnM M "__eq__" "Table.__eq__" (inClass (topS 24) 1) ["self", "other"] (He.ma K (He.ga K "Table") "__eq__") := mkFnM (says_d c 48 rfl) fun F => F.bindsN fun _ _ _ _ _ _ us hl => match us, hl with | [_, _], _ => rfl
  have M_Scene_init : FnM M "__init__" "Scene.__init__" (inClass (topS 36) 0) ["self", "table", "rows"] (He.ma K (He.ga K "Scene") "__init__") := mkFnM (says_d c 49 rfl) fun F => F.bindsN fun _ _ _ _ _ _ us hl => match us, hl with | [_, _, _], _ => rfl
  have M_Scene_len : FnM M "__len__" "Scene.__len__" (inClass (topS 36) 1) ["self"] (He.ma K (He.ga K "Scene") "__len__") := mkFnM (says_d c 50 rfl) fun F => F.bindsN fun _ _ _ _ _ _ us hl => match us, hl with | [_], _ => rfl
  have M_Scene_rows : FnM M "rows" "Scene.rows" (inClass (topS 36) 4) ["self"] (He.ma K (He.ga K "Scene") "rows") := mkFnM (says_d c 51 rfl) fun F => F.bindsN fun _ _ _ _ _ _ us hl => match us, hl with | [_], _ => rfl
  have g_ML : GlD M "MOST_LETTERS" (.int 8) := glI (He.int_ok X G (says_f c 67 rfl))
  have g_MW : GlD M "MOST_WAYS" (.int 5) := glI (He.int_ok X G (says_f c 68 rfl))
  have g_NW : GlD M "NO_WAY" (.int (-1)) := glI (He.int_ok X G (says_f c 69 rfl))
  have g_LE : GlD M "LETTERS" (.str letters) := glS (He.str_ok X G (says_f c 70 rfl))
  have g_KW : GlD M "KEPT_WORDS" (.tuple (kept.map .str)) := glT G_KEPT_WORDS fun H => He.tupB_ok (says_f c 71 rfl) H
  have tc : TbF K (He.ga K "Table") := ⟨He.cls_ok (says_f c 72 rfl), He.noat_ok (says_f c 74 rfl), He.noat_ok (says_f c 75 rfl), He.noat_ok (says_f c 76 rfl)⟩
  have sc : ScF K (He.ga K "Scene") := ⟨He.cls_ok (says_f c 79 rfl), He.noat_ok (says_f c 81 rfl), He.noat_ok (says_f c 82 rfl), He.noat_ok (says_f c 83 rfl)⟩
  have ti : InsF K (He.ga K "Table") := ⟨He.cls_ok (says_f c 72 rfl), dec (says_f c 77 rfl), dec (says_f c 86 rfl), dec (says_f c 87 rfl), dec (says_f c 78 rfl)⟩
  have si : InsF K (He.ga K "Scene") := ⟨He.cls_ok (says_f c 79 rfl), dec (says_f c 84 rfl), dec (says_f c 86 rfl), dec (says_f c 87 rfl), dec (says_f c 85 rfl)⟩
  have mkT : Mk K (He.ga K "Table") (He.ma K (He.ga K "Table") "__init__") := He.mkr_ok (says_f c 73 rfl)
  have mkS : Mk K (He.ga K "Scene") (He.ma K (He.ga K "Scene") "__init__") := He.mkr_ok (says_f c 80 rfl)
  have me : Meth K (He.ga K "Table") "__eq__" (He.ma K (He.ga K "Table") "__eq__") := He.meth_ok (says_f c 88 rfl)
  have ml : Meth K (He.ga K "Scene") "__len__" (He.ma K (He.ga K "Scene") "__len__") := He.meth_ok (says_f c 90 rfl)
  have mr : Meth K (He.ga K "Scene") "rows" (He.ma K (He.ga K "Scene") "rows") := He.meth_ok (says_f c 91 rfl)
  have eqT : EqF K (He.ga K "Table") (He.ma K (He.ga K "Table") "__eq__") := ⟨me.1, me.2, dec (says_f c 89 rfl), dec (says_f c 78 rfl)⟩
  have lnS : LnF K (He.ga K "Scene") (He.ma K (He.ga K "Scene") "__len__") := ⟨ml.1, ml.2⟩
  have kf : KitF K (He.ga K "Table") (He.ga K "Scene") := ⟨fun t ht => dec (List.all_eq_true.mp (says_f c 92 rfl) t ht), fun t ht => dec (List.all_eq_true.mp (says_f c 93 rfl) t ht), dec (says_f c 94 rfl), dec (says_f c 95 rfl), dec (says_f c 96 rfl)⟩
  have gv : PySem.GvX.GvT "given" K M.mg "InvalidOther" (He.ga K "InvalidOther") (He.ma K (He.ga K "InvalidOther") "__init__") := ⟨G_InvalidOther, (says_f c 97 rfl), (says_f c 98 rfl), dec (says_f c 99 rfl), dec (says_f c 100 rfl), dec (says_f c 101 rfl), dec (says_f c 102 rfl), dec (says_f c 103 rfl), dec (says_f c 104 rfl), (says_f c 105 rfl), dec (says_f c 106 rfl), dec (says_f c 107 rfl), (says_f c 108 rfl), dec (says_f c 109 rfl), by
    obtain ⟨fd, F⟩ := says_d c 52 rfl
    obtain ⟨oc, od, dV, kV, doc, pm, an, cdv, ct, osl, e, lk, hcd, hD, hK⟩ := F.ex
    have hkw : (match K.lookup (He.ma K (He.ga K "InvalidOther") "__init__") with | some ⟨_, _, .func fd, _⟩ => decide (fd.kwdefaults = .none) | _ => false) = true := (says_f c 110 rfl)
    have lk' : K.lookup (He.ma K (He.ga K "InvalidOther") "__init__") = some ⟨oc, od, .func fd, osl⟩ := lk
    rw [lk'] at hkw
    have hk2 : fd.kwdefaults = .none := of_decide_eq_true hkw
    subst e
    rcases hD with ⟨_, rfl⟩ | ⟨e, _⟩
    · obtain rfl : kV = .none := hk2
      exact ⟨_, oc, od, doc, pm, an, cdv, ct, osl, _, _, _, _, _, _, lk', hcd⟩
    · exact absurd rfl e⟩
  have f_is_list := ok_is_list nb D_is_list
  have f_is_tuple_of := ok_is_tuple_of nb D_is_tuple_of
  have f_is_word := ok_is_word nb D_is_word g_ML g_LE
  have f_is_name := ok_is_name D_is_name g_KW f_is_word
  have f_are_ways := ok_are_ways nb D_are_ways g_MW f_is_list f_is_tuple_of f_is_name
  have f_lot := ok_lot nb D_lot
  have f_masks := ok_masks_of nb D_masks_of f_lot
  have f_three := ok_is_three_of nb tc D_is_three_of f_is_tuple_of
  have f_threes_in := ok_threes_in nb tc D_threes_in f_is_list f_three
  have fb_names_at := ok_names_at nb tc D_names_at
  have m_Tinit := ok_Table_init nb tc M_Table_init f_are_ways f_threes_in f_masks
  have m_Teq := ok_Table_eq nb tc ti M_Table_eq G_Table
  have f_are_rows := ok_are_rows nb tc D_are_rows f_is_list
  have f_cells_of := ok_cells_of nb tc D_cells_of g_NW
  have f_is_let := ok_is_let nb tc D_is_let
  have f_are_let := ok_are_let nb tc D_are_let f_is_let
  have m_Sinit := ok_Scene_init nb tc sc M_Scene_init f_are_rows f_cells_of f_are_let
  have m_Slen := ok_Scene_len (CT := He.ga K "Table") nb sc M_Scene_len
  have m_Srows := ok_Scene_rows nb sc M_Scene_rows fb_names_at
  have f_scene_with := ok_scene_with nb sc D_scene_with mkS G_Scene m_Sinit f_cells_of
  have f_changed := ok_changed D_changed
  have f_rows_near := ok_rows_near nb tc D_rows_near f_changed f_cells_of f_are_let
  have f_neighbours := ok_neighbours sc D_neighbours f_rows_near f_scene_with
  have f_led_from := ok_led_from D_led_from f_rows_near
  have f_check_other := ok_check_other nb sc si D_check_other G_Scene m_Teq eqT m_Slen lnS
  have f_steps := ok_steps sc D_steps f_check_other f_led_from f_scene_with
  have x_check := ok_check_otherX nb sc si gv D_check_other G_Scene m_Teq eqT m_Slen lnS
  have x_steps := ok_stepsX sc D_steps x_check
  have f_key := ok__law_key nb D__law_key
  have f_lchanged := ok__law_changed nb D__law_changed
  have f_six := ok__law_six D__law_six
  have f_lcells := ok__law_cells nb D__law_cells
  have f_goes := ok__law_goes nb D__law_goes
  have f_isscene := ok__law_is_scene nb D__law_is_scene f_lcells f_goes
  have f_take := ok__law_take nb D__law_take
  have f_box := ok__law_box nb D__law_box
  have f_cell := ok__law_cellS nb D__law_cell
  have f_mixed := ok__law_mixed nb D__law_mixed f_take
  have f_names := ok__law_names nb D__law_names f_mixed
  have f_lots := ok__law_lots nb D__law_lots f_six
  have f_backs := ok__law_backs nb D__law_backs f_mixed f_take
  have f_made := ok__law_made nb D__law_made f_six
  have f_world := ok__law_world nb D__law_world f_backs f_take f_lots f_names f_made
  have f_table := ok__law_table nb D__law_table mkT G_Table m_Tinit f_mixed f_take f_six
  have f_looks := ok__law_looks nb D__law_looks f_lcells
  have f_named := ok__law_named D__law_named
  have f_scene := ok__law_scene nb D__law_scene f_take f_looks
  have f_near := ok__law_near nb D__law_near f_lchanged f_isscene
  have f_far := ok__law_far nb D__law_far f_near f_key
  have fb_same := ok__law_same nb D__law_same
  have f_nb := ok__law_neighbours_right nb sc si D__law_neighbours_right G_Scene mkS mr m_Sinit f_scene f_near f_named D_neighbours f_neighbours m_Teq eqT m_Srows fb_same
  have f_refused := ok__law_refused nb sc si ti kf gv G_Scene G_Table mr m_Srows fb_same x_steps m_Teq eqT m_Slen lnS D__law_refused mkT mkS m_Tinit m_Sinit f_scene f_take f_named
  have f_sr := ok__law_steps_right nb sc si G_Scene mr mkS m_Sinit m_Srows fb_same m_Teq eqT f_near f_named f_key D_steps f_steps D__law_steps_right f_scene f_take f_far f_refused
  exact ok_law nb D_law f_box f_cell f_take f_world f_table f_nb f_sr
/-- a def and its promise at the address that its name tells -/
theorem law_at {P : Program} {w : World} {K : PySem.W.Frag} {h : Heap} {mg : Str → Option Value} {f : Addr} (X : K.In h) (G : h.Ns mainGlobals mg) (c : SaysP fs fn K) (hfa : mg ("law" : Str) = some (.ref f)) :
    ∃ fd : FuncData, (∀ (s : Shared) (v : Value), BindsTo s fd ⟨[v], []⟩ [("script", v)]) ∧ ∀ base : Heap, K.In base → base.Ns mainGlobals mg → FnOk P w K mg base CX0 9 f fd ["script"] (spD (fun ns : List Int => [DL.Arg.z (isScr K ns)]) (fun _ => dD K (.bool true))) := by
  obtain ⟨fd, F⟩ := says_d c 46 rfl
  have e := hfa.symm.trans (He.glo_ok X G (says_f c 62 rfl))
  cases e
  have b := FunD.bindsA (ps := ["script"]) F fun _ _ _ _ _ _ us hl => match us, hl with | [_], _ => rfl
  refine ⟨fd, fun s v => b s [v] rfl, fun base _ _ => ?_⟩
  obtain ⟨f', fd', q1, q2, q3, q4, q5⟩ := law_facts (P := P) (w := w) (base := base) X G c
  have e2 := q1.symm.trans hfa
  cases e2
  obtain rfl := FdAt.uniq (fdAt_of F) q5
  exact q4
theorem law_sp {K : PySem.W.Frag} {H : Hp} {a : Addr} {ns : List Int} (hS : SqL K H a (ns.map V.int)) : spD (fun ns : List Int => [DL.Arg.z (isScr K ns)]) (fun _ => dD K (.bool true)) [.ref a] H (fun v _ => v = .bl true) fun _ _ _ => False := by
  refine ⟨ns, H, [], rfl, ⟨Ex.refl H, Ex.refl H, (fun q hq => nomatch hq), List.nodup_nil, (fun b o e => .inl e), (fun b o e => .inr e), (fun b o e => ⟨o, e⟩)⟩, .cons (A := .fz (isScr K ns)) (o := []) ⟨rfl, a, rfl, hS⟩ .nil, fun v H' HF' o1 o2 _ hr _ => dpB hr.2⟩
end K7
open PySem PySem.W PySem.Calls PyProof.Rows
theorem PySem.Challenge.cw_waysenough_k70_neighbours_and_steps_holds : PySem.Challenge.rw_waysenough_k70_neighbours_and_steps.Holds := by
  w_on; o_law
  refine HandSHeadRun.head_any (r := OpenLaw.row PySem.Challenge.rw_waysenough_k70_neighbours_and_steps) (q := view (OpenLaw.row PySem.Challenge.rw_waysenough_k70_neighbours_and_steps).prog [72]) (H := Hd.hk) (ob := Hd.ob) (M := 20000) (loose := Hd.names) (d := HandSHeadRun.topDef (OpenLaw.row PySem.Challenge.rw_waysenough_k70_neighbours_and_steps).prog 72) (kwd := []) Hd.ob_eq
    (by kernel_rfl) (fun s => by kernel_rfl) Hd.run (by kernel_rfl) (by kernel_rfl) (by kernel_rfl) (by rfl) (by first | assumption | decide +kernel) (by decide +kernel) ⟨rfl, rfl, rfl, rfl, rfl, by decide +kernel⟩ ?hw ?hc
  case hw => w_witness2
  case hc =>
    refine L2.walk_ofE (l := PySem.Challenge.rw_waysenough_k70_neighbours_and_steps) (n := 63) (k := 9) (x := "script") (CX := L2.CX0) rfl (by decide) (by kernel_rfl) ⟨rfl, by decide, by decide⟩ ?F (fun _ _ _ _ z => z)
    intro w mg fa h Y G hmg0
    obtain ⟨K, KX, c⟩ := Y
    have hmg : mg ("law" : PySem.Str) = some (.ref fa) := by
      have e : (HandSHeadRun.topDef (OpenLaw.row PySem.Challenge.rw_waysenough_k70_neighbours_and_steps).prog 72).name = ("law" : PySem.Str) := by kernel_rfl
      rw [← e]
      exact hmg0
    obtain ⟨fd, hb, hF⟩ := K7.law_at (P := (PySem.Challenge.rw_waysenough_k70_neighbours_and_steps).prog) (w := w) KX G c hmg
    exact ⟨K, fd, _, KX, hb, fun H a ns hl _ hS => K7.law_sp hS, hF⟩

