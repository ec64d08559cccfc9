import PyProof.Rows.All
import Wide.All
import OpenK.AllK
import Wide.FinOn
import KE.KStateDown
import KE.DatumIndex
import Lean
import HandS.ForMost
import HandS.Exc
import HandS.WordsExc
import HandS.Defaults
import HandS.Head0
import HandS.Head1
import HandS.Head2
import HandS.HeadEnd
import HandS.HeadHook1
import HandS.HeadHook2
import HandS.TryMany
import HandS.ExcInit
import HandS.ExcField
import HandS.IsInst
import HandS.SetKeys
import HandS.Style
import HandS.Conv
import HandS.Deep
import HandS.OwnEq
import HandS.Flow
import HandS.More
import HandS.Wide
import HandS.Zip
import HandS.RaiseMore
import KE.KExcInit
import KE.GoesEnum
import HandS.Walk
import HandS.Codes
import HandS.SetFor
import PySem.Challenge.RW_cupcap_k54_whole_editors_against_their_l
set_option Elab.async false
set_option linter.all false
set_option maxRecDepth 100000
set_option maxHeartbeats 4000000
namespace K54
universe v
/-! ### the abstract editor -/
structure Ed (U : Type) where
  order : List Nat
  letters : List Int
  owners : List U
  hid : Nat → Bool
  done : U → List Nat
  undone : U → List Nat

section
variable {U : Type} [DecidableEq U] [Inhabited U]

def setAt {A B : Type} [DecidableEq A] (f : A → B) (a : A) (b : B) : A → B := fun x => if x = a then b else f x
theorem setAt_same {A B : Type} [DecidableEq A] {f : A → B} {a : A} {b : B} : setAt f a b a = b := if_pos rfl
theorem setAt_ne {A B : Type} [DecidableEq A] {f : A → B} {a x : A} {b : B} (h : x ≠ a) : setAt f a b x = f x := if_neg h

def Ed.own (S : Ed U) (i : Nat) : U := S.owners.getD i default
def Ed.shown (S : Ed U) : List Nat := S.order.filter fun i => !S.hid i
def Ed.word (S : Ed U) : List Int := S.shown.map fun i => S.letters.getD i 0
def Ed.auth (S : Ed U) : List U := S.shown.map S.own
def Ed.place (S : Ed U) (pos : Nat) : Nat := if pos < S.shown.length then S.order.idxOf (S.shown.getD pos 0) else S.order.length
def Ed.ins (S : Ed U) (u : U) (pos : Nat) (l : Int) : Ed U :=
  { order := S.order.take (S.place pos) ++ S.letters.length :: S.order.drop (S.place pos),
    letters := S.letters ++ [l], owners := S.owners ++ [u], hid := S.hid,
    done := setAt S.done u (S.done u ++ [S.letters.length]), undone := setAt S.undone u [] }
def Ed.top (S : Ed U) (u : U) : Nat := (S.done u).getLastD 0
def Ed.utop (S : Ed U) (u : U) : Nat := (S.undone u).getLastD 0
def Ed.undo (S : Ed U) (u : U) : Ed U :=
  { S with hid := setAt S.hid (S.top u) true, done := setAt S.done u (S.done u).dropLast, undone := setAt S.undone u (S.undone u ++ [S.top u]) }
def Ed.redo (S : Ed U) (u : U) : Ed U :=
  { S with hid := setAt S.hid (S.utop u) false, undone := setAt S.undone u (S.undone u).dropLast, done := setAt S.done u (S.done u ++ [S.utop u]) }
def Ed.new : Ed U := { order := [], letters := [], owners := [], hid := fun _ => false, done := fun _ => [], undone := fun _ => [] }

structure Ed.Ok (S : Ed U) : Prop where
  nd : S.order.Nodup
  mem : ∀ i, i ∈ S.order ↔ i < S.letters.length
  ol : S.owners.length = S.letters.length
  hn : ∀ i, S.letters.length ≤ i → S.hid i = false
  dn : ∀ u a, a ∈ S.done u → a < S.letters.length ∧ S.hid a = false ∧ S.own a = u
  un : ∀ u a, a ∈ S.undone u → a < S.letters.length ∧ S.hid a = true ∧ S.own a = u
  dd : ∀ u, (S.done u).Nodup
  ud : ∀ u, (S.undone u).Nodup
  ct : ∀ u, S.order.countP (fun i => !S.hid i && decide (S.own i = u)) = (S.done u).length

theorem countP_hide {p q : Nat → Bool} {a : Nat} : ∀ {l : List Nat}, l.Nodup → a ∈ l → p a = true → q a = false → (∀ i, i ≠ a → q i = p i) → l.countP p = l.countP q + 1
  | [], _, h, _, _, _ => by cases h
  | b :: l, nd, h, pa, qa, e => by
    have nd2 := List.nodup_cons.mp nd
    by_cases hb : b = a
    · subst hb
      rw [List.countP_cons_of_pos pa, List.countP_cons_of_neg (by rw [qa]; decide)]
      have : l.countP p = l.countP q := List.countP_congr fun x hx => by
        rw [e x (fun z => nd2.1 (z ▸ hx))]
      omega
    · have ha : a ∈ l := by
        rcases List.mem_cons.mp h with z | z
        · exact absurd z.symm hb
        · exact z
      have ih := countP_hide nd2.2 ha pa qa e
      rw [List.countP_cons, List.countP_cons, ih, e b hb]
      omega

theorem getLastD_append (l : List Nat) (a d : Nat) : (l ++ [a]).getLastD d = a := by
  cases l with
  | nil => rfl
  | cons b l =>
    have e : ((b :: l) ++ [a]).getLast (by simp) = a := List.getLast_append_of_ne_nil _ (by simp)
    exact e
theorem dropLast_app (l : List Nat) (a : Nat) : (l ++ [a]).dropLast = l := by simp
theorem mem_dl {l : List Nat} {a : Nat} (h : a ∈ l.dropLast) : a ∈ l := (List.dropLast_sublist l).subset h
theorem split_last {l : List Nat} (h : l ≠ []) (d : Nat) : l = l.dropLast ++ [l.getLastD d] := by
  have e := List.dropLast_concat_getLast h
  have e2 : l.getLastD d = l.getLast h := by
    cases l with
    | nil => exact absurd rfl h
    | cons b l => rfl
  rw [e2, e]

theorem Ed.redo_undo {S : Ed U} (K : S.Ok) {u : U} (h : S.done u ≠ []) : (S.undo u).redo u = S := by
  have hd := split_last h 0
  have ha : S.top u ∈ S.done u := by
    rw [hd]
    exact List.mem_append_right _ (by show S.top u ∈ [S.top u]; simp)
  obtain ⟨h1, h2, h3⟩ := K.dn u _ ha
  have ut : (S.undo u).utop u = S.top u := by
    show ((setAt S.undone u (S.undone u ++ [S.top u])) u).getLastD 0 = _
    rw [setAt_same, getLastD_append]
  obtain ⟨o, l, w, hi, dn, un⟩ := S
  unfold Ed.redo
  rw [ut]
  unfold Ed.undo
  dsimp only at *
  congr 1
  · funext x
    by_cases e : x = Ed.top ⟨o, l, w, hi, dn, un⟩ u
    · rw [e, setAt_same]; exact h2.symm
    · rw [setAt_ne e, setAt_ne e]
  · funext x
    by_cases e : x = u
    · rw [e, setAt_same, setAt_same]; exact hd.symm
    · rw [setAt_ne e, setAt_ne e]
  · funext x
    by_cases e : x = u
    · rw [e, setAt_same, setAt_same, dropLast_app]
    · rw [setAt_ne e, setAt_ne e]

theorem own_app {S : Ed U} {i : Nat} (h : i < S.owners.length) (u : U) : (S.owners ++ [u]).getD i default = S.own i := by
  unfold Ed.own
  rw [List.getD_eq_getElem?_getD, List.getD_eq_getElem?_getD, List.getElem?_append_left h]
theorem own_last {S : Ed U} (u : U) : (S.owners ++ [u]).getD S.owners.length default = u := by
  rw [List.getD_eq_getElem?_getD, List.getElem?_append_right (Nat.le_refl _)]
  simp

theorem countP_ins {p : Nat → Bool} (l : List Nat) (k n : Nat) : (l.take k ++ n :: l.drop k).countP p = l.countP p + (if p n = true then 1 else 0) := by
  rw [List.countP_append, List.countP_cons]
  have e : l.countP p = (l.take k).countP p + (l.drop k).countP p := by rw [← List.countP_append, List.take_append_drop]
  omega

theorem mem_ins {l : List Nat} {k n i : Nat} : i ∈ l.take k ++ n :: l.drop k ↔ i = n ∨ i ∈ l := by
  rw [List.mem_append, List.mem_cons]
  have e : i ∈ l ↔ i ∈ l.take k ∨ i ∈ l.drop k := by rw [← List.mem_append, List.take_append_drop]
  rw [e]
  constructor
  · rintro (a | a | a)
    · exact .inr (.inl a)
    · exact .inl a
    · exact .inr (.inr a)
  · rintro (a | a | a)
    · exact .inr (.inl a)
    · exact .inl a
    · exact .inr (.inr a)

theorem nodup_ins {l : List Nat} {k n : Nat} (h : l.Nodup) (hn : n ∉ l) : (l.take k ++ n :: l.drop k).Nodup := by
  have e : (l.take k ++ l.drop k).Nodup := by rw [List.take_append_drop]; exact h
  rw [List.nodup_append] at e ⊢
  obtain ⟨h1, h2, h3⟩ := e
  refine ⟨h1, List.nodup_cons.mpr ⟨fun z => hn (List.mem_of_mem_drop z), h2⟩, fun a ha b hb => ?_⟩
  rcases List.mem_cons.mp hb with z | z
  · subst z; intro q; subst q; exact hn (List.mem_of_mem_take ha)
  · exact h3 a ha b z

theorem Ed.new_ok : (Ed.new : Ed U).Ok where
  nd := List.nodup_nil
  mem := fun i => by constructor <;> intro h <;> cases h
  ol := rfl
  hn := fun _ _ => rfl
  dn := fun u a h => by cases h
  un := fun u a h => by cases h
  dd := fun _ => List.nodup_nil
  ud := fun _ => List.nodup_nil
  ct := fun _ => rfl

theorem Ed.Ok.ins {S : Ed U} (K : S.Ok) (u : U) (pos : Nat) (l : Int) : (S.ins u pos l).Ok where
  nd := nodup_ins K.nd fun z => Nat.lt_irrefl _ ((K.mem _).mp z)
  mem := fun i => by
    show i ∈ S.order.take (S.place pos) ++ S.letters.length :: S.order.drop (S.place pos) ↔ i < (S.letters ++ [l]).length
    rw [mem_ins, K.mem, List.length_append, List.length_singleton]
    omega
  ol := by
    show (S.owners ++ [u]).length = (S.letters ++ [l]).length
    rw [List.length_append, List.length_append, K.ol]; rfl
  hn := fun i hi => K.hn i (by
    have e : (S.ins u pos l).letters.length = S.letters.length + 1 := by show (S.letters ++ [l]).length = _; simp
    omega)
  dn := fun v a ha => by
    have e : (S.ins u pos l).letters.length = S.letters.length + 1 := by show (S.letters ++ [l]).length = _; simp
    have old : a ∈ S.done v → a < (S.ins u pos l).letters.length ∧ S.hid a = false ∧ (S.owners ++ [u]).getD a default = v := fun h => by
      obtain ⟨h1, h2, h3⟩ := K.dn v a h
      exact ⟨by omega, h2, (own_app (by rw [K.ol]; exact h1) u).trans h3⟩
    have ha' : a ∈ setAt S.done u (S.done u ++ [S.letters.length]) v := ha
    by_cases hv : v = u
    · subst hv
      rw [setAt_same] at ha'
      rcases List.mem_append.mp ha' with z | z
      · exact old z
      · have z' : a = S.letters.length := by simpa using z
        subst z'
        exact ⟨by omega, K.hn _ (Nat.le_refl _), by rw [← K.ol]; exact own_last v⟩
    · rw [setAt_ne hv] at ha'
      exact old ha'
  un := fun v a ha => by
    have e : (S.ins u pos l).letters.length = S.letters.length + 1 := by show (S.letters ++ [l]).length = _; simp
    have ha' : a ∈ setAt S.undone u [] v := ha
    by_cases hv : v = u
    · subst hv; rw [setAt_same] at ha'; cases ha'
    · rw [setAt_ne hv] at ha'
      obtain ⟨h1, h2, h3⟩ := K.un v a ha'
      exact ⟨by omega, h2, (own_app (by rw [K.ol]; exact h1) u).trans h3⟩
  dd := fun v => by
    show (setAt S.done u (S.done u ++ [S.letters.length]) v).Nodup
    by_cases hv : v = u
    · subst hv
      rw [setAt_same, List.nodup_append]
      refine ⟨K.dd v, by simp, fun a ha b hb => ?_⟩
      have hb' : b = S.letters.length := by simpa using hb
      have := (K.dn v a ha).1
      omega
    · rw [setAt_ne hv]; exact K.dd v
  ud := fun v => by
    show (setAt S.undone u [] v).Nodup
    by_cases hv : v = u
    · subst hv; rw [setAt_same]; exact List.nodup_nil
    · rw [setAt_ne hv]; exact K.ud v
  ct := fun v => by
    show (S.order.take (S.place pos) ++ S.letters.length :: S.order.drop (S.place pos)).countP (fun i => !S.hid i && decide ((S.owners ++ [u]).getD i default = v)) = (setAt S.done u (S.done u ++ [S.letters.length]) v).length
    rw [countP_ins]
    have e1 : S.order.countP (fun i => !S.hid i && decide ((S.owners ++ [u]).getD i default = v)) = (S.done v).length := by
      rw [← K.ct v]
      refine List.countP_congr fun i hi => ?_
      rw [own_app (by rw [K.ol]; exact (K.mem i).mp hi) u]
    rw [e1, K.hn _ (Nat.le_refl _)]
    have e2 : (S.owners ++ [u]).getD S.letters.length default = u := by rw [← K.ol]; exact own_last u
    rw [e2]
    by_cases hv : v = u
    · subst hv; rw [setAt_same]; simp
    · rw [setAt_ne hv]
      have : ¬ u = v := fun z => hv z.symm
      simp [this]

theorem Ed.top_mem {S : Ed U} {u : U} (h : S.done u ≠ []) : S.top u ∈ S.done u := by
  have hd := split_last h 0
  rw [hd]
  exact List.mem_append_right _ (by show S.top u ∈ [S.top u]; simp)
theorem Ed.utop_mem {S : Ed U} {u : U} (h : S.undone u ≠ []) : S.utop u ∈ S.undone u := by
  have hd := split_last h 0
  rw [hd]
  exact List.mem_append_right _ (by show S.utop u ∈ [S.utop u]; simp)
theorem nodup_split {l : List Nat} (h : l.Nodup) (n : l ≠ []) : l.dropLast.Nodup ∧ l.getLastD 0 ∉ l.dropLast := by
  have hd := split_last n 0
  rw [hd, List.nodup_append] at h
  refine ⟨h.1, fun z => ?_⟩
  exact h.2.2 _ z (l.getLastD 0) (by simp) rfl

theorem Ed.Ok.undo {S : Ed U} (K : S.Ok) {u : U} (h : S.done u ≠ []) : (S.undo u).Ok where
  nd := K.nd
  mem := K.mem
  ol := K.ol
  hn := fun i hi => by
    obtain ⟨h1, _⟩ := K.dn u _ (Ed.top_mem h)
    show setAt S.hid (S.top u) true i = false
    have hi' : S.letters.length ≤ i := hi
    rw [setAt_ne (by omega)]
    exact K.hn i hi
  dn := fun v a ha => by
    obtain ⟨h1, h2, h3⟩ := K.dn u _ (Ed.top_mem h)
    have ha' : a ∈ setAt S.done u (S.done u).dropLast v := ha
    show a < S.letters.length ∧ setAt S.hid (S.top u) true a = false ∧ S.own a = v
    by_cases hv : v = u
    · subst hv
      rw [setAt_same] at ha'
      obtain ⟨g1, g2, g3⟩ := K.dn v a (mem_dl ha')
      refine ⟨g1, ?_, g3⟩
      rw [setAt_ne]
      · exact g2
      · intro z
        subst z
        exact (nodup_split (K.dd v) h).2 ha'
    · rw [setAt_ne hv] at ha'
      obtain ⟨g1, g2, g3⟩ := K.dn v a ha'
      refine ⟨g1, ?_, g3⟩
      rw [setAt_ne]
      · exact g2
      · intro z
        subst z
        exact hv (g3.symm.trans h3)
  un := fun v a ha => by
    obtain ⟨h1, h2, h3⟩ := K.dn u _ (Ed.top_mem h)
    have ha' : a ∈ setAt S.undone u (S.undone u ++ [S.top u]) v := ha
    show a < S.letters.length ∧ setAt S.hid (S.top u) true a = true ∧ S.own a = v
    have old : a ∈ S.undone v → a < S.letters.length ∧ setAt S.hid (S.top u) true a = true ∧ S.own a = v := fun q => by
      obtain ⟨g1, g2, g3⟩ := K.un v a q
      refine ⟨g1, ?_, g3⟩
      by_cases e : a = S.top u
      · rw [e, setAt_same]
      · rw [setAt_ne e]; exact g2
    by_cases hv : v = u
    · subst hv
      rw [setAt_same] at ha'
      rcases List.mem_append.mp ha' with q | q
      · exact old q
      · have e : a = S.top v := by simpa using q
        subst e
        exact ⟨h1, setAt_same, h3⟩
    · rw [setAt_ne hv] at ha'
      exact old ha'
  dd := fun v => by
    show (setAt S.done u (S.done u).dropLast v).Nodup
    by_cases hv : v = u
    · subst hv; rw [setAt_same]; exact (nodup_split (K.dd v) h).1
    · rw [setAt_ne hv]; exact K.dd v
  ud := fun v => by
    obtain ⟨h1, h2, h3⟩ := K.dn u _ (Ed.top_mem h)
    show (setAt S.undone u (S.undone u ++ [S.top u]) v).Nodup
    by_cases hv : v = u
    · subst hv
      rw [setAt_same, List.nodup_append]
      refine ⟨K.ud v, by simp, fun a ha b hb => ?_⟩
      have hb' : b = S.top v := by simpa using hb
      intro e
      rw [hb'] at e
      rw [← e, (K.un v a ha).2.1] at h2
      cases h2
    · rw [setAt_ne hv]; exact K.ud v
  ct := fun v => by
    obtain ⟨h1, h2, h3⟩ := K.dn u _ (Ed.top_mem h)
    have hm : S.top u ∈ S.order := (K.mem _).mpr h1
    show S.order.countP (fun i => !setAt S.hid (S.top u) true i && decide (S.own i = v)) = (setAt S.done u (S.done u).dropLast v).length
    by_cases hv : v = u
    · subst hv
      have e := countP_hide (p := fun i => !S.hid i && decide (S.own i = v)) (q := fun i => !setAt S.hid (S.top v) true i && decide (S.own i = v)) K.nd hm (by simp [h2, h3]) (by simp [setAt_same]) (fun i hi => by rw [setAt_ne hi])
      rw [K.ct v] at e
      rw [setAt_same, List.length_dropLast]
      omega
    · rw [setAt_ne hv, ← K.ct v]
      refine List.countP_congr fun i hi => ?_
      by_cases e : i = S.top u
      · subst e
        have : ¬ S.own (S.top u) = v := fun z => hv (z.symm.trans h3)
        simp [this]
      · rw [setAt_ne e]

theorem Ed.Ok.redo {S : Ed U} (K : S.Ok) {u : U} (h : S.undone u ≠ []) : (S.redo u).Ok where
  nd := K.nd
  mem := K.mem
  ol := K.ol
  hn := fun i hi => by
    show setAt S.hid (S.utop u) false i = false
    by_cases e : i = S.utop u
    · rw [e, setAt_same]
    · rw [setAt_ne e]; exact K.hn i hi
  dn := fun v a ha => by
    obtain ⟨h1, h2, h3⟩ := K.un u _ (Ed.utop_mem h)
    have ha' : a ∈ setAt S.done u (S.done u ++ [S.utop u]) v := ha
    show a < S.letters.length ∧ setAt S.hid (S.utop u) false a = false ∧ S.own a = v
    have old : a ∈ S.done v → a < S.letters.length ∧ setAt S.hid (S.utop u) false a = false ∧ S.own a = v := fun q => by
      obtain ⟨g1, g2, g3⟩ := K.dn v a q
      refine ⟨g1, ?_, g3⟩
      by_cases e : a = S.utop u
      · rw [e, setAt_same]
      · rw [setAt_ne e]; exact g2
    by_cases hv : v = u
    · subst hv
      rw [setAt_same] at ha'
      rcases List.mem_append.mp ha' with q | q
      · exact old q
      · have e : a = S.utop v := by simpa using q
        subst e
        exact ⟨h1, setAt_same, h3⟩
    · rw [setAt_ne hv] at ha'
      exact old ha'
  un := fun v a ha => by
    obtain ⟨h1, h2, h3⟩ := K.un u _ (Ed.utop_mem h)
    have ha' : a ∈ setAt S.undone u (S.undone u).dropLast v := ha
    show a < S.letters.length ∧ setAt S.hid (S.utop u) false a = true ∧ S.own a = v
    by_cases hv : v = u
    · subst hv
      rw [setAt_same] at ha'
      obtain ⟨g1, g2, g3⟩ := K.un v a (mem_dl ha')
      refine ⟨g1, ?_, g3⟩
      rw [setAt_ne]
      · exact g2
      · intro z
        subst z
        exact (nodup_split (K.ud v) h).2 ha'
    · rw [setAt_ne hv] at ha'
      obtain ⟨g1, g2, g3⟩ := K.un v a ha'
      refine ⟨g1, ?_, g3⟩
      rw [setAt_ne]
      · exact g2
      · intro z
        subst z
        exact hv (g3.symm.trans h3)
  dd := fun v => by
    obtain ⟨h1, h2, h3⟩ := K.un u _ (Ed.utop_mem h)
    show (setAt S.done u (S.done u ++ [S.utop u]) v).Nodup
    by_cases hv : v = u
    · subst hv
      rw [setAt_same, List.nodup_append]
      refine ⟨K.dd v, by simp, fun a ha b hb => ?_⟩
      have hb' : b = S.utop v := by simpa using hb
      intro e
      rw [hb'] at e
      rw [← e, (K.dn v a ha).2.1] at h2
      cases h2
    · rw [setAt_ne hv]; exact K.dd v
  ud := fun v => by
    show (setAt S.undone u (S.undone u).dropLast v).Nodup
    by_cases hv : v = u
    · subst hv; rw [setAt_same]; exact (nodup_split (K.ud v) h).1
    · rw [setAt_ne hv]; exact K.ud v
  ct := fun v => by
    obtain ⟨h1, h2, h3⟩ := K.un u _ (Ed.utop_mem h)
    have hm : S.utop u ∈ S.order := (K.mem _).mpr h1
    show S.order.countP (fun i => !setAt S.hid (S.utop u) false i && decide (S.own i = v)) = (setAt S.done u (S.done u ++ [S.utop u]) v).length
    by_cases hv : v = u
    · subst hv
      have e := countP_hide (q := fun i => !S.hid i && decide (S.own i = v)) (p := fun i => !setAt S.hid (S.utop v) false i && decide (S.own i = v)) K.nd hm (by simp [setAt_same, h3]) (by simp [h2]) (fun i hi => by rw [setAt_ne hi])
      rw [K.ct v] at e
      rw [setAt_same, List.length_append, List.length_singleton]
      exact e
    · rw [setAt_ne hv, ← K.ct v]
      refine List.countP_congr fun i hi => ?_
      by_cases e : i = S.utop u
      · subst e
        have : ¬ S.own (S.utop u) = v := fun z => hv (z.symm.trans h3)
        simp [this]
      · rw [setAt_ne e]
end
end K54
/-! the text by places, the defs as data, the facts that the head tells of them; printed by gen_text.py -/
namespace K54
open PySem PySem.Spec PyProof.Rows L2
def top (i : Nat) : Stmt := PySem.Challenge.pw_cupcap_k54_whole_editors_against_their_l.main.body.getD i (.Pass ⟨0, 0, 0, 0⟩)
abbrev s_NothingToUndo_init : Stmt := inClass (top 8) 0
abbrev s_NothingToRedo_init : Stmt := inClass (top 9) 0
abbrev s_is_integer : Stmt := top 12
abbrev s_is_columns : Stmt := top 13
abbrev s_check_columns : Stmt := top 14
abbrev s_border_walk : Stmt := top 15
abbrev s_has_crossing : Stmt := top 16
abbrev s_is_partners : Stmt := top 17
abbrev s_Diagram_init : Stmt := inClass (top 18) 0
abbrev s_Diagram_columns : Stmt := inClass (top 18) 1
abbrev s_Diagram_partners : Stmt := inClass (top 18) 2
abbrev s_Diagram_partner : Stmt := inClass (top 18) 3
abbrev s_Diagram_eq : Stmt := inClass (top 18) 8
abbrev s_from_arcs : Stmt := top 19
abbrev s_identity : Stmt := top 20
abbrev s_generator : Stmt := top 21
abbrev s_check_same_columns : Stmt := top 23
abbrev s_path_from : Stmt := top 24
abbrev s_stack : Stmt := top 25
abbrev s_stack_all : Stmt := top 26
abbrev s_is_letter : Stmt := top 28
abbrev s_value_of : Stmt := top 29
abbrev s_is_name : Stmt := top 33
abbrev s_check_name : Stmt := top 34
abbrev s_Editor_init : Stmt := inClass (top 35) 0
abbrev s_Editor_shown : Stmt := inClass (top 35) 1
abbrev s_Editor_insert : Stmt := inClass (top 35) 2
abbrev s_Editor_add : Stmt := inClass (top 35) 3
abbrev s_Editor_undo : Stmt := inClass (top 35) 4
abbrev s_Editor_redo : Stmt := inClass (top 35) 5
abbrev s_Editor_word : Stmt := inClass (top 35) 6
abbrev s_Editor_authors : Stmt := inClass (top 35) 7
abbrev s_Editor_state : Stmt := inClass (top 35) 8
abbrev s_Editor_removable : Stmt := inClass (top 35) 9
abbrev s_law_pool : Stmt := top 37
abbrev s_law_take : Stmt := top 38
abbrev s_law_identity : Stmt := top 39
abbrev s_law_path : Stmt := top 40
abbrev s_law_stack : Stmt := top 41
abbrev s_law_generator : Stmt := top 42
abbrev s_law_value : Stmt := top 43
abbrev s_law_shown : Stmt := top 44
abbrev s_law_word : Stmt := top 45
abbrev s_law_authors : Stmt := top 46
abbrev s_law_new_model : Stmt := top 47
abbrev s_law_insert : Stmt := top 48
abbrev s_law_turn : Stmt := top 49
abbrev s_law_expected : Stmt := top 50
abbrev s_law_action : Stmt := top 51
abbrev s_law_do : Stmt := top 52
abbrev s_law_check : Stmt := top 53
abbrev s_law_check_undone : Stmt := top 54
abbrev s_law_check_state : Stmt := top 55
abbrev s_law : Stmt := top 56
abbrev a_NothingToUndo_init : Str × Option Str := ("NothingToUndo", some "__init__")
def d_NothingToUndo_init : He.DefD := ⟨a_NothingToUndo_init, "__init__", "NothingToUndo.__init__", defArgs s_NothingToUndo_init, defBody s_NothingToUndo_init, defScope s_NothingToUndo_init, [], []⟩
abbrev a_NothingToRedo_init : Str × Option Str := ("NothingToRedo", some "__init__")
def d_NothingToRedo_init : He.DefD := ⟨a_NothingToRedo_init, "__init__", "NothingToRedo.__init__", defArgs s_NothingToRedo_init, defBody s_NothingToRedo_init, defScope s_NothingToRedo_init, [], []⟩
abbrev a_is_integer : Str × Option Str := ("is_integer", none)
def d_is_integer : He.DefD := ⟨a_is_integer, "is_integer", "is_integer", defArgs s_is_integer, defBody s_is_integer, defScope s_is_integer, [.int 0], []⟩
abbrev a_is_columns : Str × Option Str := ("is_columns", none)
def d_is_columns : He.DefD := ⟨a_is_columns, "is_columns", "is_columns", defArgs s_is_columns, defBody s_is_columns, defScope s_is_columns, [], []⟩
abbrev a_check_columns : Str × Option Str := ("check_columns", none)
def d_check_columns : He.DefD := ⟨a_check_columns, "check_columns", "check_columns", defArgs s_check_columns, defBody s_check_columns, defScope s_check_columns, [], []⟩
abbrev a_border_walk : Str × Option Str := ("border_walk", none)
def d_border_walk : He.DefD := ⟨a_border_walk, "border_walk", "border_walk", defArgs s_border_walk, defBody s_border_walk, defScope s_border_walk, [], []⟩
abbrev a_has_crossing : Str × Option Str := ("has_crossing", none)
def d_has_crossing : He.DefD := ⟨a_has_crossing, "has_crossing", "has_crossing", defArgs s_has_crossing, defBody s_has_crossing, defScope s_has_crossing, [], []⟩
abbrev a_is_partners : Str × Option Str := ("is_partners", none)
def d_is_partners : He.DefD := ⟨a_is_partners, "is_partners", "is_partners", defArgs s_is_partners, defBody s_is_partners, defScope s_is_partners, [], []⟩
abbrev a_Diagram_init : Str × Option Str := ("Diagram", some "__init__")
def d_Diagram_init : He.DefD := ⟨a_Diagram_init, "__init__", "Diagram.__init__", defArgs s_Diagram_init, defBody s_Diagram_init, defScope s_Diagram_init, [], []⟩
abbrev a_Diagram_columns : Str × Option Str := ("Diagram", some "columns")
def d_Diagram_columns : He.DefD := ⟨a_Diagram_columns, "columns", "Diagram.columns", defArgs s_Diagram_columns, defBody s_Diagram_columns, defScope s_Diagram_columns, [], []⟩
abbrev a_Diagram_partners : Str × Option Str := ("Diagram", some "partners")
def d_Diagram_partners : He.DefD := ⟨a_Diagram_partners, "partners", "Diagram.partners", defArgs s_Diagram_partners, defBody s_Diagram_partners, defScope s_Diagram_partners, [], []⟩
abbrev a_Diagram_partner : Str × Option Str := ("Diagram", some "partner")
def d_Diagram_partner : He.DefD := ⟨a_Diagram_partner, "partner", "Diagram.partner", defArgs s_Diagram_partner, defBody s_Diagram_partner, defScope s_Diagram_partner, [], []⟩
abbrev a_Diagram_eq : Str × Option Str := ("Diagram", some "__eq__")
def d_Diagram_eq : He.DefD := ⟨a_Diagram_eq, "__eq__", "Diagram.__eq__", defArgs s_Diagram_eq, defBody s_Diagram_eq, defScope s_Diagram_eq, [], []⟩
abbrev a_from_arcs : Str × Option Str := ("from_arcs", none)
def d_from_arcs : He.DefD := ⟨a_from_arcs, "from_arcs", "from_arcs", defArgs s_from_arcs, defBody s_from_arcs, defScope s_from_arcs, [], []⟩
abbrev a_identity : Str × Option Str := ("identity", none)
def d_identity : He.DefD := ⟨a_identity, "identity", "identity", defArgs s_identity, defBody s_identity, defScope s_identity, [], []⟩
abbrev a_generator : Str × Option Str := ("generator", none)
def d_generator : He.DefD := ⟨a_generator, "generator", "generator", defArgs s_generator, defBody s_generator, defScope s_generator, [], []⟩
abbrev a_check_same_columns : Str × Option Str := ("check_same_columns", none)
def d_check_same_columns : He.DefD := ⟨a_check_same_columns, "check_same_columns", "check_same_columns", defArgs s_check_same_columns, defBody s_check_same_columns, defScope s_check_same_columns, [], []⟩
abbrev a_path_from : Str × Option Str := ("path_from", none)
def d_path_from : He.DefD := ⟨a_path_from, "path_from", "path_from", defArgs s_path_from, defBody s_path_from, defScope s_path_from, [], []⟩
abbrev a_stack : Str × Option Str := ("stack", none)
def d_stack : He.DefD := ⟨a_stack, "stack", "stack", defArgs s_stack, defBody s_stack, defScope s_stack, [], []⟩
abbrev a_stack_all : Str × Option Str := ("stack_all", none)
def d_stack_all : He.DefD := ⟨a_stack_all, "stack_all", "stack_all", defArgs s_stack_all, defBody s_stack_all, defScope s_stack_all, [], []⟩
abbrev a_is_letter : Str × Option Str := ("is_letter", none)
def d_is_letter : He.DefD := ⟨a_is_letter, "is_letter", "is_letter", defArgs s_is_letter, defBody s_is_letter, defScope s_is_letter, [], []⟩
abbrev a_value_of : Str × Option Str := ("value_of", none)
def d_value_of : He.DefD := ⟨a_value_of, "value_of", "value_of", defArgs s_value_of, defBody s_value_of, defScope s_value_of, [], []⟩
abbrev a_is_name : Str × Option Str := ("is_name", none)
def d_is_name : He.DefD := ⟨a_is_name, "is_name", "is_name", defArgs s_is_name, defBody s_is_name, defScope s_is_name, [], []⟩
abbrev a_check_name : Str × Option Str := ("check_name", none)
def d_check_name : He.DefD := ⟨a_check_name, "check_name", "check_name", defArgs s_check_name, defBody s_check_name, defScope s_check_name, [], []⟩
abbrev a_Editor_init : Str × Option Str := ("Editor", some "__init__")
def d_Editor_init : He.DefD := ⟨a_Editor_init, "__init__", "Editor.__init__", defArgs s_Editor_init, defBody s_Editor_init, defScope s_Editor_init, [], []⟩
abbrev a_Editor_shown : Str × Option Str := ("Editor", some "shown")
def d_Editor_shown : He.DefD := ⟨a_Editor_shown, "shown", "Editor.shown", defArgs s_Editor_shown, defBody s_Editor_shown, defScope s_Editor_shown, [], []⟩
abbrev a_Editor_insert : Str × Option Str := ("Editor", some "insert")
def d_Editor_insert : He.DefD := ⟨a_Editor_insert, "insert", "Editor.insert", defArgs s_Editor_insert, defBody s_Editor_insert, defScope s_Editor_insert, [], []⟩
abbrev a_Editor_add : Str × Option Str := ("Editor", some "add")
def d_Editor_add : He.DefD := ⟨a_Editor_add, "add", "Editor.add", defArgs s_Editor_add, defBody s_Editor_add, defScope s_Editor_add, [], []⟩
abbrev a_Editor_undo : Str × Option Str := ("Editor", some "undo")
def d_Editor_undo : He.DefD := ⟨a_Editor_undo, "undo", "Editor.undo", defArgs s_Editor_undo, defBody s_Editor_undo, defScope s_Editor_undo, [], []⟩
abbrev a_Editor_redo : Str × Option Str := ("Editor", some "redo")
def d_Editor_redo : He.DefD := ⟨a_Editor_redo, "redo", "Editor.redo", defArgs s_Editor_redo, defBody s_Editor_redo, defScope s_Editor_redo, [], []⟩
abbrev a_Editor_word : Str × Option Str := ("Editor", some "word")
def d_Editor_word : He.DefD := ⟨a_Editor_word, "word", "Editor.word", defArgs s_Editor_word, defBody s_Editor_word, defScope s_Editor_word, [], []⟩
abbrev a_Editor_authors : Str × Option Str := ("Editor", some "authors")
def d_Editor_authors : He.DefD := ⟨a_Editor_authors, "authors", "Editor.authors", defArgs s_Editor_authors, defBody s_Editor_authors, defScope s_Editor_authors, [], []⟩
abbrev a_Editor_state : Str × Option Str := ("Editor", some "state")
def d_Editor_state : He.DefD := ⟨a_Editor_state, "state", "Editor.state", defArgs s_Editor_state, defBody s_Editor_state, defScope s_Editor_state, [], []⟩
abbrev a_Editor_removable : Str × Option Str := ("Editor", some "removable")
def d_Editor_removable : He.DefD := ⟨a_Editor_removable, "removable", "Editor.removable", defArgs s_Editor_removable, defBody s_Editor_removable, defScope s_Editor_removable, [], []⟩
abbrev a_law_pool : Str × Option Str := ("_law_pool", none)
def d_law_pool : He.DefD := ⟨a_law_pool, "_law_pool", "_law_pool", defArgs s_law_pool, defBody s_law_pool, defScope s_law_pool, [], []⟩
abbrev a_law_take : Str × Option Str := ("_law_take", none)
def d_law_take : He.DefD := ⟨a_law_take, "_law_take", "_law_take", defArgs s_law_take, defBody s_law_take, defScope s_law_take, [], []⟩
abbrev a_law_identity : Str × Option Str := ("_law_identity", none)
def d_law_identity : He.DefD := ⟨a_law_identity, "_law_identity", "_law_identity", defArgs s_law_identity, defBody s_law_identity, defScope s_law_identity, [], []⟩
abbrev a_law_path : Str × Option Str := ("_law_path", none)
def d_law_path : He.DefD := ⟨a_law_path, "_law_path", "_law_path", defArgs s_law_path, defBody s_law_path, defScope s_law_path, [], []⟩
abbrev a_law_stack : Str × Option Str := ("_law_stack", none)
def d_law_stack : He.DefD := ⟨a_law_stack, "_law_stack", "_law_stack", defArgs s_law_stack, defBody s_law_stack, defScope s_law_stack, [], []⟩
abbrev a_law_generator : Str × Option Str := ("_law_generator", none)
def d_law_generator : He.DefD := ⟨a_law_generator, "_law_generator", "_law_generator", defArgs s_law_generator, defBody s_law_generator, defScope s_law_generator, [], []⟩
abbrev a_law_value : Str × Option Str := ("_law_value", none)
def d_law_value : He.DefD := ⟨a_law_value, "_law_value", "_law_value", defArgs s_law_value, defBody s_law_value, defScope s_law_value, [], []⟩
abbrev a_law_shown : Str × Option Str := ("_law_shown", none)
def d_law_shown : He.DefD := ⟨a_law_shown, "_law_shown", "_law_shown", defArgs s_law_shown, defBody s_law_shown, defScope s_law_shown, [], []⟩
abbrev a_law_word : Str × Option Str := ("_law_word", none)
def d_law_word : He.DefD := ⟨a_law_word, "_law_word", "_law_word", defArgs s_law_word, defBody s_law_word, defScope s_law_word, [], []⟩
abbrev a_law_authors : Str × Option Str := ("_law_authors", none)
def d_law_authors : He.DefD := ⟨a_law_authors, "_law_authors", "_law_authors", defArgs s_law_authors, defBody s_law_authors, defScope s_law_authors, [], []⟩
abbrev a_law_new_model : Str × Option Str := ("_law_new_model", none)
def d_law_new_model : He.DefD := ⟨a_law_new_model, "_law_new_model", "_law_new_model", defArgs s_law_new_model, defBody s_law_new_model, defScope s_law_new_model, [], []⟩
abbrev a_law_insert : Str × Option Str := ("_law_insert", none)
def d_law_insert : He.DefD := ⟨a_law_insert, "_law_insert", "_law_insert", defArgs s_law_insert, defBody s_law_insert, defScope s_law_insert, [], []⟩
abbrev a_law_turn : Str × Option Str := ("_law_turn", none)
def d_law_turn : He.DefD := ⟨a_law_turn, "_law_turn", "_law_turn", defArgs s_law_turn, defBody s_law_turn, defScope s_law_turn, [], []⟩
abbrev a_law_expected : Str × Option Str := ("_law_expected", none)
def d_law_expected : He.DefD := ⟨a_law_expected, "_law_expected", "_law_expected", defArgs s_law_expected, defBody s_law_expected, defScope s_law_expected, [], []⟩
abbrev a_law_action : Str × Option Str := ("_law_action", none)
def d_law_action : He.DefD := ⟨a_law_action, "_law_action", "_law_action", defArgs s_law_action, defBody s_law_action, defScope s_law_action, [], []⟩
abbrev a_law_do : Str × Option Str := ("_law_do", none)
def d_law_do : He.DefD := ⟨a_law_do, "_law_do", "_law_do", defArgs s_law_do, defBody s_law_do, defScope s_law_do, [], []⟩
abbrev a_law_check : Str × Option Str := ("_law_check", none)
def d_law_check : He.DefD := ⟨a_law_check, "_law_check", "_law_check", defArgs s_law_check, defBody s_law_check, defScope s_law_check, [], []⟩
abbrev a_law_check_undone : Str × Option Str := ("_law_check_undone", none)
def d_law_check_undone : He.DefD := ⟨a_law_check_undone, "_law_check_undone", "_law_check_undone", defArgs s_law_check_undone, defBody s_law_check_undone, defScope s_law_check_undone, [], []⟩
abbrev a_law_check_state : Str × Option Str := ("_law_check_state", none)
def d_law_check_state : He.DefD := ⟨a_law_check_state, "_law_check_state", "_law_check_state", defArgs s_law_check_state, defBody s_law_check_state, defScope s_law_check_state, [], []⟩
abbrev a_law : Str × Option Str := ("law", none)
def d_law : He.DefD := ⟨a_law, "law", "law", defArgs s_law, defBody s_law, defScope s_law, [], []⟩
def fn : List He.DefD := [d_NothingToUndo_init, d_NothingToRedo_init, d_is_integer, d_is_columns, d_check_columns, d_border_walk, d_has_crossing, d_is_partners, d_Diagram_init, d_Diagram_columns, d_Diagram_partners, d_Diagram_partner, d_Diagram_eq, d_from_arcs, d_identity, d_generator, d_check_same_columns, d_path_from, d_stack, d_stack_all, d_is_letter, d_value_of, d_is_name, d_check_name, d_Editor_init, d_Editor_shown, d_Editor_insert, d_Editor_add, d_Editor_undo, d_Editor_redo, d_Editor_word, d_Editor_authors, d_Editor_state, d_Editor_removable, d_law_pool, d_law_take, d_law_identity, d_law_path, d_law_stack, d_law_generator, d_law_value, d_law_shown, d_law_word, d_law_authors, d_law_new_model, d_law_insert, d_law_turn, d_law_expected, d_law_action, d_law_do, d_law_check, d_law_check_undone, d_law_check_state, d_law]
def fa : List He.Fa := [.glo "is_integer", .glo "is_columns", .glo "check_columns", .glo "border_walk", .glo "has_crossing", .glo "is_partners", .glo "from_arcs", .glo "identity", .glo "generator", .glo "check_same_columns", .glo "path_from", .glo "stack", .glo "stack_all", .glo "is_letter", .glo "value_of", .glo "is_name", .glo "check_name", .glo "_law_pool", .glo "_law_take", .glo "_law_identity", .glo "_law_path", .glo "_law_stack", .glo "_law_generator", .glo "_law_value", .glo "_law_shown", .glo "_law_word", .glo "_law_authors", .glo "_law_new_model", .glo "_law_insert", .glo "_law_turn", .glo "_law_expected", .glo "_law_action", .glo "_law_do", .glo "_law_check", .glo "_law_check_undone", .glo "_law_check_state", .glo "law", .glo "Diagram", .glo "Editor", .glo "NothingToUndo", .glo "NothingToRedo", .glo "InvalidDiagram", .glo "InvalidColumns", .glo "InvalidNumber", .glo "InvalidName", .glo "ColumnMismatch", .free "len", .free "isinstance", .free "int", .free "bool", .free "tuple", .free "str", .free "list", .free "range", .free "all", .free "enumerate", .free "abs", .free "min", .free "max", .free "zip", .free "repr", .free "RuntimeError", .int "MAX_COLUMNS" 16, .int "MAX_NAME_LENGTH" 8, .str "LETTERS" "abcdefghijklmnopqrstuvwxyz", .cls "Editor", .noat "Editor" "width", .noat "Editor" "order", .noat "Editor" "letters", .noat "Editor" "owners", .noat "Editor" "hidden", .noat "Editor" "done", .noat "Editor" "undone", .mkr "Editor", .cls "Diagram", .noat "Diagram" "ends", .noat "Diagram" "width", .mkr "Diagram", .meth "Diagram" "columns", .meth "Diagram" "partners", .meth "Diagram" "partner", .meth "Diagram" "__eq__", .meth "Editor" "shown", .meth "Editor" "insert", .meth "Editor" "add", .meth "Editor" "undo", .meth "Editor" "redo", .meth "Editor" "word", .meth "Editor" "authors", .meth "Editor" "state", .meth "Editor" "removable"]
/-- what the top has left: the facts, the defs -/
structure Top (K : PySem.W.Frag) (mg : Str → Option Value) (ex : PySem.W.Frag → Bool) : Prop where
  says : He.SaysD fa fn K
  more : ex K = true
  kin : ∃ h : Heap, K.In h ∧ h.Ns mainGlobals mg
def fdOf (K : PySem.W.Frag) (p : Str × Option Str) : FuncData := match K.lookup (He.fAd K p) with
  | some ⟨_, _, .func fd, _⟩ => fd
  | _ => PySem.W.fnOf "" "" (defArgs s_law) [] (defScope s_law) .none .none .none .none none .none .none
abbrev FnP (K : PySem.W.Frag) (d : He.DefD) : Prop := FunD K d.name d.qual d.params d.body d.scope (d.dvs K) (d.kws K) (He.fAd K d.at_) (fdOf K d.at_)
section
variable {K : PySem.W.Frag} {mg : Str → Option Value} {ex : PySem.W.Frag → Bool}
theorem Top.fn_ (T : Top K mg ex) (i : Nat) {d : He.DefD} (h : fn[i]? = some d) : FnP K d := by
  obtain ⟨fd, F⟩ := T.says.def_ i h
  have e : fdOf K d.at_ = fd := by
    obtain ⟨oc, od, dV, kV, doc, pm, an, cdv, ct, osl, e1, lk, _⟩ := F.ex
    unfold fdOf
    rw [lk]
  rw [← e] at F
  exact F
theorem Top.f_NothingToUndo_init (T : Top K mg ex) : FnP K d_NothingToUndo_init := T.fn_ 0 rfl
theorem Top.f_NothingToRedo_init (T : Top K mg ex) : FnP K d_NothingToRedo_init := T.fn_ 1 rfl
theorem Top.f_is_integer (T : Top K mg ex) : FnP K d_is_integer := T.fn_ 2 rfl
theorem Top.f_is_columns (T : Top K mg ex) : FnP K d_is_columns := T.fn_ 3 rfl
theorem Top.f_check_columns (T : Top K mg ex) : FnP K d_check_columns := T.fn_ 4 rfl
theorem Top.f_border_walk (T : Top K mg ex) : FnP K d_border_walk := T.fn_ 5 rfl
theorem Top.f_has_crossing (T : Top K mg ex) : FnP K d_has_crossing := T.fn_ 6 rfl
theorem Top.f_is_partners (T : Top K mg ex) : FnP K d_is_partners := T.fn_ 7 rfl
theorem Top.f_Diagram_init (T : Top K mg ex) : FnP K d_Diagram_init := T.fn_ 8 rfl
theorem Top.f_Diagram_columns (T : Top K mg ex) : FnP K d_Diagram_columns := T.fn_ 9 rfl
theorem Top.f_Diagram_partners (T : Top K mg ex) : FnP K d_Diagram_partners := T.fn_ 10 rfl
theorem Top.f_Diagram_partner (T : Top K mg ex) : FnP K d_Diagram_partner := T.fn_ 11 rfl
theorem Top.f_Diagram_eq (T : Top K mg ex) : FnP K d_Diagram_eq := T.fn_ 12 rfl
theorem Top.f_from_arcs (T : Top K mg ex) : FnP K d_from_arcs := T.fn_ 13 rfl
theorem Top.f_identity (T : Top K mg ex) : FnP K d_identity := T.fn_ 14 rfl
theorem Top.f_generator (T : Top K mg ex) : FnP K d_generator := T.fn_ 15 rfl
theorem Top.f_check_same_columns (T : Top K mg ex) : FnP K d_check_same_columns := T.fn_ 16 rfl
theorem Top.f_path_from (T : Top K mg ex) : FnP K d_path_from := T.fn_ 17 rfl
theorem Top.f_stack (T : Top K mg ex) : FnP K d_stack := T.fn_ 18 rfl
theorem Top.f_stack_all (T : Top K mg ex) : FnP K d_stack_all := T.fn_ 19 rfl
theorem Top.f_is_letter (T : Top K mg ex) : FnP K d_is_letter := T.fn_ 20 rfl
theorem Top.f_value_of (T : Top K mg ex) : FnP K d_value_of := T.fn_ 21 rfl
theorem Top.f_is_name (T : Top K mg ex) : FnP K d_is_name := T.fn_ 22 rfl
theorem Top.f_check_name (T : Top K mg ex) : FnP K d_check_name := T.fn_ 23 rfl
theorem Top.f_Editor_init (T : Top K mg ex) : FnP K d_Editor_init := T.fn_ 24 rfl
theorem Top.f_Editor_shown (T : Top K mg ex) : FnP K d_Editor_shown := T.fn_ 25 rfl
theorem Top.f_Editor_insert (T : Top K mg ex) : FnP K d_Editor_insert := T.fn_ 26 rfl
theorem Top.f_Editor_add (T : Top K mg ex) : FnP K d_Editor_add := T.fn_ 27 rfl
theorem Top.f_Editor_undo (T : Top K mg ex) : FnP K d_Editor_undo := T.fn_ 28 rfl
theorem Top.f_Editor_redo (T : Top K mg ex) : FnP K d_Editor_redo := T.fn_ 29 rfl
theorem Top.f_Editor_word (T : Top K mg ex) : FnP K d_Editor_word := T.fn_ 30 rfl
theorem Top.f_Editor_authors (T : Top K mg ex) : FnP K d_Editor_authors := T.fn_ 31 rfl
theorem Top.f_Editor_state (T : Top K mg ex) : FnP K d_Editor_state := T.fn_ 32 rfl
theorem Top.f_Editor_removable (T : Top K mg ex) : FnP K d_Editor_removable := T.fn_ 33 rfl
theorem Top.f_law_pool (T : Top K mg ex) : FnP K d_law_pool := T.fn_ 34 rfl
theorem Top.f_law_take (T : Top K mg ex) : FnP K d_law_take := T.fn_ 35 rfl
theorem Top.f_law_identity (T : Top K mg ex) : FnP K d_law_identity := T.fn_ 36 rfl
theorem Top.f_law_path (T : Top K mg ex) : FnP K d_law_path := T.fn_ 37 rfl
theorem Top.f_law_stack (T : Top K mg ex) : FnP K d_law_stack := T.fn_ 38 rfl
theorem Top.f_law_generator (T : Top K mg ex) : FnP K d_law_generator := T.fn_ 39 rfl
theorem Top.f_law_value (T : Top K mg ex) : FnP K d_law_value := T.fn_ 40 rfl
theorem Top.f_law_shown (T : Top K mg ex) : FnP K d_law_shown := T.fn_ 41 rfl
theorem Top.f_law_word (T : Top K mg ex) : FnP K d_law_word := T.fn_ 42 rfl
theorem Top.f_law_authors (T : Top K mg ex) : FnP K d_law_authors := T.fn_ 43 rfl
theorem Top.f_law_new_model (T : Top K mg ex) : FnP K d_law_new_model := T.fn_ 44 rfl
theorem Top.f_law_insert (T : Top K mg ex) : FnP K d_law_insert := T.fn_ 45 rfl
theorem Top.f_law_turn (T : Top K mg ex) : FnP K d_law_turn := T.fn_ 46 rfl
theorem Top.f_law_expected (T : Top K mg ex) : FnP K d_law_expected := T.fn_ 47 rfl
theorem Top.f_law_action (T : Top K mg ex) : FnP K d_law_action := T.fn_ 48 rfl
theorem Top.f_law_do (T : Top K mg ex) : FnP K d_law_do := T.fn_ 49 rfl
theorem Top.f_law_check (T : Top K mg ex) : FnP K d_law_check := T.fn_ 50 rfl
theorem Top.f_law_check_undone (T : Top K mg ex) : FnP K d_law_check_undone := T.fn_ 51 rfl
theorem Top.f_law_check_state (T : Top K mg ex) : FnP K d_law_check_state := T.fn_ 52 rfl
theorem Top.f_law (T : Top K mg ex) : FnP K d_law := T.fn_ 53 rfl
theorem Top.g_is_integer (T : Top K mg ex) : mg "is_integer" = some (.ref (He.ga K "is_integer")) := by
  obtain ⟨h, X, G⟩ := T.kin
  exact He.glo_ok X G (T.says.fact 0 (f := .glo "is_integer") rfl)
theorem Top.g_is_columns (T : Top K mg ex) : mg "is_columns" = some (.ref (He.ga K "is_columns")) := by
  obtain ⟨h, X, G⟩ := T.kin
  exact He.glo_ok X G (T.says.fact 1 (f := .glo "is_columns") rfl)
theorem Top.g_check_columns (T : Top K mg ex) : mg "check_columns" = some (.ref (He.ga K "check_columns")) := by
  obtain ⟨h, X, G⟩ := T.kin
  exact He.glo_ok X G (T.says.fact 2 (f := .glo "check_columns") rfl)
theorem Top.g_border_walk (T : Top K mg ex) : mg "border_walk" = some (.ref (He.ga K "border_walk")) := by
  obtain ⟨h, X, G⟩ := T.kin
  exact He.glo_ok X G (T.says.fact 3 (f := .glo "border_walk") rfl)
theorem Top.g_has_crossing (T : Top K mg ex) : mg "has_crossing" = some (.ref (He.ga K "has_crossing")) := by
  obtain ⟨h, X, G⟩ := T.kin
  exact He.glo_ok X G (T.says.fact 4 (f := .glo "has_crossing") rfl)
theorem Top.g_is_partners (T : Top K mg ex) : mg "is_partners" = some (.ref (He.ga K "is_partners")) := by
  obtain ⟨h, X, G⟩ := T.kin
  exact He.glo_ok X G (T.says.fact 5 (f := .glo "is_partners") rfl)
theorem Top.g_from_arcs (T : Top K mg ex) : mg "from_arcs" = some (.ref (He.ga K "from_arcs")) := by
  obtain ⟨h, X, G⟩ := T.kin
  exact He.glo_ok X G (T.says.fact 6 (f := .glo "from_arcs") rfl)
theorem Top.g_identity (T : Top K mg ex) : mg "identity" = some (.ref (He.ga K "identity")) := by
  obtain ⟨h, X, G⟩ := T.kin
  exact He.glo_ok X G (T.says.fact 7 (f := .glo "identity") rfl)
theorem Top.g_generator (T : Top K mg ex) : mg "generator" = some (.ref (He.ga K "generator")) := by
  obtain ⟨h, X, G⟩ := T.kin
  exact He.glo_ok X G (T.says.fact 8 (f := .glo "generator") rfl)
theorem Top.g_check_same_columns (T : Top K mg ex) : mg "check_same_columns" = some (.ref (He.ga K "check_same_columns")) := by
  obtain ⟨h, X, G⟩ := T.kin
  exact He.glo_ok X G (T.says.fact 9 (f := .glo "check_same_columns") rfl)
theorem Top.g_path_from (T : Top K mg ex) : mg "path_from" = some (.ref (He.ga K "path_from")) := by
  obtain ⟨h, X, G⟩ := T.kin
  exact He.glo_ok X G (T.says.fact 10 (f := .glo "path_from") rfl)
theorem Top.g_stack (T : Top K mg ex) : mg "stack" = some (.ref (He.ga K "stack")) := by
  obtain ⟨h, X, G⟩ := T.kin
  exact He.glo_ok X G (T.says.fact 11 (f := .glo "stack") rfl)
theorem Top.g_stack_all (T : Top K mg ex) : mg "stack_all" = some (.ref (He.ga K "stack_all")) := by
  obtain ⟨h, X, G⟩ := T.kin
  exact He.glo_ok X G (T.says.fact 12 (f := .glo "stack_all") rfl)
theorem Top.g_is_letter (T : Top K mg ex) : mg "is_letter" = some (.ref (He.ga K "is_letter")) := by
  obtain ⟨h, X, G⟩ := T.kin
  exact He.glo_ok X G (T.says.fact 13 (f := .glo "is_letter") rfl)
theorem Top.g_value_of (T : Top K mg ex) : mg "value_of" = some (.ref (He.ga K "value_of")) := by
  obtain ⟨h, X, G⟩ := T.kin
  exact He.glo_ok X G (T.says.fact 14 (f := .glo "value_of") rfl)
theorem Top.g_is_name (T : Top K mg ex) : mg "is_name" = some (.ref (He.ga K "is_name")) := by
  obtain ⟨h, X, G⟩ := T.kin
  exact He.glo_ok X G (T.says.fact 15 (f := .glo "is_name") rfl)
theorem Top.g_check_name (T : Top K mg ex) : mg "check_name" = some (.ref (He.ga K "check_name")) := by
  obtain ⟨h, X, G⟩ := T.kin
  exact He.glo_ok X G (T.says.fact 16 (f := .glo "check_name") rfl)
theorem Top.g_law_pool (T : Top K mg ex) : mg "_law_pool" = some (.ref (He.ga K "_law_pool")) := by
  obtain ⟨h, X, G⟩ := T.kin
  exact He.glo_ok X G (T.says.fact 17 (f := .glo "_law_pool") rfl)
theorem Top.g_law_take (T : Top K mg ex) : mg "_law_take" = some (.ref (He.ga K "_law_take")) := by
  obtain ⟨h, X, G⟩ := T.kin
  exact He.glo_ok X G (T.says.fact 18 (f := .glo "_law_take") rfl)
theorem Top.g_law_identity (T : Top K mg ex) : mg "_law_identity" = some (.ref (He.ga K "_law_identity")) := by
  obtain ⟨h, X, G⟩ := T.kin
  exact He.glo_ok X G (T.says.fact 19 (f := .glo "_law_identity") rfl)
theorem Top.g_law_path (T : Top K mg ex) : mg "_law_path" = some (.ref (He.ga K "_law_path")) := by
  obtain ⟨h, X, G⟩ := T.kin
  exact He.glo_ok X G (T.says.fact 20 (f := .glo "_law_path") rfl)
theorem Top.g_law_stack (T : Top K mg ex) : mg "_law_stack" = some (.ref (He.ga K "_law_stack")) := by
  obtain ⟨h, X, G⟩ := T.kin
  exact He.glo_ok X G (T.says.fact 21 (f := .glo "_law_stack") rfl)
theorem Top.g_law_generator (T : Top K mg ex) : mg "_law_generator" = some (.ref (He.ga K "_law_generator")) := by
  obtain ⟨h, X, G⟩ := T.kin
  exact He.glo_ok X G (T.says.fact 22 (f := .glo "_law_generator") rfl)
theorem Top.g_law_value (T : Top K mg ex) : mg "_law_value" = some (.ref (He.ga K "_law_value")) := by
  obtain ⟨h, X, G⟩ := T.kin
  exact He.glo_ok X G (T.says.fact 23 (f := .glo "_law_value") rfl)
theorem Top.g_law_shown (T : Top K mg ex) : mg "_law_shown" = some (.ref (He.ga K "_law_shown")) := by
  obtain ⟨h, X, G⟩ := T.kin
  exact He.glo_ok X G (T.says.fact 24 (f := .glo "_law_shown") rfl)
theorem Top.g_law_word (T : Top K mg ex) : mg "_law_word" = some (.ref (He.ga K "_law_word")) := by
  obtain ⟨h, X, G⟩ := T.kin
  exact He.glo_ok X G (T.says.fact 25 (f := .glo "_law_word") rfl)
theorem Top.g_law_authors (T : Top K mg ex) : mg "_law_authors" = some (.ref (He.ga K "_law_authors")) := by
  obtain ⟨h, X, G⟩ := T.kin
  exact He.glo_ok X G (T.says.fact 26 (f := .glo "_law_authors") rfl)
theorem Top.g_law_new_model (T : Top K mg ex) : mg "_law_new_model" = some (.ref (He.ga K "_law_new_model")) := by
  obtain ⟨h, X, G⟩ := T.kin
  exact He.glo_ok X G (T.says.fact 27 (f := .glo "_law_new_model") rfl)
theorem Top.g_law_insert (T : Top K mg ex) : mg "_law_insert" = some (.ref (He.ga K "_law_insert")) := by
  obtain ⟨h, X, G⟩ := T.kin
  exact He.glo_ok X G (T.says.fact 28 (f := .glo "_law_insert") rfl)
theorem Top.g_law_turn (T : Top K mg ex) : mg "_law_turn" = some (.ref (He.ga K "_law_turn")) := by
  obtain ⟨h, X, G⟩ := T.kin
  exact He.glo_ok X G (T.says.fact 29 (f := .glo "_law_turn") rfl)
theorem Top.g_law_expected (T : Top K mg ex) : mg "_law_expected" = some (.ref (He.ga K "_law_expected")) := by
  obtain ⟨h, X, G⟩ := T.kin
  exact He.glo_ok X G (T.says.fact 30 (f := .glo "_law_expected") rfl)
theorem Top.g_law_action (T : Top K mg ex) : mg "_law_action" = some (.ref (He.ga K "_law_action")) := by
  obtain ⟨h, X, G⟩ := T.kin
  exact He.glo_ok X G (T.says.fact 31 (f := .glo "_law_action") rfl)
theorem Top.g_law_do (T : Top K mg ex) : mg "_law_do" = some (.ref (He.ga K "_law_do")) := by
  obtain ⟨h, X, G⟩ := T.kin
  exact He.glo_ok X G (T.says.fact 32 (f := .glo "_law_do") rfl)
theorem Top.g_law_check (T : Top K mg ex) : mg "_law_check" = some (.ref (He.ga K "_law_check")) := by
  obtain ⟨h, X, G⟩ := T.kin
  exact He.glo_ok X G (T.says.fact 33 (f := .glo "_law_check") rfl)
theorem Top.g_law_check_undone (T : Top K mg ex) : mg "_law_check_undone" = some (.ref (He.ga K "_law_check_undone")) := by
  obtain ⟨h, X, G⟩ := T.kin
  exact He.glo_ok X G (T.says.fact 34 (f := .glo "_law_check_undone") rfl)
theorem Top.g_law_check_state (T : Top K mg ex) : mg "_law_check_state" = some (.ref (He.ga K "_law_check_state")) := by
  obtain ⟨h, X, G⟩ := T.kin
  exact He.glo_ok X G (T.says.fact 35 (f := .glo "_law_check_state") rfl)
theorem Top.g_law (T : Top K mg ex) : mg "law" = some (.ref (He.ga K "law")) := by
  obtain ⟨h, X, G⟩ := T.kin
  exact He.glo_ok X G (T.says.fact 36 (f := .glo "law") rfl)
theorem Top.g_Diagram (T : Top K mg ex) : mg "Diagram" = some (.ref (He.ga K "Diagram")) := by
  obtain ⟨h, X, G⟩ := T.kin
  exact He.glo_ok X G (T.says.fact 37 (f := .glo "Diagram") rfl)
theorem Top.g_Editor (T : Top K mg ex) : mg "Editor" = some (.ref (He.ga K "Editor")) := by
  obtain ⟨h, X, G⟩ := T.kin
  exact He.glo_ok X G (T.says.fact 38 (f := .glo "Editor") rfl)
theorem Top.g_NothingToUndo (T : Top K mg ex) : mg "NothingToUndo" = some (.ref (He.ga K "NothingToUndo")) := by
  obtain ⟨h, X, G⟩ := T.kin
  exact He.glo_ok X G (T.says.fact 39 (f := .glo "NothingToUndo") rfl)
theorem Top.g_NothingToRedo (T : Top K mg ex) : mg "NothingToRedo" = some (.ref (He.ga K "NothingToRedo")) := by
  obtain ⟨h, X, G⟩ := T.kin
  exact He.glo_ok X G (T.says.fact 40 (f := .glo "NothingToRedo") rfl)
theorem Top.g_InvalidDiagram (T : Top K mg ex) : mg "InvalidDiagram" = some (.ref (He.ga K "InvalidDiagram")) := by
  obtain ⟨h, X, G⟩ := T.kin
  exact He.glo_ok X G (T.says.fact 41 (f := .glo "InvalidDiagram") rfl)
theorem Top.g_InvalidColumns (T : Top K mg ex) : mg "InvalidColumns" = some (.ref (He.ga K "InvalidColumns")) := by
  obtain ⟨h, X, G⟩ := T.kin
  exact He.glo_ok X G (T.says.fact 42 (f := .glo "InvalidColumns") rfl)
theorem Top.g_InvalidNumber (T : Top K mg ex) : mg "InvalidNumber" = some (.ref (He.ga K "InvalidNumber")) := by
  obtain ⟨h, X, G⟩ := T.kin
  exact He.glo_ok X G (T.says.fact 43 (f := .glo "InvalidNumber") rfl)
theorem Top.g_InvalidName (T : Top K mg ex) : mg "InvalidName" = some (.ref (He.ga K "InvalidName")) := by
  obtain ⟨h, X, G⟩ := T.kin
  exact He.glo_ok X G (T.says.fact 44 (f := .glo "InvalidName") rfl)
theorem Top.g_ColumnMismatch (T : Top K mg ex) : mg "ColumnMismatch" = some (.ref (He.ga K "ColumnMismatch")) := by
  obtain ⟨h, X, G⟩ := T.kin
  exact He.glo_ok X G (T.says.fact 45 (f := .glo "ColumnMismatch") rfl)
theorem Top.z_len (T : Top K mg ex) : mg "len" = none := by
  obtain ⟨h, X, G⟩ := T.kin
  exact He.free_ok X G (T.says.fact 46 (f := .free "len") rfl)
theorem Top.z_isinstance (T : Top K mg ex) : mg "isinstance" = none := by
  obtain ⟨h, X, G⟩ := T.kin
  exact He.free_ok X G (T.says.fact 47 (f := .free "isinstance") rfl)
theorem Top.z_int (T : Top K mg ex) : mg "int" = none := by
  obtain ⟨h, X, G⟩ := T.kin
  exact He.free_ok X G (T.says.fact 48 (f := .free "int") rfl)
theorem Top.z_bool (T : Top K mg ex) : mg "bool" = none := by
  obtain ⟨h, X, G⟩ := T.kin
  exact He.free_ok X G (T.says.fact 49 (f := .free "bool") rfl)
theorem Top.z_tuple (T : Top K mg ex) : mg "tuple" = none := by
  obtain ⟨h, X, G⟩ := T.kin
  exact He.free_ok X G (T.says.fact 50 (f := .free "tuple") rfl)
theorem Top.z_str (T : Top K mg ex) : mg "str" = none := by
  obtain ⟨h, X, G⟩ := T.kin
  exact He.free_ok X G (T.says.fact 51 (f := .free "str") rfl)
theorem Top.z_list (T : Top K mg ex) : mg "list" = none := by
  obtain ⟨h, X, G⟩ := T.kin
  exact He.free_ok X G (T.says.fact 52 (f := .free "list") rfl)
theorem Top.z_range (T : Top K mg ex) : mg "range" = none := by
  obtain ⟨h, X, G⟩ := T.kin
  exact He.free_ok X G (T.says.fact 53 (f := .free "range") rfl)
theorem Top.z_all (T : Top K mg ex) : mg "all" = none := by
  obtain ⟨h, X, G⟩ := T.kin
  exact He.free_ok X G (T.says.fact 54 (f := .free "all") rfl)
theorem Top.z_enumerate (T : Top K mg ex) : mg "enumerate" = none := by
  obtain ⟨h, X, G⟩ := T.kin
  exact He.free_ok X G (T.says.fact 55 (f := .free "enumerate") rfl)
theorem Top.z_abs (T : Top K mg ex) : mg "abs" = none := by
  obtain ⟨h, X, G⟩ := T.kin
  exact He.free_ok X G (T.says.fact 56 (f := .free "abs") rfl)
theorem Top.z_min (T : Top K mg ex) : mg "min" = none := by
  obtain ⟨h, X, G⟩ := T.kin
  exact He.free_ok X G (T.says.fact 57 (f := .free "min") rfl)
theorem Top.z_max (T : Top K mg ex) : mg "max" = none := by
  obtain ⟨h, X, G⟩ := T.kin
  exact He.free_ok X G (T.says.fact 58 (f := .free "max") rfl)
theorem Top.z_zip (T : Top K mg ex) : mg "zip" = none := by
  obtain ⟨h, X, G⟩ := T.kin
  exact He.free_ok X G (T.says.fact 59 (f := .free "zip") rfl)
theorem Top.z_repr (T : Top K mg ex) : mg "repr" = none := by
  obtain ⟨h, X, G⟩ := T.kin
  exact He.free_ok X G (T.says.fact 60 (f := .free "repr") rfl)
theorem Top.z_RuntimeError (T : Top K mg ex) : mg "RuntimeError" = none := by
  obtain ⟨h, X, G⟩ := T.kin
  exact He.free_ok X G (T.says.fact 61 (f := .free "RuntimeError") rfl)
theorem Top.i_MAX_COLUMNS (T : Top K mg ex) : ∃ t, mg "MAX_COLUMNS" = some (.int 16 t) := by
  obtain ⟨h, X, G⟩ := T.kin
  exact He.int_ok X G (T.says.fact 62 (f := .int "MAX_COLUMNS" 16) rfl)
theorem Top.i_MAX_NAME_LENGTH (T : Top K mg ex) : ∃ t, mg "MAX_NAME_LENGTH" = some (.int 8 t) := by
  obtain ⟨h, X, G⟩ := T.kin
  exact He.int_ok X G (T.says.fact 63 (f := .int "MAX_NAME_LENGTH" 8) rfl)
theorem Top.i_LETTERS (T : Top K mg ex) : ∃ t, mg "LETTERS" = some (.str "abcdefghijklmnopqrstuvwxyz" t) := by
  obtain ⟨h, X, G⟩ := T.kin
  exact He.str_ok X G (T.says.fact 64 (f := .str "LETTERS" "abcdefghijklmnopqrstuvwxyz") rfl)
theorem Top.cl_Editor (T : Top K mg ex) : Cls K (He.ga K "Editor") := by
  exact He.cls_ok (T.says.fact 65 (f := .cls "Editor") rfl)
theorem Top.no_Editor_width (T : Top K mg ex) : NoAttr K (He.ga K "Editor") "width" := by
  exact He.noat_ok (T.says.fact 66 (f := .noat "Editor" "width") rfl)
theorem Top.no_Editor_order (T : Top K mg ex) : NoAttr K (He.ga K "Editor") "order" := by
  exact He.noat_ok (T.says.fact 67 (f := .noat "Editor" "order") rfl)
theorem Top.no_Editor_letters (T : Top K mg ex) : NoAttr K (He.ga K "Editor") "letters" := by
  exact He.noat_ok (T.says.fact 68 (f := .noat "Editor" "letters") rfl)
theorem Top.no_Editor_owners (T : Top K mg ex) : NoAttr K (He.ga K "Editor") "owners" := by
  exact He.noat_ok (T.says.fact 69 (f := .noat "Editor" "owners") rfl)
theorem Top.no_Editor_hidden (T : Top K mg ex) : NoAttr K (He.ga K "Editor") "hidden" := by
  exact He.noat_ok (T.says.fact 70 (f := .noat "Editor" "hidden") rfl)
theorem Top.no_Editor_done (T : Top K mg ex) : NoAttr K (He.ga K "Editor") "done" := by
  exact He.noat_ok (T.says.fact 71 (f := .noat "Editor" "done") rfl)
theorem Top.no_Editor_undone (T : Top K mg ex) : NoAttr K (He.ga K "Editor") "undone" := by
  exact He.noat_ok (T.says.fact 72 (f := .noat "Editor" "undone") rfl)
theorem Top.mk_Editor (T : Top K mg ex) : Mk K (He.ga K "Editor") (He.ma K (He.ga K "Editor") "__init__") := by
  exact He.mkr_ok (T.says.fact 73 (f := .mkr "Editor") rfl)
theorem Top.cl_Diagram (T : Top K mg ex) : Cls K (He.ga K "Diagram") := by
  exact He.cls_ok (T.says.fact 74 (f := .cls "Diagram") rfl)
theorem Top.no_Diagram_ends (T : Top K mg ex) : NoAttr K (He.ga K "Diagram") "ends" := by
  exact He.noat_ok (T.says.fact 75 (f := .noat "Diagram" "ends") rfl)
theorem Top.no_Diagram_width (T : Top K mg ex) : NoAttr K (He.ga K "Diagram") "width" := by
  exact He.noat_ok (T.says.fact 76 (f := .noat "Diagram" "width") rfl)
theorem Top.mk_Diagram (T : Top K mg ex) : Mk K (He.ga K "Diagram") (He.ma K (He.ga K "Diagram") "__init__") := by
  exact He.mkr_ok (T.says.fact 77 (f := .mkr "Diagram") rfl)
theorem Top.me_Diagram_columns (T : Top K mg ex) : Meth K (He.ga K "Diagram") "columns" (He.ma K (He.ga K "Diagram") "columns") := by
  exact He.meth_ok (T.says.fact 78 (f := .meth "Diagram" "columns") rfl)
theorem Top.me_Diagram_partners (T : Top K mg ex) : Meth K (He.ga K "Diagram") "partners" (He.ma K (He.ga K "Diagram") "partners") := by
  exact He.meth_ok (T.says.fact 79 (f := .meth "Diagram" "partners") rfl)
theorem Top.me_Diagram_partner (T : Top K mg ex) : Meth K (He.ga K "Diagram") "partner" (He.ma K (He.ga K "Diagram") "partner") := by
  exact He.meth_ok (T.says.fact 80 (f := .meth "Diagram" "partner") rfl)
theorem Top.me_Diagram_eq (T : Top K mg ex) : Meth K (He.ga K "Diagram") "__eq__" (He.ma K (He.ga K "Diagram") "__eq__") := by
  exact He.meth_ok (T.says.fact 81 (f := .meth "Diagram" "__eq__") rfl)
theorem Top.me_Editor_shown (T : Top K mg ex) : Meth K (He.ga K "Editor") "shown" (He.ma K (He.ga K "Editor") "shown") := by
  exact He.meth_ok (T.says.fact 82 (f := .meth "Editor" "shown") rfl)
theorem Top.me_Editor_insert (T : Top K mg ex) : Meth K (He.ga K "Editor") "insert" (He.ma K (He.ga K "Editor") "insert") := by
  exact He.meth_ok (T.says.fact 83 (f := .meth "Editor" "insert") rfl)
theorem Top.me_Editor_add (T : Top K mg ex) : Meth K (He.ga K "Editor") "add" (He.ma K (He.ga K "Editor") "add") := by
  exact He.meth_ok (T.says.fact 84 (f := .meth "Editor" "add") rfl)
theorem Top.me_Editor_undo (T : Top K mg ex) : Meth K (He.ga K "Editor") "undo" (He.ma K (He.ga K "Editor") "undo") := by
  exact He.meth_ok (T.says.fact 85 (f := .meth "Editor" "undo") rfl)
theorem Top.me_Editor_redo (T : Top K mg ex) : Meth K (He.ga K "Editor") "redo" (He.ma K (He.ga K "Editor") "redo") := by
  exact He.meth_ok (T.says.fact 86 (f := .meth "Editor" "redo") rfl)
theorem Top.me_Editor_word (T : Top K mg ex) : Meth K (He.ga K "Editor") "word" (He.ma K (He.ga K "Editor") "word") := by
  exact He.meth_ok (T.says.fact 87 (f := .meth "Editor" "word") rfl)
theorem Top.me_Editor_authors (T : Top K mg ex) : Meth K (He.ga K "Editor") "authors" (He.ma K (He.ga K "Editor") "authors") := by
  exact He.meth_ok (T.says.fact 88 (f := .meth "Editor" "authors") rfl)
theorem Top.me_Editor_state (T : Top K mg ex) : Meth K (He.ga K "Editor") "state" (He.ma K (He.ga K "Editor") "state") := by
  exact He.meth_ok (T.says.fact 89 (f := .meth "Editor" "state") rfl)
theorem Top.me_Editor_removable (T : Top K mg ex) : Meth K (He.ga K "Editor") "removable" (He.ma K (He.ga K "Editor") "removable") := by
  exact He.meth_ok (T.says.fact 90 (f := .meth "Editor" "removable") rfl)
theorem Top.b_NothingToUndo_init (T : Top K mg ex) : Binds K (fdOf K a_NothingToUndo_init) ["self", "user"] [] := T.f_NothingToUndo_init.bindsN fun _ _ _ _ _ _ us hl => match us, hl with | [_, _], _ => rfl
theorem Top.b_NothingToRedo_init (T : Top K mg ex) : Binds K (fdOf K a_NothingToRedo_init) ["self", "user"] [] := T.f_NothingToRedo_init.bindsN fun _ _ _ _ _ _ us hl => match us, hl with | [_, _], _ => rfl
theorem Top.b_is_columns (T : Top K mg ex) : Binds K (fdOf K a_is_columns) ["value"] [] := T.f_is_columns.bindsN fun _ _ _ _ _ _ us hl => match us, hl with | [_], _ => rfl
theorem Top.b_check_columns (T : Top K mg ex) : Binds K (fdOf K a_check_columns) ["columns"] [] := T.f_check_columns.bindsN fun _ _ _ _ _ _ us hl => match us, hl with | [_], _ => rfl
theorem Top.b_border_walk (T : Top K mg ex) : Binds K (fdOf K a_border_walk) ["columns"] [] := T.f_border_walk.bindsN fun _ _ _ _ _ _ us hl => match us, hl with | [_], _ => rfl
theorem Top.b_has_crossing (T : Top K mg ex) : Binds K (fdOf K a_has_crossing) ["partners"] [] := T.f_has_crossing.bindsN fun _ _ _ _ _ _ us hl => match us, hl with | [_], _ => rfl
theorem Top.b_is_partners (T : Top K mg ex) : Binds K (fdOf K a_is_partners) ["value"] [] := T.f_is_partners.bindsN fun _ _ _ _ _ _ us hl => match us, hl with | [_], _ => rfl
theorem Top.b_Diagram_init (T : Top K mg ex) : Binds K (fdOf K a_Diagram_init) ["self", "partners"] [] := T.f_Diagram_init.bindsN fun _ _ _ _ _ _ us hl => match us, hl with | [_, _], _ => rfl
theorem Top.b_Diagram_columns (T : Top K mg ex) : Binds K (fdOf K a_Diagram_columns) ["self"] [] := T.f_Diagram_columns.bindsN fun _ _ _ _ _ _ us hl => match us, hl with | [_], _ => rfl
theorem Top.b_Diagram_partners (T : Top K mg ex) : Binds K (fdOf K a_Diagram_partners) ["self"] [] := T.f_Diagram_partners.bindsN fun _ _ _ _ _ _ us hl => match us, hl with | [_], _ => rfl
theorem Top.b_Diagram_partner (T : Top K mg ex) : Binds K (fdOf K a_Diagram_partner) ["self", "point"] [] := T.f_Diagram_partner.bindsN fun _ _ _ _ _ _ us hl => match us, hl with | [_, _], _ => rfl
theorem Top.b_Diagram_eq (T : Top K mg ex) : Binds K (fdOf K a_Diagram_eq) ["self", "other"] [] := T.f_Diagram_eq.bindsN fun _ _ _ _ _ _ us hl => match us, hl with | [_, _], _ => rfl
theorem Top.b_from_arcs (T : Top K mg ex) : Binds K (fdOf K a_from_arcs) ["columns", "arcs"] [] := T.f_from_arcs.bindsN fun _ _ _ _ _ _ us hl => match us, hl with | [_, _], _ => rfl
theorem Top.b_identity (T : Top K mg ex) : Binds K (fdOf K a_identity) ["columns"] [] := T.f_identity.bindsN fun _ _ _ _ _ _ us hl => match us, hl with | [_], _ => rfl
theorem Top.b_generator (T : Top K mg ex) : Binds K (fdOf K a_generator) ["columns", "letter"] [] := T.f_generator.bindsN fun _ _ _ _ _ _ us hl => match us, hl with | [_, _], _ => rfl
theorem Top.b_check_same_columns (T : Top K mg ex) : Binds K (fdOf K a_check_same_columns) ["diagram", "other"] [] := T.f_check_same_columns.bindsN fun _ _ _ _ _ _ us hl => match us, hl with | [_, _], _ => rfl
theorem Top.b_path_from (T : Top K mg ex) : Binds K (fdOf K a_path_from) ["upper", "lower", "start", "is_above"] [] := T.f_path_from.bindsN fun _ _ _ _ _ _ us hl => match us, hl with | [_, _, _, _], _ => rfl
theorem Top.b_stack (T : Top K mg ex) : Binds K (fdOf K a_stack) ["upper", "lower"] [] := T.f_stack.bindsN fun _ _ _ _ _ _ us hl => match us, hl with | [_, _], _ => rfl
theorem Top.b_stack_all (T : Top K mg ex) : Binds K (fdOf K a_stack_all) ["columns", "diagrams"] [] := T.f_stack_all.bindsN fun _ _ _ _ _ _ us hl => match us, hl with | [_, _], _ => rfl
theorem Top.b_is_letter (T : Top K mg ex) : Binds K (fdOf K a_is_letter) ["columns", "value"] [] := T.f_is_letter.bindsN fun _ _ _ _ _ _ us hl => match us, hl with | [_, _], _ => rfl
theorem Top.b_value_of (T : Top K mg ex) : Binds K (fdOf K a_value_of) ["columns", "word"] [] := T.f_value_of.bindsN fun _ _ _ _ _ _ us hl => match us, hl with | [_, _], _ => rfl
theorem Top.b_is_name (T : Top K mg ex) : Binds K (fdOf K a_is_name) ["value"] [] := T.f_is_name.bindsN fun _ _ _ _ _ _ us hl => match us, hl with | [_], _ => rfl
theorem Top.b_check_name (T : Top K mg ex) : Binds K (fdOf K a_check_name) ["user"] [] := T.f_check_name.bindsN fun _ _ _ _ _ _ us hl => match us, hl with | [_], _ => rfl
theorem Top.b_Editor_init (T : Top K mg ex) : Binds K (fdOf K a_Editor_init) ["self", "columns"] [] := T.f_Editor_init.bindsN fun _ _ _ _ _ _ us hl => match us, hl with | [_, _], _ => rfl
theorem Top.b_Editor_shown (T : Top K mg ex) : Binds K (fdOf K a_Editor_shown) ["self"] [] := T.f_Editor_shown.bindsN fun _ _ _ _ _ _ us hl => match us, hl with | [_], _ => rfl
theorem Top.b_Editor_insert (T : Top K mg ex) : Binds K (fdOf K a_Editor_insert) ["self", "user", "position", "letter"] [] := T.f_Editor_insert.bindsN fun _ _ _ _ _ _ us hl => match us, hl with | [_, _, _, _], _ => rfl
theorem Top.b_Editor_add (T : Top K mg ex) : Binds K (fdOf K a_Editor_add) ["self", "user", "letter"] [] := T.f_Editor_add.bindsN fun _ _ _ _ _ _ us hl => match us, hl with | [_, _, _], _ => rfl
theorem Top.b_Editor_undo (T : Top K mg ex) : Binds K (fdOf K a_Editor_undo) ["self", "user"] [] := T.f_Editor_undo.bindsN fun _ _ _ _ _ _ us hl => match us, hl with | [_, _], _ => rfl
theorem Top.b_Editor_redo (T : Top K mg ex) : Binds K (fdOf K a_Editor_redo) ["self", "user"] [] := T.f_Editor_redo.bindsN fun _ _ _ _ _ _ us hl => match us, hl with | [_, _], _ => rfl
theorem Top.b_Editor_word (T : Top K mg ex) : Binds K (fdOf K a_Editor_word) ["self"] [] := T.f_Editor_word.bindsN fun _ _ _ _ _ _ us hl => match us, hl with | [_], _ => rfl
theorem Top.b_Editor_authors (T : Top K mg ex) : Binds K (fdOf K a_Editor_authors) ["self"] [] := T.f_Editor_authors.bindsN fun _ _ _ _ _ _ us hl => match us, hl with | [_], _ => rfl
theorem Top.b_Editor_state (T : Top K mg ex) : Binds K (fdOf K a_Editor_state) ["self"] [] := T.f_Editor_state.bindsN fun _ _ _ _ _ _ us hl => match us, hl with | [_], _ => rfl
theorem Top.b_Editor_removable (T : Top K mg ex) : Binds K (fdOf K a_Editor_removable) ["self"] [] := T.f_Editor_removable.bindsN fun _ _ _ _ _ _ us hl => match us, hl with | [_], _ => rfl
theorem Top.b_law_pool (T : Top K mg ex) : Binds K (fdOf K a_law_pool) ["_law_script", "_law_k"] [] := T.f_law_pool.bindsN fun _ _ _ _ _ _ us hl => match us, hl with | [_, _], _ => rfl
theorem Top.b_law_take (T : Top K mg ex) : Binds K (fdOf K a_law_take) ["_law_pool_here", "_law_count"] [] := T.f_law_take.bindsN fun _ _ _ _ _ _ us hl => match us, hl with | [_, _], _ => rfl
theorem Top.b_law_identity (T : Top K mg ex) : Binds K (fdOf K a_law_identity) ["_law_width"] [] := T.f_law_identity.bindsN fun _ _ _ _ _ _ us hl => match us, hl with | [_], _ => rfl
theorem Top.b_law_path (T : Top K mg ex) : Binds K (fdOf K a_law_path) ["_law_upper", "_law_lower", "_law_start", "_law_is_upper"] [] := T.f_law_path.bindsN fun _ _ _ _ _ _ us hl => match us, hl with | [_, _, _, _], _ => rfl
theorem Top.b_law_stack (T : Top K mg ex) : Binds K (fdOf K a_law_stack) ["_law_upper", "_law_lower"] [] := T.f_law_stack.bindsN fun _ _ _ _ _ _ us hl => match us, hl with | [_, _], _ => rfl
theorem Top.b_law_generator (T : Top K mg ex) : Binds K (fdOf K a_law_generator) ["_law_width", "_law_letter"] [] := T.f_law_generator.bindsN fun _ _ _ _ _ _ us hl => match us, hl with | [_, _], _ => rfl
theorem Top.b_law_value (T : Top K mg ex) : Binds K (fdOf K a_law_value) ["_law_width", "_law_letters"] [] := T.f_law_value.bindsN fun _ _ _ _ _ _ us hl => match us, hl with | [_, _], _ => rfl
theorem Top.b_law_shown (T : Top K mg ex) : Binds K (fdOf K a_law_shown) ["_law_model"] [] := T.f_law_shown.bindsN fun _ _ _ _ _ _ us hl => match us, hl with | [_], _ => rfl
theorem Top.b_law_word (T : Top K mg ex) : Binds K (fdOf K a_law_word) ["_law_model"] [] := T.f_law_word.bindsN fun _ _ _ _ _ _ us hl => match us, hl with | [_], _ => rfl
theorem Top.b_law_authors (T : Top K mg ex) : Binds K (fdOf K a_law_authors) ["_law_model"] [] := T.f_law_authors.bindsN fun _ _ _ _ _ _ us hl => match us, hl with | [_], _ => rfl
theorem Top.b_law_new_model (T : Top K mg ex) : Binds K (fdOf K a_law_new_model) ["_law_width"] [] := T.f_law_new_model.bindsN fun _ _ _ _ _ _ us hl => match us, hl with | [_], _ => rfl
theorem Top.b_law_insert (T : Top K mg ex) : Binds K (fdOf K a_law_insert) ["_law_model", "_law_user", "_law_pos", "_law_letter"] [] := T.f_law_insert.bindsN fun _ _ _ _ _ _ us hl => match us, hl with | [_, _, _, _], _ => rfl
theorem Top.b_law_turn (T : Top K mg ex) : Binds K (fdOf K a_law_turn) ["_law_model", "_law_user", "_law_source", "_law_target", "_law_is_shown"] [] := T.f_law_turn.bindsN fun _ _ _ _ _ _ us hl => match us, hl with | [_, _, _, _, _], _ => rfl
theorem Top.b_law_expected (T : Top K mg ex) : Binds K (fdOf K a_law_expected) ["_law_model", "_law_action_here"] [] := T.f_law_expected.bindsN fun _ _ _ _ _ _ us hl => match us, hl with | [_, _], _ => rfl
theorem Top.b_law_action (T : Top K mg ex) : Binds K (fdOf K a_law_action) ["_law_pool_here", "_law_model"] [] := T.f_law_action.bindsN fun _ _ _ _ _ _ us hl => match us, hl with | [_, _], _ => rfl
theorem Top.b_law_do (T : Top K mg ex) : Binds K (fdOf K a_law_do) ["_law_board", "_law_action_here"] [] := T.f_law_do.bindsN fun _ _ _ _ _ _ us hl => match us, hl with | [_, _], _ => rfl
theorem Top.b_law_check (T : Top K mg ex) : Binds K (fdOf K a_law_check) ["_law_board", "_law_model"] [] := T.f_law_check.bindsN fun _ _ _ _ _ _ us hl => match us, hl with | [_, _], _ => rfl
theorem Top.b_law_check_undone (T : Top K mg ex) : Binds K (fdOf K a_law_check_undone) ["_law_board", "_law_model"] [] := T.f_law_check_undone.bindsN fun _ _ _ _ _ _ us hl => match us, hl with | [_, _], _ => rfl
theorem Top.b_law_check_state (T : Top K mg ex) : Binds K (fdOf K a_law_check_state) ["_law_board", "_law_model"] [] := T.f_law_check_state.bindsN fun _ _ _ _ _ _ us hl => match us, hl with | [_, _], _ => rfl
theorem Top.b_law (T : Top K mg ex) : Binds K (fdOf K a_law) ["_law_script"] [] := T.f_law.bindsN fun _ _ _ _ _ _ us hl => match us, hl with | [_], _ => rfl
end
end K54
/-! own errors over RuntimeError whose __init__ says RuntimeError.__init__(self, text) and then stores the user -/
namespace K54
open PySem PySem.Spec PyProof.Rows L2

abbrev rtTail : List Value := [.type "RuntimeError", .type "Exception", .type "BaseException", .type "object"]
/-- what the top has left of such a class -/
structure RtC (K : PySem.W.Frag) (C fI : Addr) : Prop where
  ini : PySem.W.excInitIn K C rtTail "RuntimeError.__new__" = true
  ovr : PySem.W.excOver K C rtTail = true
  sa : PySem.W.findIn K (.ref C) "__setattr__" = some (some (.builtin "object.__setattr__"))
  tk : PySem.W.takerIn K C "user" = some none
  hd : PySem.W.hasDictIn K C = true
  exC : PySem.W.subIn K (.ref C) (.type "BaseException") = some true
  tyC : PySem.W.typeIn K (.ref C) = some (.type "type")
  kC : PySem.W.keepIn K (.ref C) = true
  ii : PySem.W.findIn K (.ref C) "__init__" = some (some (.ref fI))
  ti : PySem.W.typeIn K (.ref fI) = some (.type "function")
  xf : XfC K C
  no : PySem.W.findIn K (.ref C) "user" = some none
  vi : PySem.W.findCls K (.type "RuntimeError") (.type "type") "__init__" = some (.val (.builtin "RuntimeError.__init__"))
  sf : PySem.W.exmOne K (.ref C) (.ref C) = some true
def rtB (K : PySem.W.Frag) (C fI : Addr) : Bool :=
  PySem.W.excInitIn K C rtTail "RuntimeError.__new__" && (PySem.W.excOver K C rtTail && (He.eqO (PySem.W.findIn K (.ref C) "__setattr__") (some (some (.builtin "object.__setattr__"))) &&
  (decide (PySem.W.takerIn K C "user" = some none) && (PySem.W.hasDictIn K C && (decide (PySem.W.subIn K (.ref C) (.type "BaseException") = some true) && (decide (PySem.W.typeIn K (.ref C) = some (.type "type")) &&
  (PySem.W.keepIn K (.ref C) && (He.eqO (PySem.W.findIn K (.ref C) "__init__") (some (some (.ref fI))) && (decide (PySem.W.typeIn K (.ref fI) = some (.type "function")) && (xfB K C && (He.eqO (PySem.W.findIn K (.ref C) "user") (some none) &&
  ((match PySem.W.findCls K (.type "RuntimeError") (.type "type") "__init__" with | some (.val (.builtin n)) => n == "RuntimeError.__init__" | _ => false) && decide (PySem.W.exmOne K (.ref C) (.ref C) = some true)))))))))))))
theorem rtB_ok {K : PySem.W.Frag} {C fI : Addr} (h : rtB K C fI = true) : RtC K C fI := by
  unfold rtB at h
  simp only [Bool.and_eq_true, decide_eq_true_eq] at h
  obtain ⟨h1, h2, h3, h4, h5, h6, h7, h8, h9, h10, h11, h12, h13, h14⟩ := h
  refine ⟨h1, h2, He.eqO_ok h3, h4, h5, h6, h7, h8, He.eqO_ok h9, h10, xfB_ok h11, He.eqO_ok h12, ?_, h14⟩
  cases e : PySem.W.findCls K (.type "RuntimeError") (.type "type") "__init__" with
  | none => rw [e] at h13; cases h13
  | some z =>
    rw [e] at h13
    split at h13
    · rename_i n q
      rw [q, beq_iff_eq.mp h13]
    · cases h13
section
variable {X : Cx} {pins : List (Addr × Obj)} {σ : L2.St} {H : Hp} {s : Shared} {a C fI : Addr} {E : Value → Shared → Prop} {A : Around}
/-- RuntimeError.__init__(self, ..): the arguments are laid anew -/
theorem rt_args {us : List Value} {Q : Value → Shared → Prop} (T : RtC X.K C fI) (I : Inv X pins σ H s) (e : H a = some (exo a C none)) (hl : us.length ≤ sizeLine) (h : ∀ s', Inv X pins σ H s' → Q .none s') :
    wpAny (model X.prog X.w) A (call (.builtin "RuntimeError.__init__") (.ref a :: us)) Q E s := by
  obtain ⟨nm, N, qn, bs, bm, hdct, sn, sub, ab, col, dd, k0, k1, k2, k3, k5, hC, hT⟩ := PySem.W.excInit_of I.kIn T.ini
  obtain ⟨t1, ho⟩ := exo_at I.hok e
  obtain ⟨hp, g, d, t, os⟩ := s
  refine wpAny_call (PySem.HandSPX.init_base F.excBase_RuntimeError hT hC ho hl fun h' t2 kk hx => h _ ?_)
  have same : upd H a (exo a C none) = H := funext fun b => by
    by_cases hb : b = a
    · subst hb
      exact upd_same.trans e.symm
    · exact upd_ne hb
  have J := I.write (t' := t) (x := a) (e := a) (o := exo a C none) (by rw [e]; trivial) (Or.inl rfl) kk ⟨_, hx⟩ (exo_ok hx)
  rwa [same] at J
/-- self.user = y: the error's dict is made -/
theorem rt_store {y : V} {u : Value} {Q : Unit → Shared → Prop} (T : RtC X.K C fI) (I : Inv X pins σ H s) (e : H a = some (exo a C none)) (ry : RelV y u)
    (h : ∀ dx s', H dx = none → dx ≠ a → Inv X pins σ (upd (upd H dx (exd dx [("user", y)])) a (exo a C (some dx))) s' → Q () s') : wpAny (model X.prog X.w) A (setAttr (.ref a) "user" u) Q E s := by
  obtain ⟨t1, ho⟩ := exo_at I.hok e
  obtain ⟨hp, g, d, t, os⟩ := s
  have KX : X.K.In hp := I.kIn
  have hax : a ≠ hp.objs.size := Nat.ne_of_lt (Heap.lt_size ho)
  refine PySem.W.set_plain (od := none) KX ⟨ho, rfl, rfl, trivial⟩ T.sa (PySem.W.osa_openX (s := ⟨hp, g, d, t + 1, os⟩) (od := none) PySem.F.store_RuntimeError KX ⟨ho, rfl, rfl, trivial⟩ T.ovr T.tk fun b => ?_)
  obtain ⟨cd, hc, hd'⟩ := PySem.W.any_some T.hd
  refine wpAny_bind (wpAny_pure (wpAny_bind (PySem.W.instanceDict_exc ho (PySem.W.looks_clsIn KX hc) hd' ?_)))
  show wpAny _ _ (Builtin.ObjectAttr.storeInDict hp.objs.size _ _ u) _ _ _
  refine PySem.HandSPX.store_in_new ⟨_, #[], _, (Heap.get?_update_ne _ _ _ _ hax.symm).trans (Heap.get?_push_at rfl rfl), rfl, fun en hen => absurd hen (by simp), fun _ => rfl⟩ fun h' tk' hn' hs => ?_
  have ha' : h'.get? a = some ({ cls := .ref C, dict := some hp.objs.size, data := .fields #[.ref t1, .none, .none, .none, .bool false, .none] } : Obj) :=
    (hs.2 a hax).trans (Heap.get?_update_self _ (Heap.get?_push_of_some _ ho) rfl)
  have old : ∀ b o, b ≠ a → hp.get? b = some o → h'.get? b = some o := fun b o hb q =>
    (hs.2 b (Nat.ne_of_lt (Heap.lt_size q))).trans ((Heap.get?_update_ne _ _ _ _ hb).trans (Heap.get?_push_of_some _ q))
  have nx : H hp.objs.size = none := I.hok.fresh (Nat.le_refl _)
  have ne_a : ∀ {b : Addr}, H b = none → b ≠ a := fun {b} n z => by rw [z, e] at n; cases n
  have ne_x : ∀ {b : Addr} {o : Obj}, hp.get? b = some o → b ≠ hp.objs.size := fun q => Nat.ne_of_lt (Heap.lt_size q)
  refine h _ _ nx hax.symm (I.un (t' := tk') (H' := upd (upd H hp.objs.size (exd hp.objs.size [("user", y)])) a (exo a C (some hp.objs.size))) ⟨?_, ?_, ?_, ?_, ?_, ?_, ?_⟩ ?_)
  · exact fun b o q n _ _ => old b o (ne_a n) q
  · exact fun b o q n _ _ => ⟨o.slots, old b o (ne_a n) q⟩
  · exact fun b o q n _ => by rw [upd_ne (ne_a n), upd_ne (ne_x q)]; exact n
  · intro b o q _
    by_cases hb : b = a
    · subst hb; exact ⟨_, ha'⟩
    · exact ⟨o, old b o hb q⟩
  · exact fun b xs q => by rw [upd_ne (at_ne e q exo_tup), upd_ne (ne_of_none q nx)]; exact q
  · exact fun b o v q => by rw [upd_ne (at_ne e q exo_frz), upd_ne (ne_of_none q nx)]; exact q
  · exact fun b ps q => ⟨#[], by rw [upd_ne (at_ne e q exo_tbl), upd_ne (ne_of_none q nx), q]; simp⟩
  · intro b o q
    by_cases hb : b = a
    · subst hb
      rw [upd_same] at q
      cases q
      exact exo_ok ha'
    rw [upd_ne hb] at q
    by_cases hx : b = hp.objs.size
    · subst hx
      rw [upd_same] at q
      cases q
      exact exd_ok hn' (relO_put (fs := []) ry fun _ => trivial)
    rw [upd_ne hx] at q
    refine (I.hok b o q).stay (fun c v hc z => old c v ?_ z) (fun c hc => ?_) fun c xs hc => ?_
    · rcases hc with hc | hc
      · exact hc ▸ hb
      · exact at_ne e hc exo_own
    · rw [upd_ne (at_ne e hc exo_own), upd_ne (ne_of_none hc nx)]; exact hc
    · rw [upd_ne (at_ne e hc exo_tup), upd_ne (ne_of_none hc nx)]; exact hc
end
theorem rt_type : typeOf (.type "RuntimeError") = pure (.type "type") := by kernel_rfl
/-- RuntimeError.__init__(self, text) as an expression -/
def tRtI (C : Addr) (ta : TA) : TE := fun σ H Q => ta σ H fun vs H1 => ∃ (a : Addr) (ws : List V), vs = .ref a :: ws ∧ ws.length ≤ 1000 ∧ H1 a = some (exo a C none) ∧ Q .non H1
/-- self.user = e -/
def tRtS (C : Addr) (to te : TE) : TS := fun D σ H => te σ H fun y H1 => to σ H1 fun x H2 => ∃ a : Addr, x = .ref a ∧ H2 a = some (exo a C none) ∧
  ∀ dx, H2 dx = none → dx ≠ a → D.nx σ (upd (upd H2 dx (exd dx [("user", y)])) a (exo a C (some dx)))
section
variable {X : Cx} {C fI : Addr} {o e : Expr} {es : List Expr} {to te : TE} {ta : TA} {p p' p1 p2 pos : Pos}
theorem pe_rtinit {pl : Sem Bool} (T : RtC X.K C fI) (hg : Gl X "RuntimeError") (hm : X.mg "RuntimeError" = none) (ha : PA X (e :: es) ta)
    (hc : eval (.Call (.Attribute (.Name "RuntimeError" p1) "__init__" p2) (e :: es) [] pos) X.env = (do
      let ov ← eval (.Name "RuntimeError" p1) X.env
      standAt p2.atName
      let (f, first) ← holding [ov] (getMethod ov "__init__" pl)
      callWith pos f first (backTo pos (starEach (e :: es) X.env)) (backToKw pos (keywordEach [] X.env))) := by rfl)
    (he : starEach (e :: es) X.env = (false, eval e X.env) :: starEach es X.env := by rfl) (hpl : (backTo pos (starEach es X.env)).any (·.1) = false := by rfl) :
    PE X (.Call (.Attribute (.Name "RuntimeError" p1) "__init__" p2) (e :: es) [] pos) (tRtI C ta) := by
  refine ⟨fun pins s σ H Q I h => PySem.W.methodCall_KW (ld_blt I hg hm PyProof.Rows.Boot.«RuntimeError» ?_ (by decide) (by decide)) hc⟩
  obtain ⟨m, fr⟩ := I.fr
  refine PySem.W.method_type fr I.ok.mod.kin rt_type (by decide +kernel) T.vi (by decide +kernel) ?_
  show wpAny _ _ (callWith pos (Value.builtin "RuntimeError.__init__") [] (backTo pos (starEach (e :: es) X.env)) []) _ _ _
  refine PyProof.Rows.callWith_method1 (thn (ha.run pos pins _ σ H _ (I.tok _) h) fun us s1 ⟨vs, H1, I1, r1, a, ws, ev, hl, ea, q⟩ => ?_) he hpl
  subst ev
  cases r1 with
  | @cons _ u0 _ ur ra rw' =>
    cases (show u0 = Value.ref a from ra)
    have hlen : ur.length ≤ sizeLine := by
      have e1 := Paired.length rw'
      rw [sizeLine_eq]
      omega
    exact rt_args T I1 ea hlen fun s' J => ⟨.non, H1, J, rfl, q⟩
theorem ps_rtst (T : RtC X.K C fI) (ho : PE X o to) (he : PE X e te) (hs : swapsWith e (some (.Attribute o "user" p')) pos.line X.env = pure false := by rfl) : PS X (.Assign [.Attribute o "user" p'] e pos) (tRtS C to te) := by
  refine ⟨fun pins s σ H D I h => plainObj_wpAny_Assign_Attribute (thn (he.run pins s σ H _ I h) fun v s1 ⟨y, H1, I1, r1, q1⟩ => thn (ho.run pins s1 σ H1 _ I1 q1) fun u s2 ⟨x, H2, I2, r2, a, ex, ea, q⟩ => ?_) hs⟩
  subst ex
  cases (show u = Value.ref a from r2)
  exact rt_store T I2 ea r1 fun dx s' n ne J => ⟨σ, _, J, q dx n ne⟩
/-- C(e), the error made: its dict d holds the user -/
def tMkRt (C : Addr) (ta : TA) : L2.St → Hp → XK → Prop := fun σ H Q => ta σ H fun vs H1 => ∃ v, vs = [v] ∧ ∀ d, H1 d = none → Q (.ref C) (some d) (upd H1 d (.xd [("user", v)]))
/-- what its __init__ promises -/
def spRtI (C : Addr) : Sp := fun vs H Q _ => ∃ (a : Addr) (y : V), vs = [.ref a, y] ∧ H a = some (exo a C none) ∧ ∀ dx, H dx = none → dx ≠ a → Q .non (upd (upd H dx (exd dx [("user", y)])) a (exo a C (some dx)))
theorem pmk_rt {CX : CXT} {x : Str} {k : Nat} {fd : FuncData} {ps : List Str} (T : RtC X.K C fI) (F1 : FnOk X.prog X.w X.K X.mg X.base CX k fI fd ps (spRtI C)) (hr : Room (k + 1) X.A) (hb : Binds X.K fd ps [])
    (hx : Passes CX X (fun _ _ _ => False)) (hg : Gl X x) (hm : X.mg x = some (.ref C)) (ha : PA X [e] ta)
    (hdb : (x == ("__debug__" : Str)) = false := by decide) (he : starEach (e :: []) X.env = (false, eval e X.env) :: starEach [] X.env := by rfl) (hpl : (backTo pos (starEach [] X.env)).any (·.1) = false := by rfl) :
    PMk X (.Call (.Name x p) [e] [] pos) (tMkRt C ta) := by
  intro pins s σ H Q I h
  refine wpAny_Call_Name_kw (ld_glob I hg hm ?_ hdb)
  refine PySem.W.callWith_K (h₀ := X.base) I.ok.mod.kin T.kC (thn (ha.run pos pins s σ H _ I h) fun us s1 ⟨vs, H1, I1, r1, v, ev, q1⟩ => ⟨I1.kIn, ?_⟩) he hpl
  subst ev
  cases r1 with
  | @cons _ u0 _ ur rv rn =>
    cases rn
    show wpAny _ _ (call (.ref C) [u0]) _ _ _
    obtain ⟨nm, N, qn, bs, bm, hdct, sn, sub, ab, col, dd, k0, k1, k2, k3, k5, hC, hT⟩ := PySem.W.excInit_of I1.kIn T.ini
    obtain ⟨hp, g, dr, tk, os⟩ := s1
    have up1 : hp.objs.size ≤ hp.objs.size + 1 := Nat.le_succ _
    have fr1 : H1 (hp.objs.size + 1) = none := I1.hok.fresh up1
    have kk : ∀ b o, hp.get? b = some o → ((hp.push (PySem.W.kdv_tup [u0])).push (PySem.HandSPX.excO C hp.objs.size)).get? b = some o := fun b o z => Heap.get?_push_of_some _ (Heap.get?_push_of_some _ z)
    have got : ((hp.push (PySem.W.kdv_tup [u0])).push (PySem.HandSPX.excO C hp.objs.size)).get? (hp.objs.size + 1) = some (PySem.HandSPX.excO C hp.objs.size) := by heap_get
    have I2 := I1.laid (t' := tk) (a := hp.objs.size + 1) (o := exo (hp.objs.size + 1) C none) kk up1 (exo_ok got)
    have goal1 : spRtI C [V.ref (hp.objs.size + 1), v] (upd H1 (hp.objs.size + 1) (exo (hp.objs.size + 1) C none))
        (fun z H2 => z = .non ∧ ∃ d : Addr, H1 d = none ∧ H2 (hp.objs.size + 1) = some (exo (hp.objs.size + 1) C (some d)) ∧ H2 d = some (exd d [("user", v)]) ∧ Q (.ref C) (some d) (upd (del H2 (hp.objs.size + 1)) d (.xd [("user", v)]))) (fun _ _ _ => False) := by
      refine ⟨_, v, rfl, upd_same, fun dx ndx nda => ⟨rfl, dx, ?_, upd_same, ?_, ?_⟩⟩
      · rw [upd_ne nda] at ndx; exact ndx
      · rw [upd_ne nda, upd_same]
      · have nd1 : H1 dx = none := by rw [upd_ne nda] at ndx; exact ndx
        have eq : upd (del (upd (upd (upd H1 (hp.objs.size + 1) (exo (hp.objs.size + 1) C none)) dx (exd dx [("user", v)])) (hp.objs.size + 1) (exo (hp.objs.size + 1) C (some dx))) (hp.objs.size + 1)) dx (.xd [("user", v)]) = upd H1 dx (.xd [("user", v)]) := by
          funext b
          by_cases hb : b = dx
          · subst hb; rw [upd_same, upd_same]
          · rw [upd_ne hb, upd_ne hb]
            by_cases hc : b = hp.objs.size + 1
            · subst hc; rw [del_same, fr1]
            · rw [del_ne hc, upd_ne hc, upd_ne hb, upd_ne hc]
        rw [eq]
        exact q1 dx nd1
    have hl2 : ([Value.ref (hp.objs.size + 1), u0] ++ ([] : List Value)).length = ps.length := (F1.len _ _ _ _ goal1)
    refine wpAny_call (PySem.HandSPX.call_own F.excBase_RuntimeError hT hC (PySem.W.looks_findIn I1.kIn T.ii) (fun self => PySem.W.bind_fn I1.kIn self T.ti) (by rw [sizeLine_eq]; simp)
      (codeAny_mono (F1.run _ X.stack _ _ ⟨[Value.ref (hp.objs.size + 1), u0], []⟩ ([Value.ref (hp.objs.size + 1), u0] ++ []) _ _ (fun _ _ _ => False) (hr.make C [u0] []) (I2.env0.make C [u0] []) (hb _ [Value.ref (hp.objs.size + 1), u0] I2.kIn hl2) (Paired.cons (show L2.RelV (V.ref (hp.objs.size + 1)) (Value.ref (hp.objs.size + 1)) from rfl) (Paired.cons rv Paired.nil)) goal1) fun r s' hq' => ?_))
    cases r with
    | error er => exact hx pins σ _ _ er s' I2 hq'
    | ok fl =>
      cases fl with
      | ret u =>
        obtain ⟨z, H2, os2, bare2, un2, hok2, rz, ez, d, nd1, ea, ed, q2⟩ := hq'
        subst ez
        obtain ⟨h2, g2, d2, t2, os'⟩ := s'
        exact ⟨rz, mk_end (raises_own T.exC T.tyC) I1 up1 kk un2 hok2 os2 bare2 ea ed nd1 q2⟩
      | next => exact hq'.elim
      | brk => exact hq'.elim
      | cont => exact hq'.elim
end
end K54
/-! further rules: heaps that keep all; a comprehension told by a function; enumerate over a tuple; two except clauses with a name; repr of a tuple of texts -/
namespace K54
open PySem PySem.Spec PyProof.Rows L2

theorem same_new {H H' : Hp} {p : Addr} {o : HO} (s : Same H H') (h : H' p = none) : Same H (upd H' p o) := fun b u e => by
  rw [upd_ne (ne_of_none (s b u e) h)]
  exact s b u e
theorem same_tup {K : PySem.W.Frag} {H H' : Hp} {a : Addr} {xs : List V} (e : Same H H') (h : SqT K H a xs) : SqT K H' a xs := by
  rcases h with (h | ⟨o, h⟩) | h
  · exact .inl (.inl (e _ _ h))
  · exact .inl (.inr ⟨o, e _ _ h⟩)
  · exact .inr h
theorem line_of {n : Nat} (h : n ≤ 100000) : n ≤ sizeLine := Nat.le_trans h (by decide)
theorem line_lt {n : Nat} (h : n ≤ 100000) : n < sizeLine := Nat.lt_of_le_of_lt h (by decide)

/-! ### a comprehension whose items are told by f -/
def fmUpto (f : Nat → Option V) (n : Nat) : List V := (List.range n).filterMap f
theorem fmUpto_le (f : Nat → Option V) (n : Nat) : (fmUpto f n).length ≤ n := by
  have e := List.length_filterMap_le f (List.range n)
  rw [List.length_range] at e
  exact e
theorem fmUpto_some {f : Nat → Option V} {n : Nat} {y : V} (h : f n = some y) : fmUpto f (n + 1) = fmUpto f n ++ [y] := by
  unfold fmUpto
  rw [List.range_succ, List.filterMap_append]
  simp [h]
theorem fmUpto_none {f : Nat → Option V} {n : Nat} (h : f n = none) : fmUpto f (n + 1) = fmUpto f n := by
  unfold fmUpto
  rw [List.range_succ, List.filterMap_append]
  simp [h]
theorem fmUpto_map {α : Type} (l : List α) (f : Nat → Option V) (g : α → Option V) (h : ∀ i x, l[i]? = some x → f i = g x) : fmUpto f l.length = l.filterMap g := by
  have key : ∀ n, n ≤ l.length → fmUpto f n = (l.take n).filterMap g := by
    intro n
    induction n with
    | zero => intro _; rfl
    | succ n ih =>
      intro hn
      have hx : l[n]? = some (l[n]'hn) := List.getElem?_eq_getElem hn
      have e1 := h n _ hx
      have e2 : l.take (n + 1) = l.take n ++ [l[n]'hn] := by rw [List.take_succ, hx]; rfl
      rw [e2, List.filterMap_append, ← ih (Nat.le_of_succ_le hn)]
      cases q : f n with
      | some y =>
        rw [fmUpto_some q]
        rw [e1] at q
        simp [q]
      | none =>
        rw [fmUpto_none q]
        rw [e1] at q
        simp [q]
  rw [key _ (Nat.le_refl _), List.take_length]
/-- a comprehension over it in a heap that keeps all: the new list at D is f's -/
theorem lc_go {J : It} {n : Nat} {G : Hp → Prop} {Y : Nat → Hp → V → Hp → Prop} (w : Walk J n G Y) (hn : n ≤ 100000) (f : Nat → Option V) {g : TG} {tt : TT} {te : TE} {vs : List Nat} {σ : L2.St} {H1 : Hp} {D : Addr} {Qd : Hp → Prop}
    (hD : H1 D = none) (hG : ∀ H, Same H1 H → G H)
    (hs : ∀ i x H H' (Kt : V → Hp → Prop) (Kf : Hp → Prop), i < n → Same H1 H → Y i H x H' → (∀ y H4, f i = some y → Same H H4 → Kt y H4) → (∀ H3, f i = none → Same H H3 → Kf H3) →
      g x (wipe σ vs) H' fun σ2 H2 => wipe σ2 vs = wipe σ vs ∧ tt σ2 H2 fun b H3 => if b = true then te σ2 H3 Kt else Kf H3)
    (hd : ∀ H, Same H1 H → H D = some (.lst (fmUpto f n)) → Qd H) :
    ∃ W : Nat → Nat → Hp → Prop, (∃ m, W 0 m (upd H1 D (.lst []))) ∧ ∀ i m H, W i m H →
      (J.stop i H ∧ Qd H) ∨ (J.go i H ∧ ∃ Nx : Hp → Prop, (∀ H', Nx H' → ∃ m', m' < m ∧ W (i + 1) m' H') ∧ ∀ x H', J.yld i H x H' → g x (wipe σ vs) H' fun σ2 H2 => wipe σ2 vs = wipe σ vs ∧ tt σ2 H2 fun b H3 =>
        if b = true then te σ2 H3 fun y H4 => ∃ acc, H4 D = some (.lst acc) ∧ acc.length < sizeLine ∧ Nx (upd H4 D (.lst (acc ++ [y]))) else Nx H3) := by
  have out : ∀ {H : Hp} {xs : List V}, Same H1 H → Same H1 (upd H D (.lst xs)) := fun {H xs} s b o e => by
    rw [upd_ne (ne_of_none e hD)]; exact s b o e
  refine lc_it w (fun i H => Same H1 H ∧ H D = some (.lst (fmUpto f i))) ⟨out (Same.refl _), upd_same⟩ (fun i H _ p => hG H p.1) (fun i x H H' hi p y => ?_) fun H p => hd H p.1 p.2
  refine hs i x H H' _ _ hi p.1 y (fun z H4 e s4 => ?_) fun H3 e s3 => ?_
  · refine ⟨fmUpto f i, s4 _ _ p.2, line_lt (Nat.le_trans (fmUpto_le f i) (Nat.le_trans (Nat.le_of_lt hi) hn)), out (p.1.trans s4), ?_⟩
    rw [upd_same, fmUpto_some e]
  · rw [fmUpto_none e]
    exact ⟨p.1.trans s3, s3 _ _ p.2⟩

/-- the same without a test -/
theorem lc_goY {J : It} {n : Nat} {G : Hp → Prop} {Y : Nat → Hp → V → Hp → Prop} (w : Walk J n G Y) (hn : n ≤ 100000) (f : Nat → V) {g : TG} {te : TE} {vs : List Nat} {σ : L2.St} {H1 : Hp} {D : Addr} {Qd : Hp → Prop}
    (hD : H1 D = none) (hG : ∀ H, Same H1 H → G H)
    (hs : ∀ i x H H' (Kt : V → Hp → Prop), i < n → Same H1 H → Y i H x H' → (∀ H4, Same H H4 → Kt (f i) H4) → g x (wipe σ vs) H' fun σ2 H2 => wipe σ2 vs = wipe σ vs ∧ te σ2 H2 Kt)
    (hd : ∀ H, Same H1 H → H D = some (.lst ((List.range n).map f)) → Qd H) :
    ∃ W : Nat → Nat → Hp → Prop, (∃ m, W 0 m (upd H1 D (.lst []))) ∧ ∀ i m H, W i m H →
      (J.stop i H ∧ Qd H) ∨ (J.go i H ∧ ∃ Nx : Hp → Prop, (∀ H', Nx H' → ∃ m', m' < m ∧ W (i + 1) m' H') ∧ ∀ x H', J.yld i H x H' → g x (wipe σ vs) H' fun σ2 H2 => wipe σ2 vs = wipe σ vs ∧ tYes σ2 H2 fun b H3 =>
        if b = true then te σ2 H3 fun y H4 => ∃ acc, H4 D = some (.lst acc) ∧ acc.length < sizeLine ∧ Nx (upd H4 D (.lst (acc ++ [y]))) else Nx H3) := by
  have out : ∀ {H : Hp} {xs : List V}, Same H1 H → Same H1 (upd H D (.lst xs)) := fun {H xs} s b o e => by
    rw [upd_ne (ne_of_none e hD)]; exact s b o e
  refine lc_it w (fun i H => Same H1 H ∧ H D = some (.lst ((List.range i).map f))) ⟨out (Same.refl _), upd_same⟩ (fun i H _ p => hG H p.1) (fun i x H H' hi p y => ?_) fun H p => hd H p.1 p.2
  have q := hs i x H H' (fun y H4 => ∃ acc, H4 D = some (.lst acc) ∧ acc.length < sizeLine ∧ (Same H1 (upd H4 D (.lst (acc ++ [y]))) ∧ upd H4 D (.lst (acc ++ [y])) D = some (.lst ((List.range (i + 1)).map f)))) hi p.1 y fun H4 s4 => by
    refine ⟨(List.range i).map f, s4 _ _ p.2, line_lt (by rw [List.length_map, List.length_range]; omega), out (p.1.trans s4), ?_⟩
    rw [upd_same, List.range_succ, List.map_append]
    rfl
  have e : (fun (σ2 : L2.St) (H2 : Hp) => wipe σ2 vs = wipe σ vs ∧ tYes σ2 H2 fun b H3 => if b = true then te σ2 H3 (fun y H4 => ∃ acc, H4 D = some (.lst acc) ∧ acc.length < sizeLine ∧ (Same H1 (upd H4 D (.lst (acc ++ [y]))) ∧ upd H4 D (.lst (acc ++ [y])) D = some (.lst ((List.range (i + 1)).map f)))) else (Same H1 H3 ∧ H3 D = some (.lst ((List.range (i + 1)).map f)))) =
      (fun σ2 H2 => wipe σ2 vs = wipe σ vs ∧ te σ2 H2 (fun y H4 => ∃ acc, H4 D = some (.lst acc) ∧ acc.length < sizeLine ∧ (Same H1 (upd H4 D (.lst (acc ++ [y]))) ∧ upd H4 D (.lst (acc ++ [y])) D = some (.lst ((List.range (i + 1)).map f))))) := by
    funext σ2 H2
    have e1 : ∀ (A B : Prop), (if (true : Bool) = true then A else B) = A := fun A B => if_pos rfl
    exact congrArg (fun z => wipe σ2 vs = wipe σ vs ∧ z) (e1 _ (Same H1 H2 ∧ H2 D = some (.lst ((List.range (i + 1)).map f))))
  rw [e]
  exact q

/-! ### enumerate(tuple) -/
def IteT (K : PySem.W.Frag) (a : Addr) : It :=
  ⟨fun i H => ∃ (xs : List V) (x : V), SqT K H a xs ∧ xs[i]? = some x,
   fun i H v H' => ∃ T x, v = .ref T ∧ H T = none ∧ H' = upd H T (.tup [.int (i : Nat), x]) ∧ ∀ xs, SqT K H a xs → xs[i]? = some x,
   fun i H => ∃ xs : List V, SqT K H a xs ∧ xs.length ≤ i⟩
theorem walk_enumT {K : PySem.W.Frag} {a : Addr} {xs : List V} : Walk (IteT K a) xs.length (fun H => SqT K H a xs) (YPair (fun i => some (.int (i : Nat))) (fun i => xs[i]?)) :=
  ⟨fun i _ hi q => ⟨xs, xs[i], q, by simp [hi]⟩, fun _ q => ⟨xs, q, Nat.le_refl _⟩, fun i _ _ _ _ q ⟨T, x, h1, h2, h3, h4⟩ => ⟨T, .int (i : Nat), x, h1, h2, h3, rfl, h4 xs q⟩⟩
theorem meets_enum1 {v : Value} {o : Obj} {G : Heap → Prop} (B : Begins v o G) :
    Meets (Builtin.«enumerate.__new__» ⟨[.type "enumerate", v], []⟩) (fun _ R s => G s.heap ∧
      R (.ok (.ret (.ref (s.heap.push o).objs.size))) { s with heap := (s.heap.push o).push { cls := .type "enumerate", data := .fields #[.none, .bool false, .ref s.heap.objs.size, rawInt 0, .none, .none] } }) :=
  .of_wp fun prog w A R s h => by
    obtain ⟨hp, g, d, tk, os⟩ := s
    obtain ⟨h1, h⟩ := h
    have hsub := sub_enumerate
    have step : ∀ {A' : Around} {E : Value → Shared → Prop} {Q : Value → Shared → Prop}, Q (.ref hp.objs.size) ⟨hp.push o, g, d, tk, os⟩ → wpAny (model prog w) A' (pyIter v) Q E ⟨hp, g, d, tk, os⟩ :=
      fun q => B.iter prog w _ _ ⟨hp, g, d, tk, os⟩ _ h1 q
    wp_walk using step
    refine wpAny_stack_any fun st => wpAny_pure ?_
    split
    · rename_i c _ _ _ _ _
      cases (c == Value.type "enumerate") <;> (wp_walk using step; exact ⟨_, rfl, h⟩)
    · wp_walk using step
      exact ⟨_, rfl, h⟩
theorem call_enum1 {prog : Program} {w : World} {A : Around} {E : Value → Shared → Prop} {s : Shared} {v : Value} {o : Obj} {G : Heap → Prop} {Q : Value → Shared → Prop} (B : Begins v o G) (h1 : G s.heap)
    (h : ∀ h', IsEnum h' (s.heap.objs.size + 1) s.heap.objs.size 0 .none → h'.get? s.heap.objs.size = some o → (∀ b u, s.heap.get? b = some u → h'.get? b = some u) → Q (.ref (s.heap.objs.size + 1)) { s with heap := h' }) :
    wpAny (model prog w) A (call (.type "enumerate") [v]) Q E s := by
  refine callType_new F.called_enumerate (by decide) (F.typeCall_enumerate_1 _) (F.newCall_enumerate_1 _) (fun obj => F.args_object_init_2 obj _) F.entry_enumerate_new (meets_enum1 B) ⟨h1, ?_⟩
  have hz : (s.heap.push o).objs.size = s.heap.objs.size + 1 := Heap.size_push ..
  have he := Heap.get?_push_size (s.heap.push o) (o := { cls := .type "enumerate", data := .fields #[.none, .bool false, .ref s.heap.objs.size, rawInt 0, .none, .none] }) rfl
  rw [hz] at he
  show _ ∧ _
  rw [hz]
  exact ⟨⟨_, he, rfl⟩, h _ he (Heap.get?_push_of_some _ (Heap.get?_push_size _ B.free)) fun b u e => Heap.get?_push_of_some _ (Heap.get?_push_of_some _ e)⟩
theorem turn_enumT {P : Program} {w : World} {K : PySem.W.Frag} {elts : List Expr} {kk : Nat} {tpos : Pos} (a e it : Addr) :
    Turn P w K (.Tuple elts kk tpos) (IteT K a) [e, it] e (fun i h => (∃ old, IsEnum h e it ((i : Nat) : Int) old) ∧ h.IsTupleIter it a i ∧ e ≠ it) where
  mem := List.mem_cons_self
  obj := fun i h st b hb => by
    obtain ⟨⟨old, he⟩, ⟨o, ho, hc, hd⟩, _⟩ := st
    rcases List.mem_cons.mp hb with z | z
    · subst z
      exact ⟨_, he, fun v q => nomatch q⟩
    · cases List.mem_singleton.mp z
      exact ⟨o, ho, fun v q => by rw [hd] at q; cases q⟩
  keep := fun i h h' st k => by
    obtain ⟨⟨old, he⟩, hi, hne⟩ := st
    exact ⟨⟨old, k e (by simp) _ he⟩, hi.at fun o q => k it (by simp) o q, hne⟩
  item := by
    intro X hP hw hK hc i pins s σ H E I hf st hg
    subst hP hw hK
    obtain ⟨⟨old, he⟩, hit, hne⟩ := st
    obtain ⟨xs, x, hq, hx⟩ := hg
    obtain ⟨its, rv, p, hz⟩ := I.tuple hq
    obtain ⟨u, hu, ru⟩ := rv.get hx
    have hel : e < s.heap.objs.size := Heap.lt_size he
    have hil : it < s.heap.objs.size := by
      obtain ⟨_, q, _⟩ := hit
      exact Heap.lt_size q
    have hal : a ≠ it ∧ a ≠ e := by
      obtain ⟨o1, e1, c1, n1, d1⟩ := p
      obtain ⟨o2, e2, c2, d2⟩ := id hit
      refine ⟨fun z => ?_, fun z => ?_⟩
      · rw [z, e2] at e1
        cases e1
        rw [d2] at d1
        cases d1
      · have he' : s.heap.get? e = some _ := he
        rw [z, he'] at e1
        cases e1
        cases d1
    have pt : s.heap.IsTuple a its.toArray := p
    have hu' : its.toArray[i]? = some u := by simpa using hu
    have hlt : i < its.toArray.size := (Array.getElem?_eq_some_iff.mp hu').1
    have hd0 : X.A.in1.handled = none := I.ok.hd hc
    refine wpAny_pyNext_enum_itemD (Draws.tuple hd0 it a hal.1 its.toArray) he ⟨hit, pt⟩ hlt hne (by simp [hne, hal.2.symm]) fun y h' tk hy ho st' hT hsz hk => ?_
    have ey : y = u := by
      rw [hu'] at hy
      exact (Option.some.inj hy).symm
    subst ey
    refine ⟨_, rfl, wpAny_letOwnedTupleGo_enum (s := { s with heap := h', toks := tk + 1 }) ho fun h2 he2 sb => ?_⟩
    have hT2 : h2.get? s.heap.objs.size = some { cls := .type "tuple", data := .seq #[.int i tk, y] } := (sb.2 _ (Nat.ne_of_gt hel)).trans hT
    have made : ObjOk X.prog X.w (upd H s.heap.objs.size (.tup [.int (i : Nat), x])) h2 s.heap.objs.size (.tup [.int (i : Nat), x]) :=
      ⟨by show 2 ≤ sizeLine; decide, [.int i tk, y], .cons ⟨_, rfl⟩ (.cons ru .nil), ⟨_, hT2, rfl, _, rfl⟩⟩
    have I1 : L2.Inv X pins σ (upd H s.heap.objs.size (.tup [.int (i : Nat), x])) { s with heap := h2, toks := tk + 1 } :=
      I.turnedNew (ch := [e, it]) (fun b ob hb q => (sb.2 b (fun z => hb (by simp [z]))).trans (hk b ob (fun z => hb (by simp [z])) (fun z => hb (by simp [z])) q)) hf (Nat.le_refl _) made
    refine ⟨.ref s.heap.objs.size, _, I1, rfl, ⟨_, x, rfl, I.hok.fresh (Nat.le_refl _), rfl, fun ys hy => by rw [I.tuple_inj hy hq]; exact hx⟩, ⟨⟨y, ?_⟩, st'.1.at fun o q => (sb.2 it (Ne.symm hne)).trans q, hne⟩, fun b hb => ?_⟩
    · have e1 : ((i + 1 : Nat) : Int) = (i : Int) + 1 := by omega
      rw [e1]
      exact he2
    · have hb' : b < s.heap.objs.size := by
        rcases List.mem_cons.mp hb with z | z
        · subst z; exact hel
        · cases List.mem_singleton.mp z; exact hil
      rw [upd_ne (Nat.ne_of_lt hb')]
      exact (hf b hb).1
  done := by
    intro X hP hw hK hc i pins s σ H E I hf st hg
    subst hP hw hK
    obtain ⟨⟨old, he⟩, hit, hne⟩ := st
    obtain ⟨xs, hq, hx⟩ := hg
    obtain ⟨its, rv, p, hz⟩ := I.tuple hq
    have pt : s.heap.IsTuple a its.toArray := p
    have hl := rv.length
    obtain ⟨f0, f1, f2, f3, f4, f5⟩ := hf it (by simp)
    have hd0 : X.A.in1.handled = none := I.ok.hd hc
    have hT : s.TypeIs (.ref e) "enumerate" := ⟨_, he, rfl⟩
    have fin : ∀ h', Heap.ExtBut it s.heap h' → L2.Inv X pins σ H { s with heap := h' } := fun h' eb => I.turned (t' := s.toks) (fun b o hb e => eb b o hb e) f0 f1 f3 f4 f5
    unfold pyNext
    refine wpAny_bind (wpAny_attempt (wpAny_callSpecial?_slot (name := Str.ofString "__next__") hT F.slot_enumerate_next
      (wpAny_call_entry F.slot_enumerate_next hT F.entry_enumerate_next ?_ (F.args_enumerate_next_1 _))))
    show wpAny _ _ (field (.ref e) 2 >>= _) _ _ _
    refine wpAny_bind (wpAny_field he rfl (x := .ref it) rfl ?_)
    refine wpAny_bind (wpAny_nextOf_tuple_end hd0 hit pt (by simp; omega) fun h' z he' hx' => ?_)
    obtain ⟨o, ho, hcl⟩ := hx'
    refine wpAny_bind (wpAny_isInstance (T := "StopIteration") (b := true) ⟨o, ho, hcl⟩ isSubtype_stop ?_)
    exact wpAny_pure ⟨rfl, fin _ he'⟩
  self := fun A i s Q E st h => by
    obtain ⟨⟨_, he⟩, _⟩ := st
    exact wpAny_pyIter_enum he h
def iEnumT (K : PySem.W.Frag) (ta : TA) : TI := fun σ H R => ta σ H fun vs H1 => ∃ a xs, vs = [.ref a] ∧ SqT K H1 a xs ∧ R (IteT K a) H1
theorem pi_enumT {X : Cx} {e : Expr} {ta : TA} {p pos tpos : Pos} {elts : List Expr} {kk : Nat} (hg : Gl X "enumerate") (hm : X.mg "enumerate" = none) (ha : PA X [e] ta) (hs : starEach [e] X.env = [(false, eval e X.env)] := by rfl) :
    PI X (.Tuple elts kk tpos) (.Call (.Name "enumerate" p) [e] [] pos) (iEnumT X.K ta) := by
  refine ⟨fun pins s σ H R I h => Call_ (ld_blt I hg hm boot_enumerate (PyProof.Rows.callWith_type1 (thn (ha.run pos pins s σ H _ I h) fun us s1 ⟨vs, H1, I1, r1, q1⟩ => ?_) hs rfl))⟩
  obtain ⟨a, xs, ex, hq, q⟩ := q1
  subst ex
  cases r1 with
  | cons r rr =>
    cases rr
    cases r
    obtain ⟨its, rv, p', hz⟩ := I1.tuple hq
    have pt : s1.heap.IsTuple a its.toArray := p'
    refine call_enum1 (begins_tuple a its.toArray) pt fun h' he hit hk => wpAny_pyIter_enum he ?_
    have I2 : L2.Inv X pins σ H1 { s1 with heap := h' } := I1.kept (t' := s1.toks) hk
    refine ⟨s1.heap.objs.size + 1, [s1.heap.objs.size + 1, s1.heap.objs.size], _, _, H1, rfl, I2, turn_enumT a (s1.heap.objs.size + 1) s1.heap.objs.size, ⟨⟨.none, he⟩, ⟨_, hit, rfl, rfl⟩, Nat.succ_ne_self _⟩, fun b hb => ?_, q⟩
    have hle : s1.heap.objs.size ≤ b := by
      rcases List.mem_cons.mp hb with z | z
      · subst z; exact Nat.le_succ _
      · cases List.mem_singleton.mp z; exact Nat.le_refl _
    exact I1.fpOk hle (I1.hok.fresh hle)
end K54
/-! try with several except clauses, each with a name -/
namespace K54
open PySem PySem.Spec PyProof.Rows L2

/-- clauses `except C as n:`, what they wish of an error of the body -/
inductive HdAs (X : Cx) (i : Nat) (n : Str) : List ExceptHandler → (WX → Ends → WX) → Prop
  | nil : HdAs X i n [] (fun W _ => W)
  | cons {x : Str} {c : Value} {ts : Addr → Value → Option Addr → TS} {b0 : Stmt} {suite : List Stmt} {np pos' : Pos} {hds : List ExceptHandler} {w : WX → Ends → WX} (hc : Names X x c)
      (hsu : ∀ (a : Addr) (oe : Obj) (cls : Value) (d : Option Addr) (pn : List (Addr × Obj)), Zc cls d oe → (∃ vs, oe.data = .fields vs) → PSs (X.suite a ((a, oe) :: pn)) (b0 :: suite) (ts a cls d)) (r : HdAs X i n hds w) :
      HdAs X i n (.ExceptHandler (some (.Name x np)) (some n) (b0 :: suite) pos' :: hds) (fun W D => wAs X.K c i ts (w W D) D)
section
variable {X : Cx} {i : Nat} {n : Str} {pins : List (Addr × Obj)} {σ : L2.St} {H : Hp} {sI s : Shared} {a : Addr} {B : Heap} {cls : Value} {d : Option Addr}
/-- an error at hand: what is known where the clauses are looked through -/
structure AtHand (X : Cx) (pins : List (Addr × Obj)) (σ : L2.St) (H : Hp) (sI s : Shared) (a : Addr) (B : Heap) (cls : Value) (d : Option Addr) : Prop where
  inv : L2.Inv X pins σ H sI
  nb : ∀ b o, sI.heap.get? b = some o → b ∉ frs X.stack → B.get? b = some o
  up : sI.heap.UpToSlots s.heap
  fl : HandSPX.FlyingZ B (X.env :: X.outer) a (Zc cls d) s.heap
  na : H a = none
  os : s.os = sI.os
  ag : AllBare s.gens
theorem AtHand.state (h : AtHand X pins σ H sI s a B cls d) : L2.Inv X pins σ H s := h.inv.landed h.nb h.fl.1 h.up h.os h.ag
theorem AtHand.apart (h : AtHand X pins σ H sI s a B cls d) (hf : X.env.frame = some X.env.locals) : a ≠ X.env.locals ∧ a ∉ X.fs := by
  obtain ⟨oe, vs, he, _, hd⟩ := h.fl.there
  have nfr : a ∉ frs (X.env :: X.outer) := fun hm => by
    obtain ⟨_, o', e', hn⟩ := h.fl.2.2.1.mem hm
    rw [he] at e'
    cases e'
    exact hn _ hd
  refine ⟨fun z => nfr (List.mem_filterMap.mpr ⟨X.env, List.mem_cons_self, by rw [hf, z]⟩), fun hm => ?_⟩
  obtain ⟨e, he2, q⟩ := List.mem_filterMap.mp hm
  exact nfr (List.mem_filterMap.mpr ⟨e, List.mem_cons_of_mem _ he2, q⟩)
theorem handle_as (hs : X.stack = X.env :: X.outer) (hf : X.env.frame = some X.env.locals) (hN : X.N.Nodup) (hi : X.N[i]? = some n) (hln : X.env.kindOf n = some .local) {D : Ends} {Wout : WX} (tk : Takes X Wout)
    (h : AtHand X pins σ H sI s a B cls d) {hds : List ExceptHandler} {w : WX → Ends → WX} (k : HdAs X i n hds w) : w Wout D cls d σ H →
    wpAny (model X.prog X.w) X.A (handleBy (.ref a) X.env hds) (SP X pins D) X.xe s := by
  obtain ⟨nL, nF⟩ := h.apart hf
  have ok := h.inv.ok
  induction k with
  | nil =>
    intro w
    refine wpAny_handleBy_nil ?_
    obtain ⟨_, _, _, oe, vs, T, oT, ts', he, hz, hd, h1, hr⟩ := id h.fl
    unfold PySem.passOn
    refine wpAny_bind (wpAny_field he hd h1 ?_)
    rw [if_neg (show ¬ ((Value.ref T == Value.none) = true) from by simp)]
    have out : wpAny (model X.prog X.w) X.A (setFlight (.ref a) X.env.frame) (fun _ s4 => wpAny (model X.prog X.w) X.A (throw (.ref a) : Sem Flow) (SP X pins D) X.xe s4) X.xe s := by
      rw [hf]
      exact HandSPX.setFlight_upZ h.fl fun h4 hh4 up4 => wpAny_throw (tk _ _ ⟨a, B, sI, pins, σ, H, cls, d, rfl, h.inv, h.nb, h.up.trans up4, .inr (.inr (by rw [hs]; exact hh4)), h.na, h.os, h.ag, w⟩)
    first
      | exact wpAny_bind (wpAny_pure (wpAny_bind out))
      | exact wpAny_bind out
  | @cons x c ts b0 suite np pos' hds2 w2 hc hsu r ih =>
    intro w
    obtain ⟨b, hb1, yes, no⟩ := w
    obtain ⟨oe, vs, he, hz, hd⟩ := h.fl.there
    have J := h.state
    have S := J.suite he hd h.na nL nF
    refine wpAny_handleBy_cons (codeAny_handlers_test ?_) (by intro q; cases q)
    have ask : ∀ {Q : Value → Shared → Prop} {E : Value → Shared → Prop}, Q c s → wpAny (model X.prog X.w) (X.A.mark (some (.ref a))) (eval (.Name x np) X.env) Q E s := fun {Q E} q => by
      obtain ⟨hg, hdbg, hm | ⟨hm, hv, hnn⟩⟩ := hc
      · exact ld_glob (X := X.suite a ((a, oe) :: (X.pn ++ pins))) S hg hm q hdbg
      · exact ld_blt (X := X.suite a ((a, oe) :: (X.pn ++ pins))) S hg hm hv q hnn hdbg
    have LM := PySem.W.exm_one (M := model X.prog X.w) (h := s.heap) J.kIn (fun A Q E s2 kk q => wpAny_typeOf_ref (kk _ _ he) (by rw [hz.1]; exact q)) hb1
    refine ask (LM.here ?_)
    cases b with
    | false =>
      show wpAny _ X.A (handleBy (.ref a) X.env hds2) _ _ _
      exact ih (no rfl)
    | true =>
      refine codeAny_handlers_suite_as ?_
      refine HandSPX.lands_againZ h.fl fun h4 fl4 up4 => ?_
      have h4' : AtHand X pins σ H sI { s with heap := h4 } a B cls d := ⟨h.inv, h.nb, h.up.trans up4, fl4, h.na, h.os, h.ag⟩
      obtain ⟨oe4, vs4, he4, hz4, hd4⟩ := fl4.there
      have S4 := h4'.state.suite he4 hd4 h.na nL nF
      refine store_ok (X := X.suite a ((a, oe4) :: (X.pn ++ pins))) (v := .ref a) S4 hN hi (.inl hln) rfl (fun s5 S5 => ?_) (.inr hln)
      refine wpAny_mono ((hsu a oe4 cls d (X.pn ++ pins) hz4 ⟨_, hd4⟩).run [] s5 _ H _ S5 (yes rfl a h.na)) (fun f s6 hsp => ?_) (fun _ _ z => False.elim z)
      have leave : ∀ {σ6 : L2.St} {H6 : Hp} {Q : Shared → Prop}, L2.Inv (X.suite a ((a, oe4) :: (X.pn ++ pins))) [] σ6 H6 s6 → (∀ s7, L2.Inv X pins (σ6.set i none) H6 s7 → Q s7) →
          wpAny (model X.prog X.w) X.A (do bindName X.env n .none; unbindBehindTheSuite X.env n pos') (fun _ s7 => Q s7) X.xe s6 := fun S6 hq => gone_ok (S6.unsuite ok) hN hi hln hq
      cases f with
      | ret u =>
        obtain ⟨v6, σ6, H6, S6, r6, q6⟩ := hsp
        exact leave S6 fun s7 J7 => ⟨_, _, _, J7, r6, q6⟩
      | next => exact let ⟨_, _, S6, q6⟩ := hsp; leave S6 fun s7 J7 => ⟨_, _, J7, q6⟩
      | brk => exact let ⟨_, _, S6, q6⟩ := hsp; leave S6 fun s7 J7 => ⟨_, _, J7, q6⟩
      | cont => exact let ⟨_, _, S6, q6⟩ := hsp; leave S6 fun s7 J7 => ⟨_, _, J7, q6⟩
theorem ps_tryas {body : List Stmt} {h0 : ExceptHandler} {hds : List ExceptHandler} {w : WX → Ends → WX} {tb : WX → TS} {Wout : WX} {pos : Pos} (hs : X.stack = X.env :: X.outer) (hf : X.env.frame = some X.env.locals) (hN : X.N.Nodup) (hi : X.N[i]? = some n)
    (hln : X.env.kindOf n = some .local) (tk : Takes X Wout)
    (hb : ∀ (W : WX) (pn : List (Addr × Obj)) (xe : Value → Shared → Prop), Takes (X.tr pn xe) W → PassesOwn (model X.prog X.w) X.A X.env xe → PSs (X.tr pn xe) body (tb W)) (k : HdAs X i n (h0 :: hds) w) :
    PS X (.Try body (h0 :: hds) [] [] pos) (fun D σ H => tb (w Wout D) D σ H) := by
  refine ⟨fun pins s σ H D I h => wpAny_Try_except ?_⟩
  have ok := I.ok
  have hfr : X.A.frames = some (X.env :: X.outer) := by rw [ok.frames, hs]
  refine wpAny_mono ((hb (w Wout D) (X.pn ++ pins) (fun e s1 => wpAny (model X.prog X.w) X.A (noteFrame e X.env) (fun _ s2 => wpAny (model X.prog X.w) X.A (setFlight e none) (fun _ s3 =>
    wpAny (model X.prog X.w) X.A (handleBy e X.env (h0 :: hds)) (SP X pins D) X.xe s3) X.xe s2) X.xe s1) (fun u s' xx => ?_) PassesOwn.looking).run [] s σ H D (I.toTry _) h) (fun f s1 hsp => ?_) (fun _ _ he => he)
  · obtain ⟨a, B, sI, pins', σ', H', cls, d, rfl, J', nb, up, sky, na, os, ag, wd⟩ := xx
    rw [show (X.tr (X.pn ++ pins) _).stack = X.env :: X.outer from hs] at sky
    refine Sky.land Zc.steady hfr hf sky fun h3 fl3 up3 => ?_
    exact handle_as (s := { s' with heap := h3 }) hs hf hN hi hln tk ⟨J'.ofTry ok, nb, up.trans up3, fl3, na, os, ag⟩ k wd
  · cases f with
    | ret u => exact let ⟨v, σ', H', J', r, q⟩ := hsp; ⟨v, σ', H', J'.ofTry ok, r, q⟩
    | next => exact let ⟨σ', H', J', q⟩ := hsp; wpAny_execs_nil ⟨σ', H', J'.ofTry ok, q⟩
    | brk => exact let ⟨σ', H', J', q⟩ := hsp; ⟨σ', H', J'.ofTry ok, q⟩
    | cont => exact let ⟨σ', H', J', q⟩ := hsp; ⟨σ', H', J'.ofTry ok, q⟩
end
end K54
/-! repr of None and of a pair of texts, where no repr runs; the law's def run by the claim's caller alone (where that is known) -/
namespace K54
open PySem PySem.Spec PyProof.Rows L2

/-! ### repr -/
def pairD (x y : Str) : PyData := .tuple [.str x, .str y]
def rRepr : List V → Hp → VK → Prop := fun xs H Q => (xs = [.non] ∧ Q (.str "None") H) ∨
  ∃ (a : Addr) (x y : Str), xs = [.ref a] ∧ H a = some (.tup [.str x, .str y]) ∧ (pairD x y).shown.length ≤ sizeLine ∧ Q (.str (pairD x y).shown) H
theorem call_repr {X : Cx} (hg : X.A.guards = some []) (hu : X.A.units + 4 < cLine) : CallR X (.builtin "repr") rRepr := by
  intro pins s σ H xs us Q I rv h
  rcases h with ⟨e, q⟩ | ⟨a, x, y, e, ha, hz, q⟩
  · subst e
    cases rv with
    | cons r rr =>
      cases rr
      cases r
      exact PySem.P.repr_of_none ⟨.str "None", H, I.tok _, ⟨_, rfl⟩, q⟩
  · subst e
    cases rv with
    | cons r rr =>
      cases rr
      cases r
      obtain ⟨z, its, rt, ob, e1, c1, n1, d1⟩ := I.hok a _ ha
      cases rt with
      | cons r1 rt1 =>
        cases rt1 with
        | cons r2 rt2 =>
          cases rt2
          obtain ⟨t1, rfl⟩ := r1
          obtain ⟨t2, rfl⟩ := r2
          have rd : Reads s.heap (.ref a) (pairD x y) ([] ++ ([] ++ [])) := .tuple e1 c1 d1 (.cons (.str x t1) (.cons (.str y t2) .nil))
          refine repr_of_reads' rd (by rfl) (fun z => ?_) hg ?_ (fun b o e => e) (fun h' u tk kk => ⟨.str _, H, I.kept (t' := tk) kk, ⟨u, rfl⟩, q⟩) hz
          · exact absurd (show (false : Bool) = true from z) Bool.false_ne_true
          · have e : (pairD x y).depth + 1 ≤ 4 := by show _ ≤ _; simp [pairD, PyData.depth, PyData.depthAll]
            omega

/-! ### the law's def, by the claim's caller -/
/-- the promise where what runs around is A -/
def FnAt (P : Program) (w : World) (K : PySem.W.Frag) (mg : Str → Option Value) (base : Heap) (CX : CXT) (A : Around) (f : Addr) (fd : FuncData) (ps : List Str) (sp : Sp) : Prop :=
  ∀ (outer : List Env) (s : Shared) (H : Hp) (args : Args) (us : List Value) (vs : List V) (Q : VK) (E : XK), Env0 P w K mg base A outer s H → BindsTo s fd args (ps.zip us) → Vals vs us → sp vs H Q E →
    codeAny (model P w) A (.call (.ref f) args) (CR CX outer P w H s Q E) s
theorem fn_at {P : Program} {w : World} {K : PySem.W.Frag} {mg : Str → Option Value} {base : Heap} {d : He.DefD} {CX : CXT} {A : Around} {N ps : List Str} {k : Nat} {sp : Sp} (F : FnP K d) (hr : Room (k + 1) A) (S : FnScope N ps d.scope)
    (len : ∀ vs H Q E, sp vs H Q E → vs.length = ps.length)
    (hbody : ∀ (cdv : Value) (outer : List Env) (s : Shared) (H : Hp) (vs : List V) (Q : VK) (E : XK), Room k (A.deeper (envOfC d.qual d.scope s.heap.objs.size (He.fAd K d.at_) cdv)) → sp vs H Q E →
      ∃ t, PSs (cxOf CX P w K mg base N d.qual d.scope (He.fAd K d.at_) cdv A outer s H E) d.body t ∧ t { nx := fun _ H' => Q .non H', rt := Q } (start N vs) H) :
    FnAt P w K mg base CX A (He.fAd K d.at_) (fdOf K d.at_) ps sp := by
  intro outer s H args us vs Q E e0 hb r hsp
  obtain ⟨oc, od, dV, kV, doc, pm, an, cdv, ct, osl, efd, lk, hcd, _, _⟩ := F.ex
  rw [efd] at hb lk
  have hl := len _ _ _ _ hsp
  have KX : K.In s.heap := e0.mod.kin.keeps fun b o e => (e0.bs b o e).1
  have lim := e0.mod.nolimit.keeps (h' := s.heap) fun b o e => (e0.bs b o e).1
  have kinds : ∀ y ∈ ps.zip us, d.scope.names.lookup y.1 = some .local ∨ (d.scope.names.lookup y.1 = some .cell ∧ ((cellsFrom (s.heap.objs.size + 1) d.scope.names []).lookup y.1).isSome = true) := by
    rintro ⟨n, v⟩ hy
    exact (S.par n (List.of_mem_zip hy).1).imp id fun q => ⟨q, PySem.W.cellsFrom_some _ _ _ (.inl q)⟩
  refine codeAny_call_function hr.depth (KX _ _ lk) rfl S.co S.gen rfl (PySem.W.codeRec_of KX hcd) (hb _ _ _ _ (wpAny_newFunctionEnv_cells S.kind kinds fun env he s1 x => ?_))
  subst he
  obtain ⟨t, ht, hq⟩ := hbody cdv outer s H vs Q E (hr.deeper _) hsp
  refine ⟨lim.keeps x.toInCall.keep, codeAny_func (wpAny_mono (ht.run [] s1 (start N vs) H _ (inv_start S hr.hd e0 hl r x) hq) (fun fl s' hs => ?_) fun _ _ hs => hs)⟩
  cases fl with
  | ret u => exact let ⟨v, _, H', J, rv, q⟩ := hs; ⟨v, H', J.os, J.bare, J.base, J.hok, rv, q⟩
  | next => exact let ⟨_, H', J, q⟩ := hs; ⟨.non, H', J.os, J.bare, J.base, J.hok, rfl, q⟩
  | brk => exact let ⟨_, _, _, q⟩ := hs; q.elim
  | cont => exact let ⟨_, _, _, q⟩ := hs; q.elim
/-- the script alone, locked -/
def onlyAt (a : Addr) (o : Obj) (xs : List V) : Hp := fun b => if b = a then some (.frz o (.lst xs)) else none
theorem law_at {P : Program} {w : World} {K : PySem.W.Frag} {mg mb : Str → Option Value} {CX : CXT} {fa a : Addr} {fd : FuncData} {x : Str} {sp : Sp} {s : Shared} {vs : List Value} {ns : List Int}
    (KX : K.In s.heap) (hns : s.heap.Ns mainGlobals mg) (hb : s.heap.Ns builtinsNs mb) (hbb : ∀ x : Str, x ≠ "__name__" → mb x = bootBuiltins x) (hlim : s.heap.NoLimit) (hg : s.gens = #[])
    (ha : s.heap.get? a = some { cls := .type "list", data := .seq vs.toArray }) (hi : IntsAre vs ns) (hl : ns.length ≤ sizeLine)
    (F : ∀ base : Heap, K.In base → base.Ns mainGlobals mg → FnAt P w K mg base CX callerA fa fd [x] sp) (hbind : ∀ (s : Shared) (u : Value), BindsTo s fd ⟨[u], []⟩ [(x, u)])
    (hsp : ∀ H : Hp, SqL K H a (ns.map V.int) → sp [.ref a] H (fun v _ => v = .bl true) fun _ _ _ => False) (hCX : ∀ H e s', CX [] H s (fun _ _ _ => False) e s' → False) :
    codeAny (model P w) callerA (.call (.ref fa) ⟨[.ref a], []⟩) (fun r s' => r = .ok (.ret (.bool true)) ∧ OldK s.heap s'.heap ∧ s'.os = s.os ∧ AllBare s'.gens) s := by
  have rv : Vals (ns.map V.int) vs := vals_ints hi
  -- an abstract heap that tracks at most the script
  suffices go : ∀ H : Hp, (∀ b u, H b = some u → b = a ∧ K.lookup a = none ∧ ∃ o xs, u = .frz o (.lst xs)) → SqL K H a (ns.map V.int) → HOk P w H s.heap →
      codeAny (model P w) callerA (.call (.ref fa) ⟨[.ref a], []⟩) (fun r s' => r = .ok (.ret (.bool true)) ∧ OldK s.heap s'.heap ∧ s'.os = s.os ∧ AllBare s'.gens) s by
    cases hk : K.lookup a with
    | some o =>
      have e := KX a o hk
      rw [ha] at e
      cases e
      exact go (fun _ => none) (fun b u q => nomatch q) (.inr ⟨_, vs.toArray, _, hk, rfl, rfl, rfl, by rw [List.size_toArray, ← rv.length, List.length_map]; exact hl, by simpa using rv⟩) fun b u q => nomatch q
    | none =>
      have at_ : onlyAt a { cls := .type "list", data := .seq vs.toArray } (ns.map V.int) a = some (.frz { cls := .type "list", data := .seq vs.toArray } (.lst (ns.map V.int))) := if_pos rfl
      refine go (onlyAt a { cls := .type "list", data := .seq vs.toArray } (ns.map V.int)) (fun b u q => ?_) (.inl (.inr ⟨_, at_⟩)) fun b u q => ?_
      all_goals
        by_cases e : b = a
        case neg =>
          have q' := (if_neg e).symm.trans q
          cases q'
        subst e
        rw [at_] at q
        cases q
      · exact ⟨rfl, hk, _, _, rfl⟩
      · exact ⟨ha, by rw [List.length_map]; exact hl, vs, _, rv, ha⟩
  intro H hO hS hok
  have free : ∀ {b : Addr} {o : Obj}, s.heap.get? b = some o → (∀ vs' n, o.data ≠ .seq vs' n) → H b = none := fun {b o} e d => by
    cases q : H b with
    | none => rfl
    | some u =>
      obtain ⟨e1, _⟩ := hO b u q
      subst e1
      rw [ha] at e
      cases e
      exact absurd rfl (d vs.toArray _)
  have nsK : ∀ {b : Addr} {m : Str → Option Value}, s.heap.Ns b m → (hidT s.heap H).Ns b m := fun {b m} ⟨o, es, ep, e, d, r⟩ => ⟨o, es, ep, hidT_get e (free e fun vs' n z => by rw [d] at z; cases z), d, r⟩
  have hKb : K.In (hidT s.heap H) := fun b o e => hidT_get (KX b o e) (by
    cases q : H b with
    | none => rfl
    | some u =>
      obtain ⟨e1, e2, _⟩ := hO b u q
      subst e1
      rw [e2] at e
      cases e)
  have hM : Mod K mg (hidT s.heap H) := ⟨hKb, nsK hns, ⟨mb, nsK hb, hbb⟩, let ⟨mc, h1, h2⟩ := hlim; ⟨mc, nsK h1, h2⟩⟩
  have e0 : Env0 P w K mg (hidT s.heap H) callerA [] s H := ⟨rfl, hM, fun b o e => of_hidT e, Nat.le_of_eq (hidT_size _ _), trivial, fun b z => (nomatch z), hok, .of_eq hg⟩
  refine codeAny_mono (F _ hKb (nsK hns) [] s H ⟨[.ref a], []⟩ [.ref a] [.ref a] _ _ e0 (hbind s (.ref a)) (Paired.cons (show L2.RelV (V.ref a) (Value.ref a) from rfl) Paired.nil) (hsp H hS)) fun r s' h => ?_
  cases r with
  | error e => exact (hCX H e s' h).elim
  | ok fl =>
    cases fl with
    | next => exact False.elim h
    | brk => exact False.elim h
    | cont => exact False.elim h
    | ret u =>
      obtain ⟨v, H', os, bare, un, hok', r', q⟩ := h
      cases (show v = .bl true from q)
      cases (show u = Value.bool true from r')
      refine ⟨rfl, OldK.of_keep fun b o e => ?_, os, bare⟩
      cases q : H b with
      | none => exact un.keep b o e q (fun z => nomatch z) (fun z => nomatch z)
      | some u =>
        obtain ⟨_, _, ob, xs, z⟩ := hO b u q
        subst z
        have e1 : s.heap.get? b = some ob := (hok b _ q).1
        rw [e] at e1
        cases e1
        exact (hok' b _ (un.frzs b _ _ q)).1
/-- the goal that the head leaves, from the law's promise at the claim's caller -/
theorem walk_at_ {l : PySem.W.OpenLaw} {n : Nat} {q : Program} {loose : List Str} {XP : (Str → Option Value) → Heap → Prop} {YP : World → Heap → Prop} {d : DefRec} {CX : CXT} {x : Str}
    (hn : l.most = some n) (hn2 : n ≤ sizeLine) (hdf : d.params.defaults = [])
    (F : ∀ (w : World) (mg : Str → Option Value) (fa : Addr) (h : Heap), YP w h → h.Ns mainGlobals mg → mg d.name = some (.ref fa) →
      ∃ (K : PySem.W.Frag) (fd : FuncData) (sp : Sp), K.In h ∧ (∀ (s : Shared) (u : Value), BindsTo s fd ⟨[u], []⟩ [(x, u)]) ∧
        (∀ (H : Hp) (a : Addr) (ns : List Int), ns.length ≤ n → SqL K H a (ns.map V.int) → sp [.ref a] H (fun v _ => v = .bl true) fun _ _ _ => False) ∧
        ∀ base : Heap, K.In base → base.Ns mainGlobals mg → FnAt l.prog w K mg base CX callerA fa fd [x] sp)
    (hCX : ∀ (H : Hp) (s : Shared) (e : Value) (s' : Shared), CX [] H s (fun _ _ _ => False) e s' → False) :
    PySem.W.WalkO q loose XP YP l.row.toRowW d [] (fun f vs => PySem.call f vs) := by
  refine Att.attach_call hn hdf fun w s₀ s₁ mg mb fa o pm cd doc a vs ns G Y ho hd hcd hmg hobj hints hlen hg => ?_
  obtain ⟨K, fd, sp, KX, hb, hsp, hF⟩ := F w mg fa _ Y G.T.g hmg
  exact law_at KX G.T.g G.T.b G.T.builtins G.T.nolimit hg hobj hints (Nat.le_trans hlen hn2) hF hb (fun H hS => hsp H a ns hlen hS) fun H e s' => hCX H s₁ e s'
end K54
/-! the names of each def, parameters first; printed by gen_sc.py -/
namespace K54
open PySem PySem.Spec PyProof.Rows L2
-- NothingToUndo.__init__: 0 self, 1 user
theorem sc_NothingToUndo_init : FnScope ["self", "user"] ["self", "user"] (defScope s_NothingToUndo_init) := ⟨rfl, rfl, rfl, by decide +kernel, rfl, by decide +kernel, by decide +kernel⟩
-- NothingToRedo.__init__: 0 self, 1 user
theorem sc_NothingToRedo_init : FnScope ["self", "user"] ["self", "user"] (defScope s_NothingToRedo_init) := ⟨rfl, rfl, rfl, by decide +kernel, rfl, by decide +kernel, by decide +kernel⟩
-- is_integer: 0 value, 1 minimum
theorem sc_is_integer : FnScope ["value", "minimum"] ["value", "minimum"] (defScope s_is_integer) := ⟨rfl, rfl, rfl, by decide +kernel, rfl, by decide +kernel, by decide +kernel⟩
-- is_columns: 0 value
theorem sc_is_columns : FnScope ["value"] ["value"] (defScope s_is_columns) := ⟨rfl, rfl, rfl, by decide +kernel, rfl, by decide +kernel, by decide +kernel⟩
-- check_columns: 0 columns
theorem sc_check_columns : FnScope ["columns"] ["columns"] (defScope s_check_columns) := ⟨rfl, rfl, rfl, by decide +kernel, rfl, by decide +kernel, by decide +kernel⟩
-- border_walk: 0 columns
theorem sc_border_walk : FnScope ["columns"] ["columns"] (defScope s_border_walk) := ⟨rfl, rfl, rfl, by decide +kernel, rfl, by decide +kernel, by decide +kernel⟩
-- has_crossing: 0 partners, 1 pending, 2 seen, 3 point
theorem sc_has_crossing : FnScope ["partners", "pending", "seen", "point"] ["partners"] (defScope s_has_crossing) := ⟨rfl, rfl, rfl, by decide +kernel, rfl, by decide +kernel, by decide +kernel⟩
-- is_partners: 0 value, 1 point, 2 index
theorem sc_is_partners : FnScope ["value", "point", "index"] ["value"] (defScope s_is_partners) := ⟨rfl, rfl, rfl, by decide +kernel, rfl, by decide +kernel, by decide +kernel⟩
-- Diagram.__init__: 0 self, 1 partners
theorem sc_Diagram_init : FnScope ["self", "partners"] ["self", "partners"] (defScope s_Diagram_init) := ⟨rfl, rfl, rfl, by decide +kernel, rfl, by decide +kernel, by decide +kernel⟩
-- Diagram.columns: 0 self
theorem sc_Diagram_columns : FnScope ["self"] ["self"] (defScope s_Diagram_columns) := ⟨rfl, rfl, rfl, by decide +kernel, rfl, by decide +kernel, by decide +kernel⟩
-- Diagram.partners: 0 self
theorem sc_Diagram_partners : FnScope ["self"] ["self"] (defScope s_Diagram_partners) := ⟨rfl, rfl, rfl, by decide +kernel, rfl, by decide +kernel, by decide +kernel⟩
-- Diagram.partner: 0 self, 1 point
theorem sc_Diagram_partner : FnScope ["self", "point"] ["self", "point"] (defScope s_Diagram_partner) := ⟨rfl, rfl, rfl, by decide +kernel, rfl, by decide +kernel, by decide +kernel⟩
-- Diagram.__eq__: 0 self, 1 other
theorem sc_Diagram_eq : FnScope ["self", "other"] ["self", "other"] (defScope s_Diagram_eq) := ⟨rfl, rfl, rfl, by decide +kernel, rfl, by decide +kernel, by decide +kernel⟩
-- from_arcs: 0 columns, 1 arcs, 2 partners, 3 first, 4 second
theorem sc_from_arcs : FnScope ["columns", "arcs", "partners", "first", "second"] ["columns", "arcs"] (defScope s_from_arcs) := ⟨rfl, rfl, rfl, by decide +kernel, rfl, by decide +kernel, by decide +kernel⟩
-- identity: 0 columns, 1 column
theorem sc_identity : FnScope ["columns", "column"] ["columns"] (defScope s_identity) := ⟨rfl, rfl, rfl, by decide +kernel, rfl, by decide +kernel, by decide +kernel⟩
-- generator: 0 columns, 1 letter, 2 arcs, 3 column
theorem sc_generator : FnScope ["columns", "letter", "arcs", "column"] ["columns", "letter"] (defScope s_generator) := ⟨rfl, rfl, rfl, by decide +kernel, rfl, by decide +kernel, by decide +kernel⟩
-- check_same_columns: 0 diagram, 1 other
theorem sc_check_same_columns : FnScope ["diagram", "other"] ["diagram", "other"] (defScope s_check_same_columns) := ⟨rfl, rfl, rfl, by decide +kernel, rfl, by decide +kernel, by decide +kernel⟩
-- path_from: 0 upper, 1 lower, 2 start, 3 is_above, 4 columns, 5 point, 6 is_upper, 7 passed, 8 end, 9 column
theorem sc_path_from : FnScope ["upper", "lower", "start", "is_above", "columns", "point", "is_upper", "passed", "end", "column"] ["upper", "lower", "start", "is_above"] (defScope s_path_from) := ⟨rfl, rfl, rfl, by decide +kernel, rfl, by decide +kernel, by decide +kernel⟩
-- stack: 0 upper, 1 lower, 2 columns, 3 arcs, 4 seen, 5 loops, 6 point, 7 end, 8 passed, 9 column
theorem sc_stack : FnScope ["upper", "lower", "columns", "arcs", "seen", "loops", "point", "end", "passed", "column"] ["upper", "lower"] (defScope s_stack) := ⟨rfl, rfl, rfl, by decide +kernel, rfl, by decide +kernel, by decide +kernel⟩
-- stack_all: 0 columns, 1 diagrams, 2 diagram, 3 result, 4 total, 5 loops
theorem sc_stack_all : FnScope ["columns", "diagrams", "diagram", "result", "total", "loops"] ["columns", "diagrams"] (defScope s_stack_all) := ⟨rfl, rfl, rfl, by decide +kernel, rfl, by decide +kernel, by decide +kernel⟩
-- is_letter: 0 columns, 1 value
theorem sc_is_letter : FnScope ["columns", "value"] ["columns", "value"] (defScope s_is_letter) := ⟨rfl, rfl, rfl, by decide +kernel, rfl, by decide +kernel, by decide +kernel⟩
-- value_of: 0 columns, 1 word, 2 letter
theorem sc_value_of : FnScope ["columns", "word", "letter"] ["columns", "word"] (defScope s_value_of) := ⟨rfl, rfl, rfl, by decide +kernel, rfl, by decide +kernel, by decide +kernel⟩
-- is_name: 0 value, 1 character
theorem sc_is_name : FnScope ["value", "character"] ["value"] (defScope s_is_name) := ⟨rfl, rfl, rfl, by decide +kernel, rfl, by decide +kernel, by decide +kernel⟩
-- check_name: 0 user
theorem sc_check_name : FnScope ["user"] ["user"] (defScope s_check_name) := ⟨rfl, rfl, rfl, by decide +kernel, rfl, by decide +kernel, by decide +kernel⟩
-- Editor.__init__: 0 self, 1 columns
theorem sc_Editor_init : FnScope ["self", "columns"] ["self", "columns"] (defScope s_Editor_init) := ⟨rfl, rfl, rfl, by decide +kernel, rfl, by decide +kernel, by decide +kernel⟩
-- Editor.shown: 0 self, 1 action
theorem sc_Editor_shown : FnScope ["self", "action"] ["self"] (defScope s_Editor_shown) := ⟨rfl, rfl, rfl, by decide +kernel, rfl, by decide +kernel, by decide +kernel⟩
-- Editor.insert: 0 self, 1 user, 2 position, 3 letter, 4 shown, 5 place
theorem sc_Editor_insert : FnScope ["self", "user", "position", "letter", "shown", "place"] ["self", "user", "position", "letter"] (defScope s_Editor_insert) := ⟨rfl, rfl, rfl, by decide +kernel, rfl, by decide +kernel, by decide +kernel⟩
-- Editor.add: 0 self, 1 user, 2 letter
theorem sc_Editor_add : FnScope ["self", "user", "letter"] ["self", "user", "letter"] (defScope s_Editor_add) := ⟨rfl, rfl, rfl, by decide +kernel, rfl, by decide +kernel, by decide +kernel⟩
-- Editor.undo: 0 self, 1 user, 2 action
theorem sc_Editor_undo : FnScope ["self", "user", "action"] ["self", "user"] (defScope s_Editor_undo) := ⟨rfl, rfl, rfl, by decide +kernel, rfl, by decide +kernel, by decide +kernel⟩
-- Editor.redo: 0 self, 1 user, 2 action
theorem sc_Editor_redo : FnScope ["self", "user", "action"] ["self", "user"] (defScope s_Editor_redo) := ⟨rfl, rfl, rfl, by decide +kernel, rfl, by decide +kernel, by decide +kernel⟩
-- Editor.word: 0 self, 1 action
theorem sc_Editor_word : FnScope ["self", "action"] ["self"] (defScope s_Editor_word) := ⟨rfl, rfl, rfl, by decide +kernel, rfl, by decide +kernel, by decide +kernel⟩
-- Editor.authors: 0 self, 1 action
theorem sc_Editor_authors : FnScope ["self", "action"] ["self"] (defScope s_Editor_authors) := ⟨rfl, rfl, rfl, by decide +kernel, rfl, by decide +kernel, by decide +kernel⟩
-- Editor.state: 0 self
theorem sc_Editor_state : FnScope ["self"] ["self"] (defScope s_Editor_state) := ⟨rfl, rfl, rfl, by decide +kernel, rfl, by decide +kernel, by decide +kernel⟩
-- Editor.removable: 0 self, 1 word, 2 diagram, 3 shorter, 4 index, 5 other
theorem sc_Editor_removable : FnScope ["self", "word", "diagram", "shorter", "index", "other"] ["self"] (defScope s_Editor_removable) := ⟨rfl, rfl, rfl, by decide +kernel, rfl, by decide +kernel, by decide +kernel⟩
-- _law_pool: 0 _law_script, 1 _law_k, 2 _law_cell, 3 _law_mixed
theorem sc_law_pool : FnScope ["_law_script", "_law_k", "_law_cell", "_law_mixed"] ["_law_script", "_law_k"] (defScope s_law_pool) := ⟨rfl, rfl, rfl, by decide +kernel, rfl, by decide +kernel, by decide +kernel⟩
-- _law_take: 0 _law_pool_here, 1 _law_count, 2 _law_result
theorem sc_law_take : FnScope ["_law_pool_here", "_law_count", "_law_result"] ["_law_pool_here", "_law_count"] (defScope s_law_take) := ⟨rfl, rfl, rfl, by decide +kernel, rfl, by decide +kernel, by decide +kernel⟩
-- _law_identity: 0 _law_width
theorem sc_law_identity : FnScope ["_law_width"] ["_law_width"] (defScope s_law_identity) := ⟨rfl, rfl, rfl, by decide +kernel, rfl, by decide +kernel, by decide +kernel⟩
-- _law_path: 0 _law_upper, 1 _law_lower, 2 _law_start, 3 _law_is_upper, 4 _law_width, 5 _law_point, 6 _law_passed, 7 _law_turn_here, 8 _law_end, 9 _law_column
theorem sc_law_path : FnScope ["_law_upper", "_law_lower", "_law_start", "_law_is_upper", "_law_width", "_law_point", "_law_passed", "_law_turn_here", "_law_end", "_law_column"] ["_law_upper", "_law_lower", "_law_start", "_law_is_upper"] (defScope s_law_path) := ⟨rfl, rfl, rfl, by decide +kernel, rfl, by decide +kernel, by decide +kernel⟩
-- _law_stack: 0 _law_upper, 1 _law_lower, 2 _law_width, 3 _law_result, 4 _law_seen, 5 _law_loops, 6 _law_start, 7 _law_end, 8 _law_passed, 9 _law_column
theorem sc_law_stack : FnScope ["_law_upper", "_law_lower", "_law_width", "_law_result", "_law_seen", "_law_loops", "_law_start", "_law_end", "_law_passed", "_law_column"] ["_law_upper", "_law_lower"] (defScope s_law_stack) := ⟨rfl, rfl, rfl, by decide +kernel, rfl, by decide +kernel, by decide +kernel⟩
-- _law_generator: 0 _law_width, 1 _law_letter, 2 _law_result, 3 _law_point
theorem sc_law_generator : FnScope ["_law_width", "_law_letter", "_law_result", "_law_point"] ["_law_width", "_law_letter"] (defScope s_law_generator) := ⟨rfl, rfl, rfl, by decide +kernel, rfl, by decide +kernel, by decide +kernel⟩
-- _law_value: 0 _law_width, 1 _law_letters, 2 _law_result, 3 _law_total, 4 _law_letter, 5 _law_loops
theorem sc_law_value : FnScope ["_law_width", "_law_letters", "_law_result", "_law_total", "_law_letter", "_law_loops"] ["_law_width", "_law_letters"] (defScope s_law_value) := ⟨rfl, rfl, rfl, by decide +kernel, rfl, by decide +kernel, by decide +kernel⟩
-- _law_shown: 0 _law_model, 1 _law_number
theorem sc_law_shown : FnScope ["_law_model", "_law_number"] ["_law_model"] (defScope s_law_shown) := ⟨rfl, rfl, rfl, by decide +kernel, rfl, by decide +kernel, by decide +kernel⟩
-- _law_word: 0 _law_model, 1 _law_number
theorem sc_law_word : FnScope ["_law_model", "_law_number"] ["_law_model"] (defScope s_law_word) := ⟨rfl, rfl, rfl, by decide +kernel, rfl, by decide +kernel, by decide +kernel⟩
-- _law_authors: 0 _law_model, 1 _law_number
theorem sc_law_authors : FnScope ["_law_model", "_law_number"] ["_law_model"] (defScope s_law_authors) := ⟨rfl, rfl, rfl, by decide +kernel, rfl, by decide +kernel, by decide +kernel⟩
-- _law_new_model: 0 _law_width
theorem sc_law_new_model : FnScope ["_law_width"] ["_law_width"] (defScope s_law_new_model) := ⟨rfl, rfl, rfl, by decide +kernel, rfl, by decide +kernel, by decide +kernel⟩
-- _law_insert: 0 _law_model, 1 _law_user, 2 _law_pos, 3 _law_letter, 4 _law_shown_here, 5 _law_number, 6 _law_place, 7 _law_key, 8 _law_item
theorem sc_law_insert : FnScope ["_law_model", "_law_user", "_law_pos", "_law_letter", "_law_shown_here", "_law_number", "_law_place", "_law_key", "_law_item"] ["_law_model", "_law_user", "_law_pos", "_law_letter"] (defScope s_law_insert) := ⟨rfl, rfl, rfl, by decide +kernel, rfl, by decide +kernel, by decide +kernel⟩
-- _law_turn: 0 _law_model, 1 _law_user, 2 _law_source, 3 _law_target, 4 _law_is_shown, 5 _law_number
theorem sc_law_turn : FnScope ["_law_model", "_law_user", "_law_source", "_law_target", "_law_is_shown", "_law_number"] ["_law_model", "_law_user", "_law_source", "_law_target", "_law_is_shown"] (defScope s_law_turn) := ⟨rfl, rfl, rfl, by decide +kernel, rfl, by decide +kernel, by decide +kernel⟩
-- _law_expected: 0 _law_model, 1 _law_action_here, 2 _law_kind, 3 _law_user
theorem sc_law_expected : FnScope ["_law_model", "_law_action_here", "_law_kind", "_law_user"] ["_law_model", "_law_action_here"] (defScope s_law_expected) := ⟨rfl, rfl, rfl, by decide +kernel, rfl, by decide +kernel, by decide +kernel⟩
-- _law_action: 0 _law_pool_here, 1 _law_model, 2 _law_names, 3 _law_user, 4 _law_kind, 5 _law_width, 6 _law_letter
theorem sc_law_action : FnScope ["_law_pool_here", "_law_model", "_law_names", "_law_user", "_law_kind", "_law_width", "_law_letter"] ["_law_pool_here", "_law_model"] (defScope s_law_action) := ⟨rfl, rfl, rfl, by decide +kernel, rfl, by decide +kernel, by decide +kernel⟩
-- _law_do: 0 _law_board, 1 _law_action_here, 2 e
theorem sc_law_do : FnScope ["_law_board", "_law_action_here", "e"] ["_law_board", "_law_action_here"] (defScope s_law_do) := ⟨rfl, rfl, rfl, by decide +kernel, rfl, by decide +kernel, by decide +kernel⟩
-- _law_check: 0 _law_board, 1 _law_model
theorem sc_law_check : FnScope ["_law_board", "_law_model"] ["_law_board", "_law_model"] (defScope s_law_check) := ⟨rfl, rfl, rfl, by decide +kernel, rfl, by decide +kernel, by decide +kernel⟩
-- _law_check_undone: 0 _law_board, 1 _law_model, 2 _law_word_here, 3 _law_authors_here, 4 _law_users, 5 _law_counts, 6 _law_user, 7 _law_count, 8 _law_turn_here
theorem sc_law_check_undone : FnScope ["_law_board", "_law_model", "_law_word_here", "_law_authors_here", "_law_users", "_law_counts", "_law_user", "_law_count", "_law_turn_here"] ["_law_board", "_law_model"] (defScope s_law_check_undone) := ⟨rfl, rfl, rfl, by decide +kernel, rfl, by decide +kernel, by decide +kernel⟩
-- _law_check_state: 0 _law_board, 1 _law_model, 2 _law_word_here, 3 _law_width, 4 _law_partners, 5 _law_loops, 6 _law_diagram, 7 _law_found, 8 _law_due, 9 _law_pos
theorem sc_law_check_state : FnScope ["_law_board", "_law_model", "_law_word_here", "_law_width", "_law_partners", "_law_loops", "_law_diagram", "_law_found", "_law_due", "_law_pos"] ["_law_board", "_law_model"] (defScope s_law_check_state) := ⟨rfl, rfl, rfl, by decide +kernel, rfl, by decide +kernel, by decide +kernel⟩
-- law: 0 _law_script, 1 _law_pool_here, 2 _law_width, 3 _law_board, 4 _law_model, 5 _law_balance, 6 _law_k, 7 _law_action_here, 8 _law_expected_here
theorem sc_law : FnScope ["_law_script", "_law_pool_here", "_law_width", "_law_board", "_law_model", "_law_balance", "_law_k", "_law_action_here", "_law_expected_here"] ["_law_script"] (defScope s_law) := ⟨rfl, rfl, rfl, by decide +kernel, rfl, by decide +kernel, by decide +kernel⟩
end K54
/-! rules with the written part named: for the blocks of comprehensions, whose context is bound -/
namespace K54
open PySem PySem.Spec PyProof.Rows L2
section
variable {X : Cx}
def rLenS (K : PySem.W.Frag) : List V → Hp → VK → Prop := fun xs H Q => ∃ p ys, xs = [.ref p] ∧ (SqL K H p ys ∨ SqT K H p ys) ∧ Q (.int (ys.length : Nat)) H
theorem len_K (K : PySem.W.Frag) (h : X.K = K := by rfl) : CallR X (.builtin "len") (rLenS K) := by
  subst h
  exact call_len_seq
theorem ixt_K (K : PySem.W.Frag) (h : X.K = K := by rfl) : IxR X (rIxT K) := by
  subst h
  exact ix_tup
theorem ixl_K (K : PySem.W.Frag) (h : X.K = K := by rfl) : IxR X (rIxL K) := by
  subst h
  exact ix_list
theorem in_K (K : PySem.W.Frag) (h : X.K = K := by rfl) : OpR X (compareOp .In) (rIn K false) := by
  subst h
  exact op_in_seq
theorem notin_K (K : PySem.W.Frag) (h : X.K = K := by rfl) : OpR X (compareOp .NotIn) (rIn K true) := by
  subst h
  exact op_notIn_seq
theorem eqD_K (K : PySem.W.Frag) (hu : X.A.units + 64 < cLine) (h : X.K = K := by rfl) : OpR X (compareOp .Eq) (rEqD K) := by
  subst h
  exact op_eqD hu
theorem isi_K (K : PySem.W.Frag) (h : X.K = K := by rfl) : CallR X (.builtin "isinstance") (rIsi K) := by
  subst h
  exact call_isi
theorem sll_K (K : PySem.W.Frag) (h : X.K = K := by rfl) : SlR X (rSlL K) := by
  subst h
  exact sl_list
theorem fld_K (K : PySem.W.Frag) {e : Expr} {f : Str} {ta : TE} {pos : Pos} (he : PE X e ta) (hb : attributeBase e f X.env (eval e X.env) = eval e X.env) (h : X.K = K := by rfl) : PE X (.Attribute e f pos) (tFld K ta f) := by
  subst h
  exact pe_fld he hb
end
end K54
/-! two lists side by side; a comprehension whose items stand in a relation to the turn -/
namespace K54
open PySem PySem.Spec PyProof.Rows L2
def Rel2 {α β : Type} (R : α → β → Prop) (as : List α) (bs : List β) : Prop := as.length = bs.length ∧ ∀ (i : Nat) (a : α) (b : β), as[i]? = some a → bs[i]? = some b → R a b
section
variable {α β : Type} {R S : α → β → Prop} {as : List α} {bs : List β}
theorem Rel2.nil : Rel2 R ([] : List α) ([] : List β) := ⟨rfl, fun i a b h => by simp at h⟩
theorem Rel2.snoc {a : α} {b : β} (h : Rel2 R as bs) (r : R a b) : Rel2 R (as ++ [a]) (bs ++ [b]) := by
  refine ⟨by rw [List.length_append, List.length_append, h.1]; rfl, fun i x y hx hy => ?_⟩
  by_cases hi : i < as.length
  · rw [List.getElem?_append_left hi] at hx
    rw [List.getElem?_append_left (h.1 ▸ hi)] at hy
    exact h.2 i x y hx hy
  · have hge : as.length ≤ i := Nat.le_of_not_lt hi
    rw [List.getElem?_append_right hge] at hx
    rw [List.getElem?_append_right (h.1 ▸ hge)] at hy
    have h1 := (List.getElem?_eq_some_iff.mp hx).1
    have e : i - as.length = 0 := by
      simp at h1
      omega
    rw [e] at hx
    rw [← h.1, e] at hy
    cases (Option.some.inj hx)
    cases (Option.some.inj hy)
    exact r
theorem Rel2.imp (h : Rel2 R as bs) (f : ∀ a b, R a b → S a b) : Rel2 S as bs := ⟨h.1, fun i a b ha hb => f a b (h.2 i a b ha hb)⟩
theorem Rel2.append {as2 : List α} {bs2 : List β} (h : Rel2 R as bs) (h2 : Rel2 R as2 bs2) : Rel2 R (as ++ as2) (bs ++ bs2) := by
  refine ⟨by rw [List.length_append, List.length_append, h.1, h2.1], fun i x y hx hy => ?_⟩
  by_cases hi : i < as.length
  · rw [List.getElem?_append_left hi] at hx
    rw [List.getElem?_append_left (h.1 ▸ hi)] at hy
    exact h.2 i x y hx hy
  · have hge : as.length ≤ i := Nat.le_of_not_lt hi
    rw [List.getElem?_append_right hge] at hx
    rw [List.getElem?_append_right (h.1 ▸ hge), ← h.1] at hy
    exact h2.2 _ x y hx hy
theorem Rel2.map_left {γ : Type} {T : γ → β → Prop} {f : α → γ} (h : Rel2 R as bs) (g : ∀ a b, R a b → T (f a) b) : Rel2 T (as.map f) bs := by
  refine ⟨by rw [List.length_map]; exact h.1, fun i x y hx hy => ?_⟩
  rw [List.getElem?_map] at hx
  cases e : as[i]? with
  | none => rw [e] at hx; cases hx
  | some a =>
    rw [e] at hx
    cases hx
    exact g a y (h.2 i a y e hy)
theorem Rel2.at_right (h : Rel2 R as bs) {i : Nat} {b : β} (hb : bs[i]? = some b) : ∃ a, as[i]? = some a ∧ R a b := by
  have hi := (List.getElem?_eq_some_iff.mp hb).1
  have e : as[i]? = some (as[i]'(h.1 ▸ hi)) := List.getElem?_eq_getElem (h.1 ▸ hi)
  exact ⟨_, e, h.2 i _ b e hb⟩
end
theorem lc_goF {J : It} {n : Nat} {G : Hp → Prop} {Y : Nat → Hp → V → Hp → Prop} (w : Walk J n G Y) (hn : n ≤ 100000) (keep : Nat → Bool) (R : Nat → V → Hp → Prop) (mono : ∀ i y H H', Same H H' → R i y H → R i y H')
    {g : TG} {tt : TT} {te : TE} {vs : List Nat} {σ : L2.St} {H1 : Hp} {D : Addr} {Qd : Hp → Prop} (hD : H1 D = none) (hG : ∀ H, Same H1 H → G H)
    (mono0 : ∀ i y H xs ys, H D = some (.lst ys) → R i y H → R i y (upd H D (.lst xs)))
    (hs : ∀ i x H H' (Kt : V → Hp → Prop) (Kf : Hp → Prop), i < n → Same H1 H → Y i H x H' → (∀ y H4, keep i = true → Same H H4 → R i y H4 → Kt y H4) → (∀ H3, keep i = false → Same H H3 → Kf H3) →
      g x (wipe σ vs) H' fun σ2 H2 => wipe σ2 vs = wipe σ vs ∧ tt σ2 H2 fun b H3 => if b = true then te σ2 H3 Kt else Kf H3)
    (hd : ∀ H acc, Same H1 H → H D = some (.lst acc) → Rel2 (fun k y => R k y H) ((List.range n).filter keep) acc → Qd H) :
    ∃ W : Nat → Nat → Hp → Prop, (∃ m, W 0 m (upd H1 D (.lst []))) ∧ ∀ i m H, W i m H →
      (J.stop i H ∧ Qd H) ∨ (J.go i H ∧ ∃ Nx : Hp → Prop, (∀ H', Nx H' → ∃ m', m' < m ∧ W (i + 1) m' H') ∧ ∀ x H', J.yld i H x H' → g x (wipe σ vs) H' fun σ2 H2 => wipe σ2 vs = wipe σ vs ∧ tt σ2 H2 fun b H3 =>
        if b = true then te σ2 H3 fun y H4 => ∃ acc, H4 D = some (.lst acc) ∧ acc.length < sizeLine ∧ Nx (upd H4 D (.lst (acc ++ [y]))) else Nx H3) := by
  have out : ∀ {H : Hp} {xs : List V}, Same H1 H → Same H1 (upd H D (.lst xs)) := fun {H xs} s b o e => by
    rw [upd_ne (ne_of_none e hD)]; exact s b o e
  refine lc_it w (fun i H => Same H1 H ∧ ∃ acc, H D = some (.lst acc) ∧ acc.length ≤ i ∧ Rel2 (fun k y => R k y H) ((List.range i).filter keep) acc) ⟨out (Same.refl _), [], upd_same, Nat.le_refl _, Rel2.nil⟩ (fun i H _ p => hG H p.1)
    (fun i x H H' hi p y => ?_) fun H p => let ⟨s, acc, e, _, r⟩ := p; hd H acc s e r
  obtain ⟨s, acc, e, l, r⟩ := p
  refine hs i x H H' _ _ hi s y (fun z H4 kp s4 rz => ?_) fun H3 kp s3 => ?_
  · refine ⟨acc, s4 _ _ e, line_lt (by omega), out (s.trans s4), _, upd_same, by rw [List.length_append, List.length_singleton]; omega, ?_⟩
    rw [List.range_succ, List.filter_append]
    have e1 : List.filter keep [i] = [i] := by simp [kp]
    rw [e1]
    exact (r.imp fun k v q => mono0 k v _ _ _ (s4 _ _ e) (mono k v _ _ s4 q)).snoc (mono0 i z _ _ _ (s4 _ _ e) rz)
  · refine ⟨s.trans s3, acc, s3 _ _ e, Nat.le_succ_of_le l, ?_⟩
    rw [List.range_succ, List.filter_append]
    have e1 : List.filter keep [i] = [] := by simp [kp]
    rw [e1, List.append_nil]
    exact r.imp fun k v q => mono k v _ _ s3 q
theorem lc_goR {J : It} {n : Nat} {G : Hp → Prop} {Y : Nat → Hp → V → Hp → Prop} (w : Walk J n G Y) (hn : n ≤ 100000) (R : Nat → V → Hp → Prop) (mono : ∀ i y H H', Same H H' → R i y H → R i y H')
    {g : TG} {te : TE} {vs : List Nat} {σ : L2.St} {H1 : Hp} {D : Addr} {Qd : Hp → Prop} (hD : H1 D = none) (hG : ∀ H, Same H1 H → G H) (mono0 : ∀ i y H xs ys, H D = some (.lst ys) → R i y H → R i y (upd H D (.lst xs)))
    (hs : ∀ i x H H' (Kt : V → Hp → Prop), i < n → Same H1 H → Y i H x H' → (∀ y H4, Same H H4 → R i y H4 → Kt y H4) → g x (wipe σ vs) H' fun σ2 H2 => wipe σ2 vs = wipe σ vs ∧ te σ2 H2 Kt)
    (hd : ∀ H acc, Same H1 H → H D = some (.lst acc) → Rel2 (fun k y => R k y H) (List.range n) acc → Qd H) :
    ∃ W : Nat → Nat → Hp → Prop, (∃ m, W 0 m (upd H1 D (.lst []))) ∧ ∀ i m H, W i m H →
      (J.stop i H ∧ Qd H) ∨ (J.go i H ∧ ∃ Nx : Hp → Prop, (∀ H', Nx H' → ∃ m', m' < m ∧ W (i + 1) m' H') ∧ ∀ x H', J.yld i H x H' → g x (wipe σ vs) H' fun σ2 H2 => wipe σ2 vs = wipe σ vs ∧ tYes σ2 H2 fun b H3 =>
        if b = true then te σ2 H3 fun y H4 => ∃ acc, H4 D = some (.lst acc) ∧ acc.length < sizeLine ∧ Nx (upd H4 D (.lst (acc ++ [y]))) else Nx H3) := by
  refine lc_goF w hn (fun _ => true) R mono hD hG mono0 (fun i x H H' Kt Kf hi s y kt _ => ?_) fun H acc s e r => hd H acc s e (by rwa [List.filter_eq_self.mpr (fun _ _ => rfl)] at r)
  have q := hs i x H H' Kt hi s y fun z H4 s4 rz => kt z H4 rfl s4 rz
  have e : (fun (σ2 : L2.St) (H2 : Hp) => wipe σ2 vs = wipe σ vs ∧ tYes σ2 H2 fun b H3 => if b = true then te σ2 H3 Kt else Kf H3) = (fun σ2 H2 => wipe σ2 vs = wipe σ vs ∧ te σ2 H2 Kt) := by
    funext σ2 H2
    have e1 : ∀ (A B : Prop), (if (true : Bool) = true then A else B) = A := fun A B => if_pos rfl
    exact congrArg (fun z => wipe σ2 vs = wipe σ vs ∧ z) (e1 _ (Kf H2))
  rw [e]
  exact q
end K54
namespace K54
open PySem PySem.Spec PyProof.Rows L2
/-! ### slices -/
theorem cut_take (xs : List V) {i : Nat} (h : i ≤ xs.length) : cutV xs none (some (i : Int)) = xs.take i := by
  have e1 : HT.sIx xs.length 0 none = 0 := by unfold HT.sIx; rfl
  have e2 : HT.sIx xs.length xs.length (some (i : Int)) = i := by rw [HT.sIx_nat]; omega
  unfold cutV
  rw [e1, e2]
  simp
theorem cut_drop (xs : List V) {i : Nat} (h : i ≤ xs.length) : cutV xs (some (i : Int)) none = xs.drop i := by
  have e1 : HT.sIx xs.length 0 (some (i : Int)) = i := by rw [HT.sIx_nat]; omega
  have e2 : HT.sIx xs.length xs.length none = xs.length := by unfold HT.sIx; rfl
  unfold cutV
  rw [e1, e2]
  rw [List.take_of_length_le (by rw [List.length_drop]; omega)]
theorem cut_last (xs : List V) : cutV xs none (some (-1)) = xs.dropLast := by
  have e1 : HT.sIx xs.length 0 none = 0 := by unfold HT.sIx; rfl
  have e2 : HT.sIx xs.length xs.length (some (-1)) = xs.length - 1 := by unfold HT.sIx; simp; omega
  unfold cutV
  rw [e1, e2, List.drop_zero, List.dropLast_eq_take]
  rfl
theorem lc_goFD {J : It} {n : Nat} {G : Hp → Prop} {Y : Nat → Hp → V → Hp → Prop} (w : Walk J n G Y) (hn : n ≤ 100000) (keep : Nat → Bool) (R : Nat → V → Hp → Prop) (mono : ∀ i y H H', Same H H' → R i y H → R i y H')
    {g : TG} {tt : TT} {te : TE} {vs : List Nat} {σ : L2.St} {H1 : Hp} {D : Addr} {Qd : Hp → Prop} (hD : H1 D = none) (hG : ∀ H, Same H1 H → G H)
    (mono0 : ∀ i y H xs ys, H D = some (.lst ys) → R i y H → R i y (upd H D (.lst xs)))
    (hs : ∀ i x H H' (Kt : V → Hp → Prop) (Kf : Hp → Prop), i < n → Same H1 H → (∃ zs, H D = some (.lst zs)) → Y i H x H' → (∀ y H4, keep i = true → Same H H4 → R i y H4 → Kt y H4) → (∀ H3, keep i = false → Same H H3 → Kf H3) →
      g x (wipe σ vs) H' fun σ2 H2 => wipe σ2 vs = wipe σ vs ∧ tt σ2 H2 fun b H3 => if b = true then te σ2 H3 Kt else Kf H3)
    (hd : ∀ H acc, Same H1 H → H D = some (.lst acc) → Rel2 (fun k y => R k y H) ((List.range n).filter keep) acc → Qd H) :
    ∃ W : Nat → Nat → Hp → Prop, (∃ m, W 0 m (upd H1 D (.lst []))) ∧ ∀ i m H, W i m H →
      (J.stop i H ∧ Qd H) ∨ (J.go i H ∧ ∃ Nx : Hp → Prop, (∀ H', Nx H' → ∃ m', m' < m ∧ W (i + 1) m' H') ∧ ∀ x H', J.yld i H x H' → g x (wipe σ vs) H' fun σ2 H2 => wipe σ2 vs = wipe σ vs ∧ tt σ2 H2 fun b H3 =>
        if b = true then te σ2 H3 fun y H4 => ∃ acc, H4 D = some (.lst acc) ∧ acc.length < sizeLine ∧ Nx (upd H4 D (.lst (acc ++ [y]))) else Nx H3) := by
  have out : ∀ {H : Hp} {xs : List V}, Same H1 H → Same H1 (upd H D (.lst xs)) := fun {H xs} s b o e => by
    rw [upd_ne (ne_of_none e hD)]; exact s b o e
  refine lc_it w (fun i H => Same H1 H ∧ ∃ acc, H D = some (.lst acc) ∧ acc.length ≤ i ∧ Rel2 (fun k y => R k y H) ((List.range i).filter keep) acc) ⟨out (Same.refl _), [], upd_same, Nat.le_refl _, Rel2.nil⟩ (fun i H _ p => hG H p.1)
    (fun i x H H' hi p y => ?_) fun H p => let ⟨s, acc, e, _, r⟩ := p; hd H acc s e r
  obtain ⟨s, acc, e, l, r⟩ := p
  refine hs i x H H' _ _ hi s ⟨acc, e⟩ y (fun z H4 kp s4 rz => ?_) fun H3 kp s3 => ?_
  · refine ⟨acc, s4 _ _ e, line_lt (by omega), out (s.trans s4), _, upd_same, by rw [List.length_append, List.length_singleton]; omega, ?_⟩
    rw [List.range_succ, List.filter_append]
    have e1 : List.filter keep [i] = [i] := by simp [kp]
    rw [e1]
    exact (r.imp fun k v q => mono0 k v _ _ _ (s4 _ _ e) (mono k v _ _ s4 q)).snoc (mono0 i z _ _ _ (s4 _ _ e) rz)
  · refine ⟨s.trans s3, acc, s3 _ _ e, Nat.le_succ_of_le l, ?_⟩
    rw [List.range_succ, List.filter_append]
    have e1 : List.filter keep [i] = [] := by simp [kp]
    rw [e1, List.append_nil]
    exact r.imp fun k v q => mono k v _ _ s3 q
theorem lc_goRD {J : It} {n : Nat} {G : Hp → Prop} {Y : Nat → Hp → V → Hp → Prop} (w : Walk J n G Y) (hn : n ≤ 100000) (R : Nat → V → Hp → Prop) (mono : ∀ i y H H', Same H H' → R i y H → R i y H')
    {g : TG} {te : TE} {vs : List Nat} {σ : L2.St} {H1 : Hp} {D : Addr} {Qd : Hp → Prop} (hD : H1 D = none) (hG : ∀ H, Same H1 H → G H) (mono0 : ∀ i y H xs ys, H D = some (.lst ys) → R i y H → R i y (upd H D (.lst xs)))
    (hs : ∀ i x H H' (Kt : V → Hp → Prop), i < n → Same H1 H → (∃ zs, H D = some (.lst zs)) → Y i H x H' → (∀ y H4, Same H H4 → R i y H4 → Kt y H4) → g x (wipe σ vs) H' fun σ2 H2 => wipe σ2 vs = wipe σ vs ∧ te σ2 H2 Kt)
    (hd : ∀ H acc, Same H1 H → H D = some (.lst acc) → Rel2 (fun k y => R k y H) (List.range n) acc → Qd H) :
    ∃ W : Nat → Nat → Hp → Prop, (∃ m, W 0 m (upd H1 D (.lst []))) ∧ ∀ i m H, W i m H →
      (J.stop i H ∧ Qd H) ∨ (J.go i H ∧ ∃ Nx : Hp → Prop, (∀ H', Nx H' → ∃ m', m' < m ∧ W (i + 1) m' H') ∧ ∀ x H', J.yld i H x H' → g x (wipe σ vs) H' fun σ2 H2 => wipe σ2 vs = wipe σ vs ∧ tYes σ2 H2 fun b H3 =>
        if b = true then te σ2 H3 fun y H4 => ∃ acc, H4 D = some (.lst acc) ∧ acc.length < sizeLine ∧ Nx (upd H4 D (.lst (acc ++ [y]))) else Nx H3) := by
  refine lc_goFD w hn (fun _ => true) R mono hD hG mono0 (fun i x H H' Kt Kf hi s hz y kt _ => ?_) fun H acc s e r => hd H acc s e (by rwa [List.filter_eq_self.mpr (fun _ _ => rfl)] at r)
  have q := hs i x H H' Kt hi s hz y fun z H4 s4 rz => kt z H4 rfl s4 rz
  have e : (fun (σ2 : L2.St) (H2 : Hp) => wipe σ2 vs = wipe σ vs ∧ tYes σ2 H2 fun b H3 => if b = true then te σ2 H3 Kt else Kf H3) = (fun σ2 H2 => wipe σ2 vs = wipe σ vs ∧ te σ2 H2 Kt) := by
    funext σ2 H2
    have e1 : ∀ (A B : Prop), (if (true : Bool) = true then A else B) = A := fun A B => if_pos rfl
    exact congrArg (fun z => wipe σ2 vs = wipe σ vs ∧ z) (e1 _ (Kf H2))
  rw [e]
  exact q
end K54
namespace K54
open PySem PySem.Spec PyProof.Rows L2
section
variable {P : Program} {w : World} {K : PySem.W.Frag} {mg : Str → Option Value} {ex : PySem.W.Frag → Bool} {base : Heap}
/-- a def keeps its promise: no error leaves it -/
theorem fok {d : He.DefD} {N ps : List Str} {k : Nat} {sp : Sp} (F : FnP K d) (S : FnScope N ps d.scope) (len : ∀ vs H Q E, sp vs H Q E → vs.length = ps.length)
    (hbody : ∀ (cdv : Value) (A : Around) (outer : List Env) (s : Shared) (H : Hp) (vs : List V) (Q : VK) (E : XK), Room k (A.deeper (envOfC d.qual d.scope s.heap.objs.size (He.fAd K d.at_) cdv)) → sp vs H Q E →
      ∃ t, PSs (cxOf CX0 P w K mg base N d.qual d.scope (He.fAd K d.at_) cdv A outer s H E).nox d.body t ∧ t { nx := fun _ H' => Q .non H', rt := Q } (start N vs) H) : FnOk P w K mg base CX0 (k + 1) (He.fAd K d.at_) (fdOf K d.at_) ps sp :=
  F.ok S len fun cdv A outer s H vs Q E hr h => let ⟨t, ht, q⟩ := hbody cdv A outer s H vs Q E hr h; ⟨t, PSs.nox ht, q⟩

/-! ### is_integer -/
def spInt : Sp := fun vs H Q _ => ∃ v m : Int, vs = [.int v, .int m] ∧ Q (.bl (decide (m ≤ v))) H
theorem b_int1 (T : Top K mg ex) : ∃ ds, Vals [.int 0] ds ∧ Binds K (fdOf K a_is_integer) ["value", "minimum"] ds :=
  T.f_is_integer.binds1 1 0 (by simp [He.DefD.dvs, d_is_integer]) rfl fun T kV doc pm an cdv ct us its h1 h2 => match us, its, h1, h2 with | [_], [_], _, _ => ⟨_, rfl, rfl⟩
theorem b_int2 (T : Top K mg ex) : ∃ ds, Vals [] ds ∧ Binds K (fdOf K a_is_integer) ["value", "minimum"] ds :=
  T.f_is_integer.binds1 2 1 (by simp [He.DefD.dvs, d_is_integer]) rfl fun T kV doc pm an cdv ct us its h1 h2 => match us, its, h1, h2 with | [_, _], [_], _, _ => ⟨_, rfl, rfl⟩
theorem ok_int (T : Top K mg ex) : FnOk P w K mg base CX0 1 (He.fAd K a_is_integer) (fdOf K a_is_integer) ["value", "minimum"] spInt := by
  refine fok T.f_is_integer sc_is_integer (fun vs H Q E h => ?_) (fun cdv A outer s H vs Q E hr h => ?_)
  · obtain ⟨_, _, rfl, _⟩ := h
    rfl
  · obtain ⟨v, m, rfl, k⟩ := h
    refine ⟨_, pss_one (ps_ret (pe_and (pe_callB call_isi (by rfl) T.z_isinstance boot_isinstance (pa_cons (pv 0) (pa_cons (pe_bltn (v := .ty "int") (by rfl) T.z_int boot_int rfl) pa_nil)))
      (pe_and (pe_not (pe_callB call_isi (by rfl) T.z_isinstance boot_isinstance (pa_cons (pv 0) (pa_cons (pe_bltn (v := .ty "bool") (by rfl) T.z_bool (u := .type "bool") (by decide +kernel) rfl) pa_nil))))
      (pe_one (pe_cmpR op_ge (pv 0) (pv 1) (nomark _)))))), ?_⟩
    refine ⟨_, rfl, _, _, _, _, true, rfl, .ty _, .base (.int _), kit_ty (by decide +kernel), _, rfl, iteT ?_⟩
    refine ⟨_, rfl, _, _, _, _, false, rfl, .ty _, .base (.int _), kit_ty (by decide +kernel), _, rfl, _, rfl, iteT ?_⟩
    exact ⟨_, rfl, _, rfl, _, _, rfl, rfl, k⟩
end
end K54
namespace K54
open PySem PySem.Spec PyProof.Rows L2
/-! ### list(range(i, j, -1)) -/
def dnV (i : Int) (n : Nat) : List V := (List.range n).map fun k => V.int (i - (k : Nat))
theorem vals_dn {i : Int} {n : Nat} {acc : Array Value} (h : ItemsOf (fun k v => ∃ t, v = .int (i + k * (-1)) t) acc n) : Vals (dnV i n) acc.toList := by
  have e : acc.toList.length = n := by rw [Array.length_toList]; exact h.1
  unfold dnV
  rw [← e]
  refine vals_of_get acc.toList _ fun j u hj => ?_
  obtain ⟨t, rfl⟩ := h.2 j u (by rw [← hj, Array.getElem?_toList])
  exact ⟨t, by rw [show i + (j : Int) * (-1) = i - j by omega]⟩
def tLstDn (ta : TA) : TE := fun σ H Q => ta σ H fun vs H1 => ∃ (i j : Int), vs = [.int i, .int j, .int (-1)] ∧ (-1000 ≤ i ∧ i ≤ 1000 ∧ -1000 ≤ j ∧ j ≤ 1000) ∧ ∀ q, H1 q = none → Q (.ref q) (upd H1 q (.lst (dnV i (i - j).toNat)))
theorem pe_listDn {X : Cx} {a b c : Expr} {ta : TA} {p pos p2 pos2 : Pos} (hc : X.calm = true) (hg : Gl X "list") (hm : X.mg "list" = none) (hg2 : Gl X "range") (hm2 : X.mg "range" = none) (ha : PA X [a, b, c] ta)
    (hs : starEach [a, b, c] X.env = (false, eval a X.env) :: starEach [b, c] X.env := by rfl) (hpl : (backTo pos2 (starEach [b, c] X.env)).any (·.1) = false := by rfl)
    (na : starEach [.Call (.Name "range" p2) [a, b, c] [] pos2] X.env = (false, eval (.Call (.Name "range" p2) [a, b, c] [] pos2) X.env) :: starEach [] X.env := by rfl) :
    PE X (.Call (.Name "list" p) [.Call (.Name "range" p2) [a, b, c] [] pos2] [] pos) (tLstDn ta) := by
  refine ⟨fun pins s σ H Q I h => Call_ (ld_blt I hg hm boot_list (PyProof.Rows.callWith_type1 (args_cons (Call_ (ld_blt I hg2 hm2 boot_range (PyProof.Rows.callWith_type1 (thn (ha.run pos2 pins s σ H _ I h) fun us s1 ⟨vs, H1, I1, r1, q1⟩ => ?_) hs hpl))) na) na))⟩
  obtain ⟨i, j, e, ⟨b1, b2, b3, b4⟩, q⟩ := q1
  subst e
  cases r1 with
  | cons r rr =>
    cases rr with
    | cons r' rr =>
      cases rr with
      | cons r'' rr =>
        cases rr
        obtain ⟨t, rfl⟩ := r
        obtain ⟨t', rfl⟩ := r'
        obtain ⟨t'', rfl⟩ := r''
        obtain ⟨c0, c1, c2, c3⟩ := RgC.neg (i := i) (j := j) (by omega) (by omega) (by omega) (by omega)
        refine call_range_3 c0 ?_ (.inl (PyProof.noPylong_small c1))
        have I2 : L2.Inv X pins σ H1 { s1 with heap := s1.heap.push { cls := .type "range", data := .fields #[.int i t, .int j t', .int (-1) t''] } } := I1.kept (t' := s1.toks) fun b o e => Heap.get?_push_of_some _ e
        refine args_nil (call_list_range (n := (i - j).toNat) (I.ok.hd hc) (IsRange.new ..) c2 c3 (by omega) fun h' tk acc c' hk e' hi => ?_)
        refine ⟨_, _, I2.laid (o := .lst (dnV i (i - j).toNat)) hk (Nat.le_refl _) ⟨?_, acc.toList, c', vals_dn hi, by rw [Array.toArray_toList]; exact e'⟩, (show L2.RelV (V.ref _) (Value.ref _) from rfl), q _ (I2.hok.fresh (Nat.le_refl _))⟩
        unfold dnV
        rw [List.length_map, List.length_range, sizeLine_eq]
        omega
section
variable {P : Program} {w : World} {K : PySem.W.Frag} {mg : Str → Option Value} {ex : PySem.W.Frag → Bool} {base : Heap}
/-! ### is_columns, check_columns -/
def spCols : Sp := fun vs H Q _ => ∃ n : Int, vs = [.int n] ∧ Q (.bl (decide (1 ≤ n) && decide (n ≤ 16))) H
theorem ok_cols (T : Top K mg ex) : FnOk P w K mg base CX0 2 (He.fAd K a_is_columns) (fdOf K a_is_columns) ["value"] spCols := by
  obtain ⟨ds, rd, bd⟩ := b_int2 T
  obtain ⟨tm, em⟩ := T.i_MAX_COLUMNS
  refine fok T.f_is_columns sc_is_columns (fun vs H Q E h => ?_) (fun cdv A outer s H vs Q E hr h => ?_)
  · obtain ⟨_, rfl, _⟩ := h
    rfl
  · obtain ⟨n, rfl, k⟩ := h
    refine ⟨_, pss_one (ps_ret (pe_and (pe_call (ok_int T) hr (by rfl) T.g_is_integer T.f_is_integer.kp bd rd pass0 (pa_cons (pv 0) (pa_cons pe_int pa_nil)))
      (pe_one (pe_cmpR op_le (pv 0) (pe_glob (v := .int 16) (by rfl) em ⟨_, rfl⟩) (nomark _))))), ?_⟩
    refine ⟨_, rfl, n, 1, rfl, _, rfl, ite2 (fun c => ?_) (fun c => ?_)⟩
    · refine ⟨_, rfl, _, _, rfl, rfl, ?_⟩
      rw [c] at k
      exact k
    · have c' : decide (1 ≤ n) = false := by simpa using c
      rw [c'] at k
      exact k
def spCheck : Sp := fun vs H Q _ => ∃ n : Int, vs = [.int n] ∧ 1 ≤ n ∧ n ≤ 16 ∧ Q .non H
theorem ok_check (T : Top K mg ex) : FnOk P w K mg base CX0 3 (He.fAd K a_check_columns) (fdOf K a_check_columns) ["columns"] spCheck := by
  refine fok T.f_check_columns sc_check_columns (fun vs H Q E h => ?_) (fun cdv A outer s H vs Q E hr h => ?_)
  · obtain ⟨_, rfl, _⟩ := h
    rfl
  · obtain ⟨n, rfl, h1, h2, k⟩ := h
    refine ⟨_, pss_one (ps_if (pt_not (pt_val (pe_call (ok_cols T) hr (by rfl) T.g_is_columns T.f_is_columns.kp T.b_is_columns .nil pass0 (pa_cons (pv 0) pa_nil)))) (pss_one ps_never) pss_nil), ?_⟩
    refine ⟨_, rfl, n, rfl, _, rfl, ?_⟩
    rw [decide_eq_true h1, decide_eq_true h2]
    exact iteF k
/-! ### border_walk -/
def walkL (n : Nat) : List Int := (List.range n).map (fun k : Nat => (k : Int)) ++ (List.range n).map (fun k : Nat => 2 * (n : Int) - 1 - k)
def spWalk : Sp := fun vs H Q _ => ∃ n : Nat, vs = [.int n] ∧ n ≤ 16 ∧ ∀ p H', Same H H' → H' p = some (.lst ((walkL n).map V.int)) → Q (.ref p) H'
theorem ok_walk (T : Top K mg ex) : FnOk P w K mg base CX0 1 (He.fAd K a_border_walk) (fdOf K a_border_walk) ["columns"] spWalk := by
  refine fok T.f_border_walk sc_border_walk (fun vs H Q E h => ?_) (fun cdv A outer s H vs Q E hr h => ?_)
  · obtain ⟨_, rfl, _⟩ := h
    rfl
  · obtain ⟨n, rfl, hn, k⟩ := h
    refine ⟨_, pss_one (ps_ret (pe_op op_cat (pe_listRg rfl (by rfl) T.z_list (prg_1 (by rfl) T.z_range (pv 0)))
      (pe_listDn rfl (by rfl) T.z_list (by rfl) T.z_range (pa_cons (pe_op op_sub (pe_op op_mul pe_int (pv 0)) pe_int) (pa_cons (pe_op op_sub (pv 0) pe_int) (pa_cons (pe_un un_neg pe_int) pa_nil)))))), ?_⟩
    refine ⟨_, rfl, _, rfl, RgOk.of_le (by omega) (by omega) (by omega) (by omega), fun q hq => ?_⟩
    refine ⟨_, rfl, _, _, rfl, rfl, .inl ⟨by omega, by omega⟩, _, _, rfl, rfl, _, rfl, _, _, rfl, rfl, _, rfl, _, _, rfl, ⟨by omega, by omega, by omega, by omega⟩, fun q2 hq2 => ?_⟩
    have ne : q ≠ q2 := ne_of_none upd_same hq2
    refine ⟨q, q2, _, _, rfl, rfl, (by rw [upd_ne ne]; exact upd_same), upd_same, ?_, fun q3 hq3 => ?_⟩
    · unfold rgV dnV
      rw [List.length_map, List.length_map, List.length_range, List.length_range]
      exact line_of (by omega)
    · refine k q3 _ (same_new (same_new (same_new (Same.refl _) hq) hq2) hq3) ?_
      rw [upd_same]
      unfold walkL rgV dnV
      rw [List.map_append, List.map_map, List.map_map]
      have e1 : ((n : Int) - 0).toNat = n := by omega
      have e2 : (2 * (n : Int) - 1 - ((n : Int) - 1)).toNat = n := by omega
      rw [e1, e2]
      congr 3
      refine List.map_congr_left fun i _ => ?_
      show V.int (0 + (i : Nat)) = V.int (i : Int)
      rw [Int.zero_add]
end
end K54
namespace K54
open PySem PySem.Spec PyProof.Rows L2
/-! ### ints in a list of values -/
theorem ints_at {ns : List Int} {i : Nat} {y : V} (h : (ns.map V.int)[i]? = some y) : ∃ z, ns[i]? = some z ∧ y = .int z := by
  rw [List.getElem?_map] at h
  cases e : ns[i]? with
  | none => rw [e] at h; cases h
  | some z => rw [e] at h; exact ⟨z, rfl, (Option.some.inj h).symm⟩
theorem ints_get {ns : List Int} {i : Nat} {z : Int} (h : ns[i]? = some z) : (ns.map V.int)[i]? = some (.int z) := by
  rw [List.getElem?_map, h]
  rfl
/-- the item at the int p -/
def at? (U : List Int) (p : Int) : Option Int := if 0 ≤ p then U[p.toNat]? else none
theorem at_ix {U : List Int} {p q : Int} (h : at? U p = some q) : atI (U.map V.int) p = some (.int q) := by
  unfold at? at h
  split at h
  · rename_i h0
    have e : p = ((p.toNat : Nat) : Int) := by omega
    rw [e]
    exact atI_nat (ints_get h)
  · cases h
/-! ### has_crossing -/
/-- the walk goes through: the pairs close in order -/
def okX (U : List Int) : List Int → List Int → List Int → Bool
  | [], _, _ => true
  | p :: r, pend, seen => match at? U p with
    | none => false
    | some q => if seen.contains q then (match pend.getLast? with
      | none => false
      | some z => z == q && okX U r pend.dropLast (p :: seen)) else okX U r (pend ++ [p]) (p :: seen)
theorem last_at {l : List Int} {z : Int} (h : l.getLast? = some z) : (l.map V.int)[(l.map V.int).length - 1]? = some (.int z) := by
  rw [List.length_map]
  refine ints_get ?_
  rw [← h, List.getLast?_eq_getElem?]
section
variable {P : Program} {w : World} {K : PySem.W.Frag} {mg : Str → Option Value} {ex : PySem.W.Frag → Bool} {base : Heap}
def spCross (K : PySem.W.Frag) : Sp := fun vs H Q _ => ∃ (a : Addr) (U : List Int) (n : Nat), vs = [.ref a] ∧ SqT K H a (U.map V.int) ∧ U.length = 2 * n ∧ n ≤ 16 ∧ okX U (walkL n) [] [] = true ∧ ∀ H', Same H H' → Q (.bl false) H'
theorem ok_cross (T : Top K mg ex) : FnOk P w K mg base CX0 2 (He.fAd K a_has_crossing) (fdOf K a_has_crossing) ["partners"] (spCross K) := by
  refine fok T.f_has_crossing sc_has_crossing (fun vs H Q E h => ?_) (fun cdv A outer s H vs Q E hr h => ?_)
  · obtain ⟨_, _, _, rfl, _⟩ := h
    rfl
  · obtain ⟨a, U, n, rfl, hU, hl, hn, hx, k⟩ := h
    have hu := hu_of hr
    refine ⟨_, pss_cons (ps_par (i := 1) (j := 2) rfl sc_has_crossing.nd rfl rfl (by decide) rfl rfl (pa_cons (pe_lst pa_nil) (pa_cons pe_dnewK pa_nil)) (by rfl))
      (pss_cons (ps_for PassesOwn.never rfl (pi_list (pe_call (ok_walk T) (hr.mono (by decide)) (by rfl) T.g_border_walk T.f_border_walk.kp T.b_border_walk .nil pass0
          (pa_cons (pe_op op_fdiv (pe_callB call_len_seq (by rfl) T.z_len PySem.boot_len (pa_cons (pv 0) pa_nil)) pe_int) pa_nil))) (pg_name (i := 3) sc_has_crossing.nd rfl (Or.inl rfl))
        (pss_cons (ps_if (pt_cmp (pc_dnotin hu (pe_ix ix_tup (pv 0) (pv 3) (fun _ _ => rfl)) (pv 2)))
            (pss_one (ps_expr (pe_bm PySem.F.plainAttrs_list PySem.F.slot_list_append PySem.F.type_list_append mt_append (pv 1) (pa_cons (pv 3) pa_nil))))
            (pss_one (ps_if (pt_cmpR op_ne (pe_bm0 PySem.F.plainAttrs_list PySem.F.slot_list_pop PySem.F.type_list_pop mt_pop (pv 1)) (pe_ix ix_tup (pv 0) (pv 3) (fun _ _ => rfl)) (nomark _)) (pss_one (ps_ret pe_bl)) pss_nil)))
          (pss_one (ps_dput hu (pv 2) (pv 3) pe_bl rfl))))
      (pss_one (ps_ret pe_bl))), ?_⟩
    refine ⟨Nat.zero_le _, fun pP hP dS hS => ⟨_, _, rfl, ?_⟩⟩
    have nPS : pP ≠ dS := ne_of_none upd_same hS
    have s0 : Same H (upd (upd H pP (.lst [])) dS (.dK [])) := same_new (same_new (Same.refl _) hP) hS
    refine ⟨_, rfl, a, _, rfl, .inr (same_tup s0 hU), _, _, rfl, rfl, ⟨by decide, by decide⟩, n, ?_, hn, fun pw H1 s1 hw => ?_⟩
    · have e : (((U.map V.int).length : Nat) : Int) / 2 = (n : Int) := by rw [List.length_map, hl]; omega
      show ([V.int ((((U.map V.int).length : Nat) : Int) / 2)] : List V) = [V.int n]
      rw [e]
    have sH1 : Same H H1 := s0.trans s1
    refine ⟨pw, rfl, ⟨_, .of hw⟩, for_list (K := K) (a := pw) (xs := (walkL n).map V.int) (fun i σ H2 => ∃ (pend seen : List Int) (kvs : List (Key × V)) (v : Option V), σ = [some (.ref a), some (.ref pP), some (.ref dS), v] ∧ Same H H2 ∧ H2 pw = some (.lst ((walkL n).map V.int)) ∧
      H2 pP = some (.lst (pend.map V.int)) ∧ H2 dS = some (.dK kvs) ∧ (∀ z : Int, (valV kvs (Sum.inl z)).isSome = seen.contains z) ∧ kvs.length ≤ i ∧ pend.length ≤ i ∧ okX U ((walkL n).drop i) pend seen = true)
      ?_ (fun i σ H2 _ ⟨_, _, _, _, _, _, q, _⟩ => .of q) ?_ ?_⟩
    · exact ⟨[], [], [], none, rfl, sH1, hw, s1 _ _ (by rw [upd_ne nPS]; exact upd_same), s1 _ _ upd_same, fun z => rfl, Nat.le_refl _, Nat.le_refl _, hx⟩
    · rintro i y σ H2 hi ⟨pend, seen, kvs, v, rfl, s2, hw2, hp2, hd2, hk, l1, l2, ho⟩
      obtain ⟨p, hp, rfl⟩ := ints_at hi
      have hlen : i < 32 := by
        have q := (List.getElem?_eq_some_iff.mp hp).1
        have e : (walkL n).length = 2 * n := by unfold walkL; rw [List.length_append, List.length_map, List.length_map, List.length_range]; omega
        omega
      have ed : (walkL n).drop i = p :: (walkL n).drop (i + 1) := by
        have q := (List.getElem?_eq_some_iff.mp hp).1
        rw [List.drop_eq_getElem_cons q]
        congr 1
        exact (List.getElem?_eq_some_iff.mp hp).2
      rw [ed] at ho
      unfold okX at ho
      cases hq : at? U p with
      | none => rw [hq] at ho; cases ho
      | some q =>
        rw [hq] at ho
        simp only at ho
        have n1 : pw ≠ pP := by
          intro z
          have z1 := s1 pP _ (show (upd (upd H pP (.lst [])) dS (.dK [])) pP = some (.lst []) by rw [upd_ne nPS]; exact upd_same)
          rw [← z, hw] at z1
          have e : (walkL n).map V.int = [] := by injection z1 with z1; injection z1
          rw [List.map_eq_nil_iff.mp e] at hp
          cases hp
        have n2 : pw ≠ dS := ne_of hw2 hd2 (by intro z; cases z)
        have hf0 : H pP = none := hP
        have hf1 : H dS = none := by
          rw [upd_ne nPS.symm] at hS
          exact hS
        have fin : ∀ (H3 : Hp) (pd : List Int), Same H H3 → H3 pw = some (.lst ((walkL n).map V.int)) → H3 pP = some (.lst (pd.map V.int)) → H3 dS = some (.dK kvs) → pd.length ≤ i + 1 → okX U ((walkL n).drop (i + 1)) pd (p :: seen) = true →
            ∃ (pend seen : List Int) (kvs' : List (Key × V)) (v : Option V), [some (V.ref a), some (.ref pP), some (.ref dS), some (.int p)] = [some (.ref a), some (.ref pP), some (.ref dS), v] ∧ Same H (upd H3 dS (.dK (putK kvs (Sum.inl p) (.bl true)))) ∧
              (upd H3 dS (.dK (putK kvs (Sum.inl p) (.bl true)))) pw = some (.lst ((walkL n).map V.int)) ∧ (upd H3 dS (.dK (putK kvs (Sum.inl p) (.bl true)))) pP = some (.lst (pend.map V.int)) ∧
              (upd H3 dS (.dK (putK kvs (Sum.inl p) (.bl true)))) dS = some (.dK kvs') ∧ (∀ z : Int, (valV kvs' (Sum.inl z)).isSome = seen.contains z) ∧ kvs'.length ≤ i + 1 ∧ pend.length ≤ i + 1 ∧ okX U ((walkL n).drop (i + 1)) pend seen = true := by
          intro H3 pd s3 w3 p3 d3 hl3 o3
          refine ⟨pd, p :: seen, _, _, rfl, fun b o e => ?_, by rw [upd_ne n2]; exact w3, by rw [upd_ne nPS]; exact p3, upd_same, fun z => ?_, ?_, hl3, o3⟩
          · rw [upd_ne (ne_of_none e hf1)]
            exact s3 b o e
          · rw [valV_put]
            by_cases e : z = p
            · subst e
              simp
            · have e2 : ¬ (Sum.inl z : Key) = Sum.inl p := fun q => e (Sum.inl.inj q)
              rw [if_neg e2, hk z, List.contains_cons]
              have e3 : (z == p) = false := by simpa using e
              rw [e3, Bool.false_or]
          · unfold putK
            split
            · rw [List.length_map]; omega
            · rw [List.length_append, List.length_singleton]; omega
        -- if partners[point] not in seen
        refine ⟨_, rfl, _, rfl, a, _, _, _, rfl, rfl, same_tup s2 hU, at_ix hq, _, rfl, dS, _, rfl, DGet.k (k := Sum.inl q) hd2, _, rfl, ?_⟩
        rw [hk q]
        cases hc : seen.contains q with
        | false =>
          rw [hc, if_neg Bool.false_ne_true] at ho
          refine iteT ?_
          refine ⟨_, rfl, .inl ⟨rfl, _, .of hp2⟩, _, rfl, pP, _, _, rfl, rfl, hp2, line_lt (by rw [List.length_map]; omega), ?_⟩
          refine ⟨_, rfl, _, rfl, dS, _, rfl, DPut.k (k := Sum.inl p) (kvs := kvs) (by rw [upd_ne nPS.symm]; exact hd2) (line_lt (by omega)), ?_⟩
          refine fin _ (pend ++ [p]) (fun b o e => ?_) (by rw [upd_ne n1]; exact hw2) (by rw [upd_same, List.map_append]; rfl) (by rw [upd_ne nPS.symm]; exact hd2) (by rw [List.length_append, List.length_singleton]; omega) ho
          rw [upd_ne (ne_of_none e hf0)]
          exact s2 b o e
        | true =>
          rw [hc, if_pos rfl] at ho
          cases hg : pend.getLast? with
          | none => rw [hg] at ho; cases ho
          | some z =>
            rw [hg] at ho
            simp only [Bool.and_eq_true, beq_iff_eq] at ho
            obtain ⟨ez, ho⟩ := ho
            subst ez
            refine iteF ?_
            refine ⟨_, rfl, .inl ⟨rfl, _, .of hp2⟩, pP, _, _, rfl, rfl, hp2, last_at hg, ?_⟩
            have s3 : Same H (upd H2 pP (.lst (pend.map V.int).dropLast)) := fun b o e => by
              rw [upd_ne (ne_of_none e hf0)]
              exact s2 b o e
            refine ⟨_, rfl, _, rfl, a, _, _, _, rfl, rfl, same_tup s3 hU, at_ix hq, rfl, _, rfl, ?_⟩
            refine iteNS rfl ?_
            refine ⟨_, rfl, _, rfl, dS, _, rfl, DPut.k (k := Sum.inl p) (kvs := kvs) (by rw [upd_ne nPS.symm]; exact hd2) (line_lt (by omega)), ?_⟩
            refine fin _ pend.dropLast s3 (by rw [upd_ne n1]; exact hw2) (by rw [upd_same, List.map_dropLast]) (by rw [upd_ne nPS.symm]; exact hd2) (by rw [List.length_dropLast]; omega) ho
    · rintro σ H2 ⟨pend, seen, kvs, v, rfl, s2, _⟩
      exact k H2 s2
end
end K54
namespace K54
open PySem PySem.Spec PyProof.Rows L2
/-! ### is_partners -/
def okP (n : Nat) (U : List Int) : Bool := U.length == 2 * n && (decide (1 ≤ n) && (decide (n ≤ 16) && ((U.all fun x => decide (0 ≤ x) && decide (x < 2 * n)) &&
  (((List.range (2 * n)).all fun i => match at? U i with | none => false | some x => at? U x == some (i : Int) && i != x) && okX U (walkL n) [] []))))
structure PartOk (n : Nat) (U : List Int) : Prop where
  len : U.length = 2 * n
  n1 : 1 ≤ n
  n16 : n ≤ 16
  rng : ∀ x ∈ U, 0 ≤ x ∧ x < 2 * n
  inv : ∀ (i : Nat) (x : Int), U[i]? = some x → at? U x = some (i : Int) ∧ (i : Int) ≠ x
  crs : okX U (walkL n) [] [] = true
theorem okP_ok {n : Nat} {U : List Int} (h : okP n U = true) : PartOk n U := by
  unfold okP at h
  simp only [Bool.and_eq_true, beq_iff_eq, decide_eq_true_eq, List.all_eq_true] at h
  obtain ⟨h1, h2, h3, h4, h5, h6⟩ := h
  refine ⟨h1, h2, h3, h4, fun i x hx => ?_, h6⟩
  have hi : i < 2 * n := by rw [← h1]; exact (List.getElem?_eq_some_iff.mp hx).1
  have q := h5 i (List.mem_range.mpr hi)
  have e : at? U (i : Int) = some x := by
    unfold at?
    rw [if_pos (by omega)]
    exact hx
  rw [e] at q
  simpa using q
section
variable {P : Program} {w : World} {K : PySem.W.Frag} {mg : Str → Option Value} {ex : PySem.W.Frag → Bool} {base : Heap}
def spPart (K : PySem.W.Frag) : Sp := fun vs H Q _ => ∃ (a : Addr) (U : List Int) (n : Nat), vs = [.ref a] ∧ H a = some (.tup (U.map V.int)) ∧ okP n U = true ∧ ∀ H', Same H H' → Q (.bl true) H'
theorem all_true {n : Nat} : ((List.replicate n true).all id) = true := by
  rw [List.all_eq_true]
  intro b hb
  rw [List.eq_of_mem_replicate hb]
  rfl
theorem fm_true (n : Nat) : (List.range n).map (fun _ => V.bl true) = (List.replicate n true).map V.bl := by
  induction n with
  | zero => rfl
  | succ n ih => rw [List.range_succ, List.map_append, ih, List.replicate_succ', List.map_append]; rfl
theorem ok_part (T : Top K mg ex) : FnOk P w K mg base CX0 3 (He.fAd K a_is_partners) (fdOf K a_is_partners) ["value"] (spPart K) := by
  obtain ⟨ds, rd, bd⟩ := b_int1 T
  refine fok T.f_is_partners sc_is_partners (fun vs H Q E h => ?_) (fun cdv A outer s H vs Q E hr h => ?_)
  · obtain ⟨_, _, _, rfl, _⟩ := h
    rfl
  · obtain ⟨a, U, n, rfl, ha, hok, k⟩ := h
    obtain ⟨hl, hn1, hn, hrng, hinv, hx⟩ := okP_ok hok
    have hU : SqT K H a (U.map V.int) := .of ha
    have lenV : (((U.map V.int).length : Nat) : Int) = 2 * n := by rw [List.length_map, hl]; omega
    refine ⟨_, pss_cons (ps_if (PW.pt (pw_or (pt_not (pt_val (pe_callB call_isi (by rfl) T.z_isinstance boot_isinstance (pa_cons (pv 0) (pa_cons (pe_bltn (v := .ty "tuple") (by rfl) T.z_tuple boot_tuple rfl) pa_nil)))))
        (pw_or (pt_cmpR op_eq (pe_op op_mod (pe_callB call_len_seq (by rfl) T.z_len PySem.boot_len (pa_cons (pv 0) pa_nil)) pe_int) pe_int (nomark _))
        (pw_or1 (pt_not (pt_val (pe_call (ok_cols T) (hr.mono (by decide)) (by rfl) T.g_is_columns T.f_is_columns.kp T.b_is_columns .nil pass0 (pa_cons (pe_op op_fdiv (pe_callB call_len_seq (by rfl) T.z_len PySem.boot_len (pa_cons (pv 0) pa_nil)) pe_int) pa_nil)))))))) (pss_one (ps_ret pe_bl)) pss_nil)
      (pss_cons (ps_if (pt_not (pt_val (pe_callB (cr_all rfl) (by rfl) T.z_all boot_all (pa_cons (pe_lc (own := [("point", 1)]) (g := gName 1) (tt := tYes) rfl sc_is_partners.nd (pi_tup (pv 0)) (blkOk_by (own := [("point", 1)]) (N := ["value", "point", "index"]) (sc := defScope s_is_partners) (by decide +kernel))
          (fun _ _ _ _ _ => pg_name (i := 1) sc_is_partners.nd rfl (Or.inl rfl)) (fun _ _ _ _ _ => pts_nil)
          (fun _ _ _ _ _ => pe_and (pe_call (ok_int T) (hr.mono (by decide)) (by rfl) T.g_is_integer T.f_is_integer.kp bd rd pass0 (pa_cons (pv 1) pa_nil)) (pe_one (pe_cmpR op_lt (pv 1) (pe_callB (len_K K) (by rfl) T.z_len PySem.boot_len (pa_cons (pv 0) pa_nil)) (nomark _))))) pa_nil)))) (pss_one (ps_ret pe_bl)) pss_nil)
      (pss_one (ps_ret (pe_and (pe_callB (cr_all rfl) (by rfl) T.z_all boot_all (pa_cons (pe_lc (own := [("point", 1), ("index", 2)]) (g := gTup K 2 (gCons (gName 2) (gCons (gName 1) gNil))) (tt := tYes) rfl sc_is_partners.nd (pi_enumT (by rfl) T.z_enumerate (pa_cons (pv 0) pa_nil))
          (blkOk_by (own := [("point", 1), ("index", 2)]) (N := ["value", "point", "index"]) (sc := defScope s_is_partners) (by decide +kernel))
          (fun _ _ _ _ _ => pg_tup rfl (pgs_cons (pg_name (i := 2) sc_is_partners.nd rfl (Or.inl rfl)) (pgs_cons (pg_name (i := 1) sc_is_partners.nd rfl (Or.inl rfl)) pgs_nil))) (fun _ _ _ _ _ => pts_nil)
          (fun _ _ _ _ _ => pe_chain op_eq op_ne (pe_ix (ixt_K K) (pv 0) (pv 1) (fun _ _ => rfl)) (pv 2) (pv 1))) pa_nil))
        (pe_one (pe_not (pe_call (ok_cross T) (hr.mono (by decide)) (by rfl) T.g_has_crossing T.f_has_crossing.kp T.b_has_crossing .nil pass0 (pa_cons (pv 0) pa_nil)))))))), ?_⟩
    -- the first if
    refine ⟨_, rfl, _, _, _, _, true, rfl, .ty _, .base (.tup ha), kit_ty (by decide +kernel), _, rfl, iteF ?_⟩
    refine ⟨_, rfl, a, _, rfl, .inr hU, _, _, rfl, rfl, (by show (0 : Int) < 2; decide), rfl, _, rfl, ?_⟩
    have e0 : decide (V.int ((((U.map V.int).length : Nat) : Int) % 2) = V.int 1) = false := by
      rw [lenV]
      refine decide_eq_false fun z => ?_
      injection z with z
      omega
    show ite (decide (V.int ((((U.map V.int).length : Nat) : Int) % 2) = V.int 1) = true) _ _
    rw [e0]
    refine iteF ?_
    refine ⟨_, rfl, a, _, rfl, .inr hU, _, _, rfl, rfl, ⟨by decide, by decide⟩, n, ?_, _, rfl, ?_⟩
    · have e : (((U.map V.int).length : Nat) : Int) / 2 = (n : Int) := by omega
      show ([V.int ((((U.map V.int).length : Nat) : Int) / 2)] : List V) = [V.int n]
      rw [e]
    rw [decide_eq_true (show (1 : Int) ≤ n by omega), decide_eq_true (show (n : Int) ≤ 16 by omega)]
    refine iteF ?_
    -- all([is_integer(point) and point < len(value) for point in value])
    refine ⟨_, rfl, a, rfl, ⟨_, hU⟩, fun D hD => lc_goY walk_tup (by rw [List.length_map]; omega) (fun _ => .bl true) hD (fun H2 s2 => same_tup s2 hU) ?_ ?_⟩
    · rintro i x H2 H3 Kt hi s2 ⟨rfl, hxi⟩ kt
      obtain ⟨z, hz, rfl⟩ := ints_at hxi
      obtain ⟨hz0, hz1⟩ := hrng z (List.mem_of_getElem? hz)
      refine ⟨rfl, ?_⟩
      refine ⟨_, rfl, z, 0, rfl, _, rfl, ?_⟩
      rw [decide_eq_true hz0]
      refine iteT ?_
      refine ⟨_, rfl, _, rfl, a, _, rfl, .inr (same_tup s2 hU), _, _, rfl, rfl, ?_⟩
      show Kt (.bl (decide (z < (((U.map V.int).length : Nat) : Int)))) H3
      rw [decide_eq_true (show z < (((U.map V.int).length : Nat) : Int) by omega)]
      exact kt _ (Same.refl _)
    intro H1 s1 hD1
    rw [fm_true] at hD1
    refine ⟨D, _, rfl, .of hD1, _, rfl, ?_⟩
    rw [all_true]
    refine iteF ?_
    -- all([value[point] == index != point ..])
    have hU1 := same_tup s1 hU
    refine ⟨_, rfl, a, _, rfl, hU1, fun D2 hD2 => lc_goY walk_enumT (by rw [List.length_map]; omega) (fun _ => .bl true) hD2 (fun H2 s2 => same_tup s2 hU1) ?_ ?_⟩
    · rintro i x H2 H3 Kt hi s2 ⟨t, x1, y1, rfl, ht, rfl, e1, e2⟩ kt
      cases e1
      obtain ⟨z, hz, rfl⟩ := ints_at e2
      obtain ⟨hi1, hi2⟩ := hinv i z hz
      refine ⟨t, _, rfl, .of upd_same, rfl, _, _, rfl, _, _, rfl, rfl, rfl, ?_⟩
      have sH : Same H1 (upd H2 t (.tup [.int (i : Nat), .int z])) := same_new s2 ht
      refine ⟨_, rfl, _, rfl, a, _, _, _, rfl, rfl, same_tup sH hU1, at_ix hi1, _, rfl, rfl, _, rfl, ?_⟩
      rw [decide_eq_true rfl]
      refine iteT ⟨_, rfl, rfl, ?_⟩
      have e4 : decide (V.int ((i : Nat) : Int) = V.int z) = false := decide_eq_false fun q => hi2 (by injection q)
      rw [e4]
      exact kt _ (same_new (Same.refl _) ht)
    intro H4 s4 hD4
    rw [fm_true] at hD4
    refine ⟨D2, _, rfl, .of hD4, _, rfl, ?_⟩
    rw [all_true]
    refine iteT ?_
    refine ⟨_, rfl, a, U, n, rfl, same_tup (s1.trans s4) hU, hl, hn, hx, fun H5 s5 => ⟨_, rfl, ?_⟩⟩
    exact k H5 ((s1.trans s4).trans s5)
end
end K54
namespace K54
open PySem PySem.Spec PyProof.Rows L2
/-! ### a Diagram on the heap -/
abbrev cDia (K : PySem.W.Frag) : Addr := He.ga K "Diagram"
def dF (t : Addr) (n : Nat) : List (Str × V) := [("ends", .ref t), ("width", .int (n : Nat))]
theorem dF_put (t : Addr) (n : Nat) : putF "width" (.int (n : Nat)) (putF "ends" (.ref t) []) = dF t n := by kernel_rfl
theorem dF_ends (t : Addr) (n : Nat) : (dF t n).lookup ("ends" : Str) = some (.ref t) := by kernel_rfl
theorem dF_width (t : Addr) (n : Nat) : (dF t n).lookup ("width" : Str) = some (.int (n : Nat)) := by kernel_rfl
theorem dF_columns (t : Addr) (n : Nat) : (dF t n).lookup ("columns" : Str) = none := by kernel_rfl
theorem dF_partners (t : Addr) (n : Nat) : (dF t n).lookup ("partners" : Str) = none := by kernel_rfl
theorem dF_partner (t : Addr) (n : Nat) : (dF t n).lookup ("partner" : Str) = none := by kernel_rfl
structure DiaAt (K : PySem.W.Frag) (H : Hp) (a : Addr) (n : Nat) (U : List Int) : Prop where
  ob : ∃ dx t, H a = some (.ins (cDia K) dx (dF t n)) ∧ H t = some (.tup (U.map V.int))
  ok : PartOk n U
theorem DiaAt.same {K : PySem.W.Frag} {H H' : Hp} {a : Addr} {n : Nat} {U : List Int} (d : DiaAt K H a n U) (s : Same H H') : DiaAt K H' a n U :=
  ⟨let ⟨dx, t, h1, h2⟩ := d.ob; ⟨dx, t, s _ _ h1, s _ _ h2⟩, d.ok⟩
section
variable {P : Program} {w : World} {K : PySem.W.Frag} {mg : Str → Option Value} {ex : PySem.W.Frag → Bool} {base : Heap}
def spDInit (K : PySem.W.Frag) : Sp := fun vs H Q _ => ∃ (p dx t : Addr) (n : Nat) (U : List Int), vs = [.ref p, .ref t] ∧ H p = some (.ins (cDia K) dx []) ∧ H t = some (.tup (U.map V.int)) ∧ okP n U = true ∧
  ∀ H', (∀ b o, b ≠ p → H b = some o → H' b = some o) → H' p = some (.ins (cDia K) dx (dF t n)) → Q .non H'
theorem ok_dinit (T : Top K mg ex) : FnOk P w K mg base CX0 4 (He.fAd K a_Diagram_init) (fdOf K a_Diagram_init) ["self", "partners"] (spDInit K) := by
  refine fok T.f_Diagram_init sc_Diagram_init (fun vs H Q E h => ?_) (fun cdv A outer s H vs Q E hr h => ?_)
  · obtain ⟨_, _, _, _, _, rfl, _⟩ := h
    rfl
  · obtain ⟨p, dx, t, n, U, rfl, hp, ht, hok, k⟩ := h
    refine ⟨_, pss_cons (ps_if (pt_not (pt_val (pe_call (ok_part T) hr (by rfl) T.g_is_partners T.f_is_partners.kp T.b_is_partners .nil pass0 (pa_cons (pv 1) pa_nil)))) (pss_one ps_never) pss_nil)
      (pss_cons (ps_fld (pv 0) (pv 1) rfl)
      (pss_one (ps_fld (pv 0) (pe_op op_fdiv (pe_callB call_len_seq (by rfl) T.z_len PySem.boot_len (pa_cons (pv 1) pa_nil)) pe_int) rfl))), ?_⟩
    refine ⟨_, rfl, t, U, n, rfl, ht, hok, fun H1 s1 => ⟨_, rfl, iteF ?_⟩⟩
    have ne : t ≠ p := ne_of ht hp (by intro z; cases z)
    refine ⟨_, rfl, _, rfl, p, _, dx, [], rfl, s1 _ _ hp, T.cl_Diagram, T.no_Diagram_ends, (by show 0 < 1000; decide), ?_⟩
    refine ⟨_, rfl, t, _, rfl, .inr (.of (by rw [upd_ne ne]; exact s1 _ _ ht)), _, _, rfl, rfl, ⟨by decide, by decide⟩, ?_⟩
    have e : (((U.map V.int).length : Nat) : Int) / 2 = ((n : Nat) : Int) := by
      rw [List.length_map, (okP_ok hok).len]
      omega
    refine ⟨_, rfl, p, _, dx, _, rfl, upd_same, T.cl_Diagram, T.no_Diagram_width, (by show 1 < 1000; decide), ?_⟩
    refine k _ (fun b o hb q => ?_) ?_
    · rw [upd_ne hb, upd_ne hb]
      exact s1 b o q
    · rw [upd_same]
      show some (HO.ins (cDia K) dx (putF "width" (.int ((((U.map V.int).length : Nat) : Int) / 2)) (putF "ends" (.ref t) []))) = _
      rw [e, dF_put]
def spCol (K : PySem.W.Frag) : Sp := fun vs H Q _ => ∃ (a : Addr) (n : Nat) (U : List Int), vs = [.ref a] ∧ DiaAt K H a n U ∧ Q (.int (n : Nat)) H
theorem ok_col (T : Top K mg ex) : FnOk P w K mg base CX0 1 (He.ma K (cDia K) "columns") (fdOf K a_Diagram_columns) ["self"] (spCol K) := by
  refine fok T.f_Diagram_columns sc_Diagram_columns (fun vs H Q E h => ?_) (fun cdv A outer s H vs Q E hr h => ?_)
  · obtain ⟨_, _, _, rfl, _⟩ := h
    rfl
  · obtain ⟨a, n, U, rfl, d, k⟩ := h
    obtain ⟨dx, t, h1, h2⟩ := d.ob
    exact ⟨_, pss_one (ps_ret (pe_fld (pv 0) rfl)), _, rfl, a, _, dx, _, _, rfl, h1, T.cl_Diagram, T.no_Diagram_width, dF_width _ _, k⟩
def spPtrs (K : PySem.W.Frag) : Sp := fun vs H Q _ => ∃ (a : Addr) (n : Nat) (U : List Int), vs = [.ref a] ∧ DiaAt K H a n U ∧ ∀ t, H t = some (.tup (U.map V.int)) → Q (.ref t) H
theorem ok_ptrs (T : Top K mg ex) : FnOk P w K mg base CX0 1 (He.ma K (cDia K) "partners") (fdOf K a_Diagram_partners) ["self"] (spPtrs K) := by
  refine fok T.f_Diagram_partners sc_Diagram_partners (fun vs H Q E h => ?_) (fun cdv A outer s H vs Q E hr h => ?_)
  · obtain ⟨_, _, _, rfl, _⟩ := h
    rfl
  · obtain ⟨a, n, U, rfl, d, k⟩ := h
    obtain ⟨dx, t, h1, h2⟩ := d.ob
    exact ⟨_, pss_one (ps_ret (pe_fld (pv 0) rfl)), _, rfl, a, _, dx, _, _, rfl, h1, T.cl_Diagram, T.no_Diagram_ends, dF_ends _ _, k t h2⟩
def spPtr (K : PySem.W.Frag) : Sp := fun vs H Q _ => ∃ (a : Addr) (n : Nat) (U : List Int) (p q : Int), vs = [.ref a, .int p] ∧ DiaAt K H a n U ∧ at? U p = some q ∧ Q (.int q) H
theorem ok_ptr (T : Top K mg ex) : FnOk P w K mg base CX0 2 (He.ma K (cDia K) "partner") (fdOf K a_Diagram_partner) ["self", "point"] (spPtr K) := by
  obtain ⟨ds, rd, bd⟩ := b_int1 T
  refine fok T.f_Diagram_partner sc_Diagram_partner (fun vs H Q E h => ?_) (fun cdv A outer s H vs Q E hr h => ?_)
  · obtain ⟨_, _, _, _, _, rfl, _⟩ := h
    rfl
  · obtain ⟨a, n, U, p, q, rfl, d, hq, k⟩ := h
    obtain ⟨dx, t, h1, h2⟩ := d.ob
    have hp : 0 ≤ p ∧ p < ((U.map V.int).length : Nat) := by
      unfold at? at hq
      split at hq
      · rename_i h0
        have z := (List.getElem?_eq_some_iff.mp hq).1
        rw [List.length_map]
        omega
      · cases hq
    refine ⟨_, pss_cons (ps_if (PW.pt (pw_or (pt_not (pt_val (pe_call (ok_int T) hr (by rfl) T.g_is_integer T.f_is_integer.kp bd rd pass0 (pa_cons (pv 1) pa_nil))))
        (pw_or1 (pt_cmpR op_ge (pv 1) (pe_callB call_len_seq (by rfl) T.z_len PySem.boot_len (pa_cons (pe_fld (pv 0) rfl) pa_nil)) (nomark _))))) (pss_one ps_never) pss_nil)
      (pss_one (ps_ret (pe_ix ix_tup (pe_fld (pv 0) rfl) (pv 1) (fun _ _ => rfl)))), ?_⟩
    refine ⟨_, rfl, p, 0, rfl, _, rfl, ?_⟩
    rw [decide_eq_true hp.1]
    refine iteF ?_
    refine ⟨_, rfl, _, rfl, a, _, dx, _, _, rfl, h1, T.cl_Diagram, T.no_Diagram_ends, dF_ends _ _, t, _, rfl, .inr (.of h2), _, _, rfl, rfl, _, rfl, ?_⟩
    refine ite2 (fun z => absurd (of_decide_eq_true z) (by omega)) fun _ => ?_
    exact ⟨_, rfl, a, _, dx, _, _, rfl, h1, T.cl_Diagram, T.no_Diagram_ends, dF_ends _ _, _, rfl, t, _, _, _, rfl, rfl, .of h2, at_ix hq, k⟩
end
end K54
namespace K54
open PySem PySem.Spec PyProof.Rows L2
/-! ### lists of pairs of ints on the heap -/
def IsPair (H : Hp) (p : Int × Int) (y : V) : Prop := ∃ t, y = .ref t ∧ H t = some (.tup [.int p.1, .int p.2])
theorem IsPair.same {H H' : Hp} {p : Int × Int} {y : V} (s : Same H H') (h : IsPair H p y) : IsPair H' p y := let ⟨t, e, q⟩ := h; ⟨t, e, s _ _ q⟩
theorem IsPair.upd_lst {H : Hp} {p : Int × Int} {y : V} {D : Addr} {xs ys : List V} (e : H D = some (.lst ys)) (h : IsPair H p y) : IsPair (upd H D (.lst xs)) p y :=
  let ⟨t, et, q⟩ := h; ⟨t, et, by rw [upd_ne (ne_of q e (by intro z; cases z))]; exact q⟩
def PairsAt (H : Hp) (l : Addr) (ps : List (Int × Int)) : Prop := ∃ acc, H l = some (.lst acc) ∧ Rel2 (IsPair H) ps acc
theorem PairsAt.same {H H' : Hp} {l : Addr} {ps : List (Int × Int)} (s : Same H H') (h : PairsAt H l ps) : PairsAt H' l ps := let ⟨acc, e, r⟩ := h; ⟨acc, s _ _ e, r.imp fun _ _ q => q.same s⟩
/-! ### from_arcs -/
def arcStep (U : List Int) (p : Int × Int) : List Int := (U.set p.1.toNat p.2).set p.2.toNat p.1
def arcsM (n : Nat) (ps : List (Int × Int)) : List Int := ps.foldl arcStep (List.replicate (2 * n) 0)
theorem arcStep_len (U : List Int) (p : Int × Int) : (arcStep U p).length = U.length := by unfold arcStep; rw [List.length_set, List.length_set]
theorem arcs_len (n : Nat) (ps : List (Int × Int)) : (arcsM n ps).length = 2 * n := by
  unfold arcsM
  have key : ∀ (ps : List (Int × Int)) (U : List Int), (ps.foldl arcStep U).length = U.length := by
    intro ps
    induction ps with
    | nil => intro U; rfl
    | cons p ps ih => intro U; rw [List.foldl_cons, ih, arcStep_len]
  rw [key, List.length_replicate]
theorem arcs_snoc {n i : Nat} {ps : List (Int × Int)} {p : Int × Int} (h : ps[i]? = some p) : arcsM n (ps.take (i + 1)) = arcStep (arcsM n (ps.take i)) p := by
  unfold arcsM
  rw [List.take_succ, h, List.foldl_append]
  rfl
theorem rep_flat (n : Nat) : (List.replicate n [V.int 0]).flatten = (List.replicate n (0 : Int)).map V.int := by
  induction n with
  | zero => rfl
  | succ n ih => rw [List.replicate_succ, List.flatten_cons, ih, List.replicate_succ]; rfl
theorem ixN_ok {k : Int} {n : Nat} (h0 : 0 ≤ k) (h1 : k < n) : ixN n k = some k.toNat := by
  unfold ixN
  rw [if_pos h0, if_pos h1]
def inR (n : Nat) (ps : List (Int × Int)) : Prop := ∀ p ∈ ps, (0 ≤ p.1 ∧ p.1 < 2 * n) ∧ 0 ≤ p.2 ∧ p.2 < 2 * n
section
variable {P : Program} {w : World} {K : PySem.W.Frag} {mg : Str → Option Value} {ex : PySem.W.Frag → Bool} {base : Heap}
def spFrom (K : PySem.W.Frag) : Sp := fun vs H Q _ => ∃ (n : Nat) (l : Addr) (ps : List (Int × Int)), vs = [.int (n : Nat), .ref l] ∧ PairsAt H l ps ∧ ps.length ≤ 100 ∧ inR n ps ∧ okP n (arcsM n ps) = true ∧ ∀ a H', Same H H' → DiaAt K H' a n (arcsM n ps) → Q (.ref a) H'
theorem ok_from (T : Top K mg ex) : FnOk P w K mg base CX0 6 (He.fAd K a_from_arcs) (fdOf K a_from_arcs) ["columns", "arcs"] (spFrom K) := by
  refine fok T.f_from_arcs sc_from_arcs (fun vs H Q E h => ?_) (fun cdv A outer s H vs Q E hr h => ?_)
  · obtain ⟨_, _, _, rfl, _⟩ := h
    rfl
  · obtain ⟨n, l, ps, rfl, hps, hlen, hin, hok, k⟩ := h
    have GI : FnOk P w K mg base CX0 4 (He.ma K (cDia K) "__init__") (fdOf K a_Diagram_init) ["self", "partners"] (spDInit K) := ok_dinit T
    have n16 := (okP_ok hok).n16
    refine ⟨_, pss_cons (ps_set (i := 2) sc_from_arcs.nd rfl (Or.inl rfl) (pe_op op_rep (pe_lst (pa_cons pe_int pa_nil)) (pe_op op_mul pe_int (pv 0))))
      (pss_cons (ps_for PassesOwn.never rfl (pi_list (pv 1)) (pg_tup rfl (pgs_cons (pg_name (i := 3) sc_from_arcs.nd rfl (Or.inl rfl)) (pgs_cons (pg_name (i := 4) sc_from_arcs.nd rfl (Or.inl rfl)) pgs_nil)))
        (pss_one (ps_asg (pe_tup (pa_cons (pv 4) (pa_cons (pv 3) pa_nil))) (pg_tup rfl (pgs_cons (pg_sub (pv 2) (pv 3) set_list) (pgs_cons (pg_sub (pv 2) (pv 4) set_list) pgs_nil))))))
      (pss_one (ps_ret (pe_make T.mk_Diagram GI (hr.mono (by decide)) (by rfl) T.g_Diagram T.b_Diagram_init .nil pass0 (pa_cons (pe_callTy call_tuple_of (by rfl) T.z_tuple boot_tuple (pa_cons (pv 2) pa_nil)) pa_nil))))), ?_⟩
    refine ⟨(by show 1 ≤ sizeLine; decide), fun z hz => ⟨_, rfl, _, _, rfl, rfl, .inl ⟨by omega, by omega⟩, z, _, _, rfl, rfl, upd_same, by omega, by omega, line_of (by simp; omega), fun u hu => ?_⟩⟩
    have s0 : Same H (upd (upd H z (.lst [.int 0])) u (.lst (List.replicate (2 * (n : Int)).toNat [V.int 0]).flatten)) := same_new (same_new (Same.refl _) hz) hu
    have hu0 : H u = none := Same.free (same_new (Same.refl _) hz) hu
    obtain ⟨acc, hacc, hrel⟩ := hps
    have nul : l ≠ u := ne_of_none hacc hu0
    have lenA : acc.length = ps.length := hrel.1.symm
    refine ⟨_, rfl, l, rfl, ⟨_, .of (s0 _ _ hacc)⟩, for_list (K := K) (a := l) (xs := acc) (fun i σ H2 => ∃ (v1 v2 : Option V), σ = [some (.int (n : Nat)), some (.ref l), some (.ref u), v1, v2] ∧ Same H H2 ∧ H2 u = some (.lst ((arcsM n (ps.take i)).map V.int)))
      ⟨none, none, rfl, s0, ?_⟩ (fun i σ H2 _ ⟨_, _, _, s2, _⟩ => .of (s2 _ _ hacc)) ?_ ?_⟩
    · rw [upd_same, rep_flat]
      have e : (2 * (n : Int)).toNat = 2 * n := by omega
      rw [e]
      rfl
    · rintro i y σ H2 hi ⟨v1, v2, rfl, s2, h2⟩
      obtain ⟨p, hp, t, rfl, ht⟩ := hrel.at_right hi
      obtain ⟨⟨a1, a2⟩, b1, b2⟩ := hin p (List.mem_of_getElem? hp)
      have len2 : ∀ (V' : List Int), V'.length = 2 * n → ∀ (q : Int), 0 ≤ q → q < 2 * n → ixN (V'.map V.int).length q = some q.toNat := fun V' e q q0 q1 => ixN_ok q0 (by rw [List.length_map, e]; omega)
      have lenU := arcs_len n (ps.take i)
      refine ⟨t, _, rfl, .of (s2 _ _ ht), rfl, _, _, rfl, _, _, rfl, rfl, ?_⟩
      refine ⟨_, rfl, _, rfl, (by show 2 ≤ sizeLine; decide), fun t2 ht2 => ?_⟩
      have nut : u ≠ t2 := ne_of_none h2 ht2
      refine ⟨t2, _, rfl, .of upd_same, rfl, _, _, rfl, _, rfl, _, rfl, u, _, _, _, rfl, rfl, by rw [upd_ne nut]; exact h2, len2 _ lenU _ a1 a2, ?_⟩
      refine ⟨_, _, rfl, _, rfl, _, rfl, u, _, _, _, rfl, rfl, upd_same, (by rw [List.length_set]; exact len2 _ lenU _ b1 b2), rfl, ?_⟩
      refine ⟨_, _, rfl, fun b o e => ?_, ?_⟩
      · rw [upd_ne (ne_of_none e hu0), upd_ne (ne_of_none e hu0), upd_ne (ne_of_none (s2 _ _ e) ht2)]
        exact s2 _ _ e
      · rw [upd_same, arcs_snoc hp]
        unfold arcStep
        rw [List.map_set, List.map_set]
    · rintro σ H2 ⟨v1, v2, rfl, s2, h2⟩
      rw [lenA, List.take_length] at h2
      refine ⟨_, rfl, u, _, rfl, .inl ⟨.of h2, fun t ht => ?_⟩⟩
      intro x dx hx hdx ndx
      have s3 : Same H (upd H2 t (.tup ((arcsM n ps).map V.int))) := same_new s2 ht
      have ntx : t ≠ x := ne_of_none upd_same hx
      have ntd : t ≠ dx := ne_of_none upd_same hdx
      refine ⟨x, dx, t, n, arcsM n ps, rfl, upd_same, by rw [upd_ne ntx, upd_ne ntd]; exact upd_same, hok, fun H5 k5 h5 => ⟨rfl, ?_⟩⟩
      have s5 : Same H H5 := fun b o e => by
        have e3 := s3 _ _ e
        refine k5 b o (ne_of_none e3 hx) ?_
        rw [upd_ne (ne_of_none e3 hx), upd_ne (ne_of_none e3 hdx)]
        exact e3
      exact k x H5 s5 ⟨⟨dx, t, h5, k5 _ _ ntx (by rw [upd_ne ntx, upd_ne ntd]; exact upd_same)⟩, okP_ok hok⟩
/-! ### identity, generator -/
def idArcs (n : Nat) : List (Int × Int) := (List.range n).map fun c : Nat => ((c : Int), (n : Int) + c)
def spIdent (K : PySem.W.Frag) : Sp := fun vs H Q _ => ∃ (n : Nat), vs = [.int (n : Nat)] ∧ 1 ≤ n ∧ n ≤ 16 ∧ okP n (arcsM n (idArcs n)) = true ∧ ∀ a H', Same H H' → DiaAt K H' a n (arcsM n (idArcs n)) → Q (.ref a) H'
theorem ok_ident (T : Top K mg ex) : FnOk P w K mg base CX0 7 (He.fAd K a_identity) (fdOf K a_identity) ["columns"] (spIdent K) := by
  refine fok T.f_identity sc_identity (fun vs H Q E h => ?_) (fun cdv A outer s H vs Q E hr h => ?_)
  · obtain ⟨_, rfl, _⟩ := h
    rfl
  · obtain ⟨n, rfl, h1, h2, hok, k⟩ := h
    refine ⟨_, pss_cons (ps_expr (pe_call (ok_check T) (hr.mono (by decide)) (by rfl) T.g_check_columns T.f_check_columns.kp T.b_check_columns .nil pass0 (pa_cons (pv 0) pa_nil)))
      (pss_one (ps_ret (pe_call (ok_from T) hr (by rfl) T.g_from_arcs T.f_from_arcs.kp T.b_from_arcs .nil pass0 (pa_cons (pv 0) (pa_cons
        (pe_lc (own := [("column", 1)]) (g := gName 1) (tt := tYes) rfl sc_identity.nd (pi_range1 (by rfl) T.z_range (pa_cons (pv 0) pa_nil)) (blkOk_by (own := [("column", 1)]) (N := ["columns", "column"]) (sc := defScope s_identity) (by decide +kernel))
          (fun _ _ _ _ _ => pg_name (i := 1) sc_identity.nd rfl (Or.inl rfl)) (fun _ _ _ _ _ => pts_nil) (fun _ _ _ _ _ => pe_tup (pa_cons (pv 1) (pa_cons (pe_op op_add (pv 0) (pv 1)) pa_nil)))) pa_nil))))), ?_⟩
    refine ⟨_, rfl, n, rfl, by omega, by omega, ?_⟩
    refine ⟨_, rfl, _, rfl, n, rfl, by omega, by omega, fun D hD => lc_goR walk_range (by omega) (fun i y H => IsPair H ((i : Int), (n : Int) + i) y) (fun i y H H' s q => q.same s) hD (fun _ _ => trivial) (fun i y H xs ys e q => q.upd_lst e) ?_ ?_⟩
    · rintro i x H2 H3 Kt hi s2 ⟨rfl, rfl⟩ kt
      refine ⟨rfl, _, rfl, _, rfl, _, rfl, _, _, rfl, rfl, (by show 2 ≤ sizeLine; decide), fun t ht => kt _ _ (same_new (Same.refl _) ht) ⟨t, rfl, ?_⟩⟩
      rw [upd_same]
      show some (HO.tup [.int (0 + (i : Nat)), .int ((n : Int) + (0 + (i : Nat)))]) = _
      rw [Int.zero_add]
    · intro H2 acc s2 hD2 r
      rw [Int.toNat_natCast] at r
      have hin : inR n (idArcs n) := by
        intro p hp
        obtain ⟨c, hc, rfl⟩ := List.mem_map.mp hp
        have := List.mem_range.mp hc
        exact ⟨⟨by simp only; omega, by simp only; omega⟩, by simp only; omega, by simp only; omega⟩
      refine ⟨n, D, idArcs n, rfl, ⟨acc, hD2, r.map_left fun a b q => q⟩, by unfold idArcs; rw [List.length_map, List.length_range]; omega, hin, hok, fun a H' s3 d => k a H' (s2.trans s3) d⟩
def genArcs (n l : Nat) : List (Int × Int) := ((List.range n).filter fun c => c != l && c != l + 1).map (fun c : Nat => ((c : Int), (n : Int) + c)) ++ [((l : Int), (l : Int) + 1), ((n : Int) + l, (n : Int) + l + 1)]
def spGen (K : PySem.W.Frag) : Sp := fun vs H Q _ => ∃ (n l : Nat), vs = [.int (n : Nat), .int (l : Nat)] ∧ l + 2 ≤ n ∧ n ≤ 16 ∧ okP n (arcsM n (genArcs n l)) = true ∧ ∀ a H', Same H H' → DiaAt K H' a n (arcsM n (genArcs n l)) → Q (.ref a) H'
theorem inV_pair (c l : Nat) : inV (.int (c : Int)) [.int (l : Int), .int ((l : Int) + 1)] = !(c != l && c != l + 1) := by
  have e1 : ((l : Int) == (c : Int)) = (c == l) := by
    rw [Bool.eq_iff_iff]
    simp
    omega
  have e2 : ((l : Int) + 1 == (c : Int)) = (c == l + 1) := by
    rw [Bool.eq_iff_iff]
    simp
    omega
  show (((l : Int) == (c : Int)) || (((l : Int) + 1 == (c : Int)) || false)) = _
  rw [e1, e2]
  cases h1 : (c == l) <;> cases h2 : (c == l + 1) <;> simp [bne, h1, h2]
theorem ok_gen (T : Top K mg ex) : FnOk P w K mg base CX0 7 (He.fAd K a_generator) (fdOf K a_generator) ["columns", "letter"] (spGen K) := by
  obtain ⟨ds, rd, bd⟩ := b_int1 T
  refine fok T.f_generator sc_generator (fun vs H Q E h => ?_) (fun cdv A outer s H vs Q E hr h => ?_)
  · obtain ⟨_, _, rfl, _⟩ := h
    rfl
  · obtain ⟨n, l, rfl, h1, h2, hok, k⟩ := h
    refine ⟨_, pss_cons (ps_expr (pe_call (ok_check T) (hr.mono (by decide)) (by rfl) T.g_check_columns T.f_check_columns.kp T.b_check_columns .nil pass0 (pa_cons (pv 0) pa_nil)))
      (pss_cons (ps_if (PW.pt (pw_or (pt_not (pt_val (pe_call (ok_int T) (hr.mono (by decide)) (by rfl) T.g_is_integer T.f_is_integer.kp bd rd pass0 (pa_cons (pv 1) pa_nil))))
        (pw_or1 (pt_cmpR op_gt (pv 1) (pe_op op_sub (pv 0) pe_int) (nomark _))))) (pss_one ps_never) pss_nil)
      (pss_cons (ps_setLc (i := 2) (own := [("column", 3)]) (g := gName 3) rfl sc_generator.nd rfl rfl (sw_true rfl rfl rfl (by decide +kernel)) (pi_range1 (by rfl) T.z_range (pa_cons (pv 0) pa_nil)) (blkOk_by (own := [("column", 3)]) (N := ["columns", "letter", "arcs", "column"]) (sc := defScope s_generator) (by decide +kernel))
          (fun _ _ _ _ _ => pg_name (i := 3) sc_generator.nd rfl (Or.inl rfl))
          (fun _ _ _ _ _ => pts_one (pt_cmpR (notin_K K) (pv 3) (pe_tup (pa_cons (pv 1) (pa_cons (pe_op op_add (pv 1) pe_int) pa_nil))) (by rfl)))
          (fun _ _ _ _ _ => pe_tup (pa_cons (pv 3) (pa_cons (pe_op op_add (pv 0) (pv 3)) pa_nil))))
      (pss_one (ps_ret (pe_call (ok_from T) hr (by rfl) T.g_from_arcs T.f_from_arcs.kp T.b_from_arcs .nil pass0 (pa_cons (pv 0) (pa_cons (pe_op op_cat (pv 2) (pe_lst (pa_cons (pe_tup (pa_cons (pv 1) (pa_cons (pe_op op_add (pv 1) pe_int) pa_nil)))
        (pa_cons (pe_tup (pa_cons (pe_op op_add (pv 0) (pv 1)) (pa_cons (pe_op op_add (pe_op op_add (pv 0) (pv 1)) pe_int) pa_nil))) pa_nil)))) pa_nil))))))), ?_⟩
    refine ⟨_, rfl, n, rfl, by omega, by omega, ?_⟩
    refine ⟨_, rfl, _, _, rfl, _, rfl, ?_⟩
    rw [decide_eq_true (show (0 : Int) ≤ (l : Int) by omega)]
    refine iteF ⟨_, rfl, _, rfl, _, _, rfl, rfl, _, _, rfl, rfl, _, rfl, ite2 (fun z => absurd (of_decide_eq_true z) (by omega)) fun _ => ?_⟩
    refine ⟨_, rfl, n, rfl, by omega, by omega, fun D hD => lc_goF walk_range (by omega) (fun c => c != l && c != l + 1) (fun i y H => IsPair H ((i : Int), (n : Int) + i) y) (fun i y H H' s q => q.same s) hD (fun _ _ => trivial) (fun i y H xs ys e q => q.upd_lst e) ?_ ?_⟩
    · rintro i x H2 H3 Kt Kf hi s2 ⟨rfl, rfl⟩ kt kf
      refine ⟨rfl, _, rfl, _, rfl, _, rfl, _, _, rfl, rfl, (by show 2 ≤ sizeLine; decide), fun t ht => ?_⟩
      refine ⟨t, _, rfl, .inr (.of upd_same), rfl, rfl, _, rfl, ?_⟩
      show ite ((!inV (.int (0 + (i : Nat))) [.int (l : Int), .int ((l : Int) + 1)]) = true) _ _
      rw [Int.zero_add, inV_pair, Bool.not_not]
      cases hk : (i != l && i != l + 1) with
      | false => exact iteF (kf _ hk (same_new (Same.refl _) ht))
      | true =>
        refine iteT ⟨_, rfl, _, rfl, _, rfl, _, _, rfl, rfl, (by show 2 ≤ sizeLine; decide), fun t2 ht2 => kt _ _ hk (same_new (same_new (Same.refl _) ht) ht2) ⟨t2, rfl, ?_⟩⟩
        rw [upd_same]
        show some (HO.tup [.int (0 + (i : Nat)), .int ((n : Int) + (0 + (i : Nat)))]) = _
        rw [Int.zero_add]
    · intro H2 acc s2 hD2 r
      rw [Int.toNat_natCast] at r
      refine ⟨_, rfl, _, rfl, ?_⟩
      refine ⟨_, rfl, _, rfl, _, _, rfl, rfl, (by show 2 ≤ sizeLine; decide), fun t1 ht1 => ?_⟩
      refine ⟨_, rfl, _, rfl, _, _, rfl, rfl, _, rfl, _, rfl, _, _, rfl, rfl, _, _, rfl, rfl, (by show 2 ≤ sizeLine; decide), fun t2 ht2 => ?_⟩
      refine ⟨(by show 2 ≤ sizeLine; decide), fun q hq => ?_⟩
      have s3 : Same H2 (upd (upd H2 t1 (.tup [.int (l : Int), .int ((l : Int) + 1)])) t2 (.tup [.int ((n : Int) + l), .int ((n : Int) + l + 1)])) := same_new (same_new (Same.refl _) ht1) ht2
      have hq1 := same_new s3 (o := .lst [.ref t1, .ref t2]) hq
      have la : acc.length ≤ 16 := by
        rw [← r.1]
        have := List.length_filter_le (fun c => c != l && c != l + 1) (List.range n)
        rw [List.length_range] at this
        omega
      refine ⟨D, q, _, _, rfl, rfl, hq1 _ _ hD2, upd_same, line_of (by show acc.length + 2 ≤ _; omega), fun z hz => ?_⟩
      have hin : inR n (genArcs n l) := by
        intro p hp
        rcases List.mem_append.mp hp with hp | hp
        · obtain ⟨c, hc, rfl⟩ := List.mem_map.mp hp
          have := List.mem_range.mp (List.mem_filter.mp hc).1
          exact ⟨⟨by simp only; omega, by simp only; omega⟩, by simp only; omega, by simp only; omega⟩
        · simp at hp
          rcases hp with rfl | rfl
          · exact ⟨⟨by simp only; omega, by simp only; omega⟩, by simp only; omega, by simp only; omega⟩
          · exact ⟨⟨by simp only; omega, by simp only; omega⟩, by simp only; omega, by simp only; omega⟩
      have s4 := same_new hq1 (o := .lst (acc ++ [.ref t1, .ref t2])) hz
      have n12 : t1 ≠ t2 := ne_of_none upd_same ht2
      have a1 : upd (upd H2 t1 (.tup [.int (l : Int), .int ((l : Int) + 1)])) t2 (.tup [.int ((n : Int) + l), .int ((n : Int) + l + 1)]) t1 = some (.tup [.int (l : Int), .int ((l : Int) + 1)]) := by rw [upd_ne n12, upd_same]
      have s5 : Same (upd (upd H2 t1 (.tup [.int (l : Int), .int ((l : Int) + 1)])) t2 (.tup [.int ((n : Int) + l), .int ((n : Int) + l + 1)])) (upd (upd (upd (upd H2 t1 (.tup [.int (l : Int), .int ((l : Int) + 1)])) t2 (.tup [.int ((n : Int) + l), .int ((n : Int) + l + 1)])) q (.lst [.ref t1, .ref t2])) z (.lst (acc ++ [.ref t1, .ref t2]))) := same_new (same_new (Same.refl _) hq) hz
      refine ⟨n, z, genArcs n l, rfl, ⟨_, upd_same, ?_⟩, ?_, hin, hok, fun a H' s6 d => k a H' (s2.trans (s4.trans s6)) d⟩
      · refine ((r.imp fun k v q => IsPair.same s4 q).map_left fun a b q => q).append ?_
        exact (Rel2.nil.snoc (a := ((l : Int), (l : Int) + 1)) (b := V.ref t1) ⟨t1, rfl, s5 _ _ a1⟩).snoc (a := ((n : Int) + l, (n : Int) + l + 1)) (b := V.ref t2) ⟨t2, rfl, s5 _ _ upd_same⟩
      · unfold genArcs
        rw [List.length_append, List.length_map, r.1]
        show acc.length + 2 ≤ 100
        omega
end
end K54
namespace K54
open PySem PySem.Spec PyProof.Rows L2
/-! ### one path through two diagrams -/
def pathM : Nat → Nat → List Int → List Int → Int → Bool → List Int → Option (Option Int × List Int)
  | 0, _, _, _, _, _, _ => none
  | f + 1, n, U, L, p, b, passed => match at? (if b then U else L) p with
    | none => none
    | some e => if (decide (e < (n : Int)) == b) = true then some (some e, passed) else
      (let c := if b then e - n else e
       if passed.contains c = true then some (none, passed) else pathM f n U L (if !b then c + n else c) (!b) (passed ++ [c]))
def optV : Option Int → V
  | none => .non
  | some i => .int i
theorem inV_ints (c : Int) (l : List Int) : inV (.int c) (l.map V.int) = l.contains c := by
  unfold inV
  rw [List.any_map]
  show l.any (fun y => y == c) = l.contains c
  rw [List.contains_eq_any_beq]
  congr 1
  funext y
  rw [Bool.eq_iff_iff]
  simp
  exact ⟨fun e => e.symm, fun e => e.symm⟩
theorem flat_ints (l : List Int) : (l.map V.int).all flatV = true := by
  rw [List.all_eq_true]
  intro y hy
  obtain ⟨z, _, rfl⟩ := List.mem_map.mp hy
  rfl
section
variable {P : Program} {w : World} {K : PySem.W.Frag} {mg : Str → Option Value} {ex : PySem.W.Frag → Bool} {base : Heap}
def spSameC (K : PySem.W.Frag) : Sp := fun vs H Q _ => ∃ (a b : Addr) (n : Nat) (U L : List Int), vs = [.ref a, .ref b] ∧ DiaAt K H a n U ∧ DiaAt K H b n L ∧ Q .non H
theorem ok_samec (T : Top K mg ex) : FnOk P w K mg base CX0 2 (He.fAd K a_check_same_columns) (fdOf K a_check_same_columns) ["diagram", "other"] (spSameC K) := by
  refine fok T.f_check_same_columns sc_check_same_columns (fun vs H Q E h => ?_) (fun cdv A outer s H vs Q E hr h => ?_)
  · obtain ⟨_, _, _, _, _, rfl, _⟩ := h
    rfl
  · obtain ⟨a, b, n, U, L, rfl, da, db, k⟩ := h
    obtain ⟨dx, t, h1, h2⟩ := da.ob
    obtain ⟨dx2, t2, h3, h4⟩ := db.ob
    refine ⟨_, pss_one (ps_if (pt_cmpR op_ne (pe_meth0 (pv 0) T.cl_Diagram T.me_Diagram_columns (ok_col T) hr T.b_Diagram_columns .nil pass0) (pe_meth0 (pv 1) T.cl_Diagram T.me_Diagram_columns (ok_col T) hr T.b_Diagram_columns .nil pass0) (nomark _)) (pss_one ps_never) pss_nil), ?_⟩
    exact ⟨_, rfl, a, dx, _, rfl, h1, dF_columns _ _, a, n, U, rfl, da, _, rfl, b, dx2, _, rfl, h3, dF_columns _ _, b, n, L, rfl, db, rfl, _, rfl, iteNS rfl k⟩
def spPath (K : PySem.W.Frag) : Sp := fun vs H Q _ => ∃ (u l : Addr) (n f : Nat) (U L : List Int) (p : Int) (b : Bool) (r : Option Int × List Int), vs = [.ref u, .ref l, .int p, .bl b] ∧ DiaAt K H u n U ∧ DiaAt K H l n L ∧ pathM f n U L p b [] = some r ∧ f ≤ 1000 ∧
  ∀ t q H', Same H H' → H q = none → H' q = some (.lst (r.2.map V.int)) → H' t = some (.tup [optV r.1, .ref q]) → Q (.ref t) H'
theorem ok_path (T : Top K mg ex) : FnOk P w K mg base CX0 3 (He.fAd K a_path_from) (fdOf K a_path_from) ["upper", "lower", "start", "is_above"] (spPath K) := by
  refine fok T.f_path_from sc_path_from (fun vs H Q E h => ?_) (fun cdv A outer s H vs Q E hr h => ?_)
  · obtain ⟨_, _, _, _, _, _, _, _, _, rfl, _⟩ := h
    rfl
  · obtain ⟨u, l, n, f, U, L, p0, b0, r, rfl, dU, dL, hm, hf, k⟩ := h
    have GP : FnOk P w K mg base CX0 2 (He.ma K (cDia K) "partner") (fdOf K a_Diagram_partner) ["self", "point"] (spPtr K) := ok_ptr T
    refine ⟨_, pss_cons (ps_set (i := 4) sc_path_from.nd rfl (Or.inl rfl) (pe_meth0 (pv 0) T.cl_Diagram T.me_Diagram_columns (ok_col T) (hr.mono (by decide)) T.b_Diagram_columns .nil pass0))
      (pss_cons (ps_par3 (i := 5) (j := 6) (l := 7) rfl sc_path_from.nd rfl rfl rfl (by decide) (by decide) (by decide) rfl rfl rfl (pa_cons (pv 2) (pa_cons (pv 3) (pa_cons (pe_lst pa_nil) pa_nil))) (by rfl))
      (pss_one (ps_while PassesOwn.never (pt_val pe_bl)
        (pss_cons (ps_set (i := 8) sc_path_from.nd rfl (Or.inl rfl) (pe_ifExp (pt_val (pv 6)) (pe_meth (pv 0) T.cl_Diagram T.me_Diagram_partner GP hr T.b_Diagram_partner .nil pass0 (pa_cons (pv 5) pa_nil))
            (pe_meth (pv 1) T.cl_Diagram T.me_Diagram_partner GP hr T.b_Diagram_partner .nil pass0 (pa_cons (pv 5) pa_nil))))
        (pss_cons (ps_if (pt_cmpR op_eq (pe_cmpR op_lt (pv 8) (pv 4) (nomark _)) (pv 6) (nomark _)) (pss_one (ps_ret (pe_tup (pa_cons (pv 8) (pa_cons (pv 7) pa_nil))))) pss_nil)
        (pss_cons (ps_set (i := 9) sc_path_from.nd rfl (Or.inl rfl) (pe_ifExp (pt_val (pv 6)) (pe_op op_sub (pv 8) (pv 4)) (pv 8)))
        (pss_cons (ps_if (pt_cmpR op_in_seq (pv 9) (pv 7) (by rfl)) (pss_one (ps_ret (pe_tup (pa_cons pe_non (pa_cons (pv 7) pa_nil))))) pss_nil)
        (pss_cons (ps_expr (pe_bm PySem.F.plainAttrs_list PySem.F.slot_list_append PySem.F.type_list_append mt_append (pv 7) (pa_cons (pv 9) pa_nil)))
        (pss_cons (ps_set (i := 6) sc_path_from.nd rfl (Or.inl rfl) (pe_not (pv 6)))
        (pss_one (ps_set (i := 5) sc_path_from.nd rfl (Or.inl rfl) (pe_ifExp (pt_val (pv 6)) (pe_op op_add (pv 9) (pv 4)) (pv 9))))))))))))), ?_⟩
    obtain ⟨dx, t, h1, h2⟩ := dU.ob
    obtain ⟨dx2, t2, h3, h4⟩ := dL.ob
    refine ⟨_, rfl, u, dx, _, rfl, h1, dF_columns _ _, u, n, U, rfl, dU, ?_⟩
    refine ⟨_, rfl, _, rfl, Nat.zero_le _, fun q hq => ⟨_, _, _, rfl, ?_⟩⟩
    refine ⟨fun m σ H2 => ∃ (p : Int) (b : Bool) (passed : List Int) (v8 v9 : Option V), σ = [some (.ref u), some (.ref l), some (.int p0), some (.bl b0), some (.int (n : Nat)), some (.int p), some (.bl b), some (.ref q), v8, v9] ∧ Same H H2 ∧ H2 q = some (.lst (passed.map V.int)) ∧
      pathM m n U L p b passed = some r ∧ passed.length + m ≤ 1000, ⟨f, p0, b0, [], none, none, rfl, same_new (Same.refl _) hq, upd_same, hm, by simpa using hf⟩, ?_⟩
    rintro m σ H2 ⟨p, b, passed, v8, v9, rfl, s2, hq2, hpm, hle⟩
    refine ⟨_, rfl, iteT ?_⟩
    cases m with
    | zero => cases hpm
    | succ m =>
      unfold pathM at hpm
      refine ⟨fun σ' H' => ∃ (p : Int) (b : Bool) (passed : List Int) (v8 v9 : Option V), σ' = [some (.ref u), some (.ref l), some (.int p0), some (.bl b0), some (.int (n : Nat)), some (.int p), some (.bl b), some (.ref q), v8, v9] ∧ Same H H' ∧ H' q = some (.lst (passed.map V.int)) ∧
        pathM m n U L p b passed = some r ∧ passed.length + m ≤ 1000, fun σ' H' z => ⟨m, Nat.lt_succ_self _, z⟩, ?_⟩
      have dU2 := dU.same s2
      have dL2 := dL.same s2
      cases he : at? (if b then U else L) p with
      | none => rw [he] at hpm; cases hpm
      | some e =>
        rw [he] at hpm
        simp only at hpm
        have hU1 := s2 _ _ h1
        have hL1 := s2 _ _ h3
        have ret : ∀ (v8 v9 : V) (σ3 : L2.St) (o : Option Int), some (o, passed) = some r → ∀ t, H2 t = none → Q (.ref t) (upd H2 t (.tup [optV o, .ref q])) := fun _ _ _ o e t ht => by
          cases e
          exact k t q _ (same_new s2 ht) hq (by rw [upd_ne (ne_of_none hq2 ht)]; exact hq2) upd_same
        refine ⟨_, rfl, _, rfl, ?_⟩
        cases b with
        | false =>
          refine iteF ⟨_, rfl, l, dx2, _, rfl, hL1, dF_partner _ _, _, rfl, l, n, L, p, e, rfl, dL2, he, ?_⟩
          refine ⟨_, rfl, _, rfl, _, _, rfl, rfl, _, rfl, rfl, _, rfl, ?_⟩
          show ite (decide (V.bl (decide (e < (n : Int))) = V.bl false) = true) _ _
          rw [dec_bl]
          cases hc : (decide (e < (n : Int)) == false) with
          | true =>
            rw [hc, if_pos rfl] at hpm
            refine iteT ⟨_, rfl, _, rfl, (by show 2 ≤ sizeLine; decide), fun t ht => ret .non .non [] (some e) hpm t ht⟩
          | false =>
            rw [hc, if_neg Bool.false_ne_true] at hpm
            refine iteF ⟨_, rfl, _, rfl, iteF ?_⟩
            refine ⟨_, rfl, ?_⟩
            refine ⟨_, rfl, _, rfl, q, _, rfl, .inl (.of hq2), rfl, flat_ints _, _, rfl, ?_⟩
            show ite (inV (.int (e)) (passed.map V.int) = true) _ _
            rw [inV_ints]
            have hpm' : (if passed.contains (e) = true then some (none, passed) else pathM m n U L (e + (n : Int)) true (passed ++ [e])) = some r := hpm
            cases hk : passed.contains (e) with
            | true =>
              rw [hk, if_pos rfl] at hpm'
              exact iteT ⟨_, rfl, (by show 2 ≤ sizeLine; decide), fun t ht => ret .non .non [] none hpm' t ht⟩
            | false =>
              rw [hk, if_neg Bool.false_ne_true] at hpm'
              refine iteF ⟨_, rfl, .inl ⟨rfl, _, .of hq2⟩, _, rfl, q, _, _, rfl, rfl, hq2, line_lt (by rw [List.length_map]; omega), ?_⟩
              refine ⟨_, rfl, _, rfl, ?_⟩
              refine ⟨_, rfl, _, rfl, iteT ?_⟩
              refine ⟨_, rfl, _, rfl, _, _, rfl, rfl, ?_⟩
              refine ⟨e + (n : Int), true, passed ++ [e], _, _, rfl, fun b o e => ?_, by rw [upd_same, List.map_append]; rfl, hpm', by rw [List.length_append, List.length_singleton]; omega⟩
              rw [upd_ne (ne_of_none e hq)]
              exact s2 b o e
        | true =>
          refine iteT ⟨_, rfl, u, dx, _, rfl, hU1, dF_partner _ _, _, rfl, u, n, U, p, e, rfl, dU2, he, ?_⟩
          refine ⟨_, rfl, _, rfl, _, _, rfl, rfl, _, rfl, rfl, _, rfl, ?_⟩
          show ite (decide (V.bl (decide (e < (n : Int))) = V.bl true) = true) _ _
          rw [dec_bl]
          cases hc : (decide (e < (n : Int)) == true) with
          | true =>
            rw [hc, if_pos rfl] at hpm
            refine iteT ⟨_, rfl, _, rfl, (by show 2 ≤ sizeLine; decide), fun t ht => ret .non .non [] (some e) hpm t ht⟩
          | false =>
            rw [hc, if_neg Bool.false_ne_true] at hpm
            refine iteF ⟨_, rfl, _, rfl, iteT ?_⟩
            refine ⟨_, rfl, _, rfl, _, _, rfl, rfl, ?_⟩
            refine ⟨_, rfl, _, rfl, q, _, rfl, .inl (.of hq2), rfl, flat_ints _, _, rfl, ?_⟩
            show ite (inV (.int (e - (n : Int))) (passed.map V.int) = true) _ _
            rw [inV_ints]
            have hpm' : (if passed.contains (e - (n : Int)) = true then some (none, passed) else pathM m n U L (e - (n : Int)) false (passed ++ [e - (n : Int)])) = some r := hpm
            cases hk : passed.contains (e - (n : Int)) with
            | true =>
              rw [hk, if_pos rfl] at hpm'
              exact iteT ⟨_, rfl, (by show 2 ≤ sizeLine; decide), fun t ht => ret .non .non [] none hpm' t ht⟩
            | false =>
              rw [hk, if_neg Bool.false_ne_true] at hpm'
              refine iteF ⟨_, rfl, .inl ⟨rfl, _, .of hq2⟩, _, rfl, q, _, _, rfl, rfl, hq2, line_lt (by rw [List.length_map]; omega), ?_⟩
              refine ⟨_, rfl, _, rfl, ?_⟩
              refine ⟨_, rfl, _, rfl, iteF ?_⟩
              refine ⟨_, rfl, ?_⟩
              refine ⟨e - (n : Int), false, passed ++ [e - (n : Int)], _, _, rfl, fun b o e => ?_, by rw [upd_same, List.map_append]; rfl, hpm', by rw [List.length_append, List.length_singleton]; omega⟩
              rw [upd_ne (ne_of_none e hq)]
              exact s2 b o e
end
end K54
namespace K54
open PySem PySem.Spec PyProof.Rows L2
/-! ### stacking, as a function -/
theorem path_le : ∀ (f n : Nat) (U L : List Int) (p : Int) (b : Bool) (ps : List Int) (r : Option Int × List Int), pathM f n U L p b ps = some r → r.2.length ≤ ps.length + f
  | 0, _, _, _, _, _, _, _, h => by cases h
  | f + 1, n, U, L, p, b, ps, r, h => by
    unfold pathM at h
    cases he : at? (if b then U else L) p with
    | none => rw [he] at h; cases h
    | some e =>
      rw [he] at h
      simp only at h
      by_cases h1 : (decide (e < (n : Int)) == b) = true
      · rw [if_pos h1] at h
        cases h
        exact Nat.le_add_right _ _
      · rw [if_neg h1] at h
        by_cases h2 : ps.contains (if b then e - n else e) = true
        · rw [if_pos h2] at h
          cases h
          exact Nat.le_add_right _ _
        · rw [if_neg h2] at h
          have q := path_le f n U L _ _ _ r h
          rw [List.length_append, List.length_singleton] at q
          omega
def foldO {α β : Type} (f : α → β → Option α) : List β → α → Option α
  | [], a => some a
  | b :: r, a => match f a b with
    | none => none
    | some c => foldO f r c
def st1 (n : Nat) (U L : List Int) (s : List (Int × Int) × List Int) (p : Nat) : Option (List (Int × Int) × List Int) := match pathM (2 * n + 2) n U L (p : Int) (decide ((p : Int) < (n : Int))) [] with
  | some (some e, ps) => some (if (p : Int) < e then s.1 ++ [((p : Int), e)] else s.1, s.2 ++ ps)
  | _ => none
def st2 (n : Nat) (U L : List Int) (s : List Int × Nat) (c : Nat) : Option (List Int × Nat) := if s.1.contains (c : Int) = true then some s else match pathM (2 * n + 2) n U L (c : Int) false [] with
  | some r => some (s.1 ++ r.2, s.2 + 1)
  | none => none
def inRB (n : Nat) (ps : List (Int × Int)) : Bool := ps.all fun p => decide (0 ≤ p.1) && (decide (p.1 < 2 * n) && (decide (0 ≤ p.2) && decide (p.2 < 2 * n)))
theorem inRB_ok {n : Nat} {ps : List (Int × Int)} (h : inRB n ps = true) : inR n ps := fun p hp => by
  have q := List.all_eq_true.mp h p hp
  simp only [Bool.and_eq_true, decide_eq_true_eq] at q
  exact ⟨⟨q.1, q.2.1⟩, q.2.2.1, q.2.2.2⟩
def stackM (n : Nat) (U L : List Int) : Option (List Int × Nat) := match foldO (st1 n U L) (List.range (2 * n)) ([], []) with
  | none => none
  | some a => match foldO (st2 n U L) (List.range n) (a.2, 0) with
    | none => none
    | some b => if (inRB n a.1 && okP n (arcsM n a.1)) = true then some (arcsM n a.1, b.2) else none
theorem range_drop {n i : Nat} (h : i < n) : (List.range n).drop i = i :: (List.range n).drop (i + 1) := by
  rw [List.drop_eq_getElem_cons (by simpa using h)]
  simp
section
variable {P : Program} {w : World} {K : PySem.W.Frag} {mg : Str → Option Value} {ex : PySem.W.Frag → Bool} {base : Heap}
def spStack (K : PySem.W.Frag) : Sp := fun vs H Q _ => ∃ (u l : Addr) (n : Nat) (U L R : List Int) (k : Nat), vs = [.ref u, .ref l] ∧ DiaAt K H u n U ∧ DiaAt K H l n L ∧ stackM n U L = some (R, k) ∧
  ∀ t a H', Same H H' → DiaAt K H' a n R → H' t = some (.tup [.ref a, .int (k : Nat)]) → Q (.ref t) H'
theorem ok_stack (T : Top K mg ex) : FnOk P w K mg base CX0 7 (He.fAd K a_stack) (fdOf K a_stack) ["upper", "lower"] (spStack K) := by
  refine fok T.f_stack sc_stack (fun vs H Q E h => ?_) (fun cdv A outer s H vs Q E hr h => ?_)
  · obtain ⟨_, _, _, _, _, _, _, rfl, _⟩ := h
    rfl
  · obtain ⟨u, l, n, U, L, R, kl, rfl, dU, dL, hm, k⟩ := h
    have n16 := dU.ok.n16
    unfold stackM at hm
    cases ha : foldO (st1 n U L) (List.range (2 * n)) ([], []) with
    | none => rw [ha] at hm; cases hm
    | some fa =>
    rw [ha] at hm
    simp only at hm
    cases hb : foldO (st2 n U L) (List.range n) (fa.2, 0) with
    | none => rw [hb] at hm; cases hm
    | some fb =>
    rw [hb] at hm
    simp only at hm
    cases hc : (inRB n fa.1 && okP n (arcsM n fa.1)) with
    | false => rw [hc, if_neg Bool.false_ne_true] at hm; cases hm
    | true =>
    rw [hc, if_pos rfl] at hm
    obtain ⟨hin, hok⟩ := Bool.and_eq_true_iff.mp hc
    injection hm with hm
    injection hm with eR ek
    refine ⟨_, pss_cons (ps_expr (pe_call (ok_samec T) (hr.mono (by decide)) (by rfl) T.g_check_same_columns T.f_check_same_columns.kp T.b_check_same_columns .nil pass0 (pa_cons (pv 0) (pa_cons (pv 1) pa_nil))))
      (pss_cons (ps_set (i := 2) sc_stack.nd rfl (Or.inl rfl) (pe_meth0 (pv 0) T.cl_Diagram T.me_Diagram_columns (ok_col T) (hr.mono (by decide)) T.b_Diagram_columns .nil pass0))
      (pss_cons (ps_par3 (i := 3) (j := 4) (l := 5) rfl sc_stack.nd rfl rfl rfl (by decide) (by decide) (by decide) rfl rfl rfl (pa_cons (pe_lst pa_nil) (pa_cons (pe_lst pa_nil) (pa_cons pe_int pa_nil))) (by rfl))
      (pss_cons (ps_for PassesOwn.never rfl (pi_range1 (by rfl) T.z_range (pa_cons (pe_op op_mul pe_int (pv 2)) pa_nil)) (pg_name (i := 6) sc_stack.nd rfl (Or.inl rfl))
        (pss_cons (ps_asg (pe_call (ok_path T) (hr.mono (by decide)) (by rfl) T.g_path_from T.f_path_from.kp T.b_path_from .nil pass0 (pa_cons (pv 0) (pa_cons (pv 1) (pa_cons (pv 6) (pa_cons (pe_cmpR op_lt (pv 6) (pv 2) (nomark _)) pa_nil)))))
            (pg_tup rfl (pgs_cons (pg_name (i := 7) sc_stack.nd rfl (Or.inl rfl)) (pgs_cons (pg_name (i := 8) sc_stack.nd rfl (Or.inl rfl)) pgs_nil))))
        (pss_cons (ps_expr (pe_bm PySem.F.plainAttrs_list PySem.F.slot_list_extend PySem.F.type_list_extend mt_extend (pv 4) (pa_cons (pv 8) pa_nil)))
        (pss_one (ps_if (pt_cmpR op_lt (pv 6) (pv 7) (nomark _)) (pss_one (ps_expr (pe_bm PySem.F.plainAttrs_list PySem.F.slot_list_append PySem.F.type_list_append mt_append (pv 3) (pa_cons (pe_tup (pa_cons (pv 6) (pa_cons (pv 7) pa_nil))) pa_nil)))) pss_nil)))))
      (pss_cons (ps_for PassesOwn.never rfl (pi_range1 (by rfl) T.z_range (pa_cons (pv 2) pa_nil)) (pg_name (i := 9) sc_stack.nd rfl (Or.inl rfl))
        (pss_one (ps_if (pt_cmpR op_notIn_seq (pv 9) (pv 4) (by rfl))
          (pss_cons (ps_expr (pe_bm PySem.F.plainAttrs_list PySem.F.slot_list_extend PySem.F.type_list_extend mt_extend (pv 4) (pa_cons (pe_ix ix_tup (pe_call (ok_path T) (hr.mono (by decide)) (by rfl) T.g_path_from T.f_path_from.kp T.b_path_from .nil pass0
              (pa_cons (pv 0) (pa_cons (pv 1) (pa_cons (pv 9) (pa_cons pe_bl pa_nil))))) pe_int (fun _ _ => rfl)) pa_nil)))
          (pss_one (ps_aug (i := 5) sc_stack.nd rfl (Or.inl rfl) pe_int ip_add))) pss_nil)))
      (pss_one (ps_ret (pe_tup (pa_cons (pe_call (ok_from T) hr (by rfl) T.g_from_arcs T.f_from_arcs.kp T.b_from_arcs .nil pass0 (pa_cons (pv 2) (pa_cons (pv 3) pa_nil))) (pa_cons (pv 5) pa_nil))))))))), ?_⟩
    obtain ⟨dx, t, h1, h2⟩ := dU.ob
    refine ⟨_, rfl, _, rfl, u, l, n, U, L, rfl, dU, dL, ?_⟩
    refine ⟨_, rfl, u, dx, _, rfl, h1, dF_columns _ _, u, n, U, rfl, dU, ?_⟩
    refine ⟨Nat.zero_le _, fun pA hA => ⟨Nat.zero_le _, fun pS hS => ⟨_, _, _, rfl, ?_⟩⟩⟩
    have nAS : pA ≠ pS := ne_of_none upd_same hS
    have fA : H pA = none := hA
    have fS : H pS = none := Same.free (same_new (Same.refl _) hA) hS
    have s0 : Same H (upd (upd H pA (.lst [])) pS (.lst [])) := same_new (same_new (Same.refl _) hA) hS
    refine ⟨_, rfl, _, _, rfl, rfl, .inl ⟨by omega, by omega⟩, _, rfl, by omega, by omega, ?_⟩
    have en : (2 * (n : Int)).toNat = 2 * n := by omega
    show ∃ W : Nat → Nat → L2.St → Hp → Prop, _
    refine for_range (lo := 0) (n := (2 * (n : Int)).toNat) (fun i σ H2 => ∃ (cur : List (Int × Int) × List Int) (v6 v7 v8 : Option V), σ = [some (.ref u), some (.ref l), some (.int (n : Nat)), some (.ref pA), some (.ref pS), some (.int 0), v6, v7, v8, none] ∧ Same H H2 ∧
      PairsAt H2 pA cur.1 ∧ H2 pS = some (.lst (cur.2.map V.int)) ∧ cur.1.length ≤ i ∧ cur.2.length ≤ 40 * i ∧ foldO (st1 n U L) ((List.range (2 * n)).drop i) cur = some fa)
      ⟨([], []), none, none, none, rfl, s0, ⟨[], by rw [upd_ne nAS]; exact upd_same, Rel2.nil⟩, upd_same, Nat.le_refl _, Nat.le_refl _, ha⟩ ?_ ?_
    · rintro i σ H2 hi ⟨cur, v6, v7, v8, rfl, s2, hp, hq, l1, l2, hfo⟩
      rw [en] at hi
      rw [range_drop hi] at hfo
      unfold foldO at hfo
      cases h1 : st1 n U L cur i with
      | none => rw [h1] at hfo; cases hfo
      | some nxt =>
      rw [h1] at hfo
      simp only at hfo
      unfold st1 at h1
      split at h1
      case h_2 => cases h1
      rename_i e ps hpm
      cases h1
      have lps : ps.length ≤ 40 := by
        have q : ps.length ≤ 0 + (2 * n + 2) := path_le _ _ _ _ _ _ _ _ hpm
        omega
      have ei : (0 : Int) + (i : Nat) = (i : Int) := Int.zero_add _
      refine ⟨_, rfl, _, rfl, _, rfl, _, rfl, _, rfl, _, _, rfl, rfl, u, l, n, 2 * n + 2, U, L, (i : Int), decide ((i : Int) < (n : Int)), (some e, ps), ?_, dU.same s2, dL.same s2, hpm, by omega, fun t q H3 s3 hq3 hq4 ht => ?_⟩
      · show [V.ref u, .ref l, .int (0 + (i : Nat)), .bl (decide ((0 + (i : Nat) : Int) < (n : Int)))] = _
        rw [ei]
      obtain ⟨acc, hacc, hrel⟩ := hp
      have nqS : q ≠ pS := (ne_of_none hq hq3).symm
      have nqA : q ≠ pA := (ne_of_none hacc hq3).symm
      refine ⟨t, _, rfl, .of ht, rfl, _, _, rfl, _, _, rfl, rfl, ?_⟩
      refine ⟨_, rfl, .inl ⟨rfl, _, .of (s3 _ _ hq)⟩, _, rfl, pS, q, _, _, rfl, rfl, s3 _ _ hq, hq4, line_of (by rw [List.length_map, List.length_map]; show cur.2.length + ps.length ≤ 100000; omega), ?_⟩
      refine ⟨_, rfl, _, rfl, _, _, rfl, rfl, _, rfl, ?_⟩
      show ite (decide ((0 + (i : Nat) : Int) < e) = true) _ _
      rw [ei]
      have hA4 : upd H3 pS (.lst (cur.2.map V.int ++ ps.map V.int)) pA = some (.lst acc) := by rw [upd_ne nAS]; exact s3 _ _ hacc
      have s4 : Same H (upd H3 pS (.lst (cur.2.map V.int ++ ps.map V.int))) := fun b o z => by
        rw [upd_ne (ne_of_none z fS)]
        exact s3 _ _ (s2 _ _ z)
      have r4 : Rel2 (IsPair (upd H3 pS (.lst (cur.2.map V.int ++ ps.map V.int)))) cur.1 acc := hrel.imp fun a b z => IsPair.upd_lst (s3 _ _ hq) (z.same s3)
      have lacc : acc.length = cur.1.length := hrel.1.symm
      by_cases c : (i : Int) < e
      · rw [decide_eq_true c]
        rw [if_pos c] at hfo
        refine iteT ⟨_, rfl, .inl ⟨rfl, _, .of hA4⟩, _, rfl, _, rfl, (by show 2 ≤ sizeLine; decide), fun t2 ht2 => ?_⟩
        refine ⟨pA, acc, _, rfl, rfl, by rw [upd_ne (ne_of_none hA4 ht2)]; exact hA4, line_lt (by omega), ?_⟩
        have nt2 : t2 ≠ pA := (ne_of_none hA4 ht2).symm
        refine ⟨(cur.1 ++ [((i : Int), e)], cur.2 ++ ps), _, _, _, rfl, fun b o z => ?_, ⟨_, upd_same, ?_⟩, ?_, ?_, ?_, hfo⟩
        · rw [upd_ne (ne_of_none z fA), upd_ne (ne_of_none (s4 _ _ z) ht2)]
          exact s4 _ _ z
        · refine (r4.imp fun a b z => ?_).snoc ⟨t2, rfl, ?_⟩
          · exact IsPair.upd_lst (by rw [upd_ne (ne_of_none hA4 ht2)]; exact hA4) (z.same (same_new (Same.refl _) ht2))
          · rw [upd_ne nt2, upd_same]
            rfl
        · rw [upd_ne nAS.symm, upd_ne (ne_of_none upd_same ht2), upd_same, List.map_append]
        · show (cur.1 ++ [((i : Int), e)]).length ≤ _
          rw [List.length_append, List.length_singleton]; omega
        · show (cur.2 ++ ps).length ≤ _
          rw [List.length_append]; omega
      · rw [decide_eq_false c]
        rw [if_neg c] at hfo
        refine iteF ⟨(cur.1, cur.2 ++ ps), _, _, _, rfl, s4, ⟨acc, hA4, r4⟩, ?_, by simp only; omega, ?_, hfo⟩
        · rw [upd_same, List.map_append]
        · show (cur.2 ++ ps).length ≤ _
          rw [List.length_append]; omega
    rintro σ H2 ⟨cur, v6, v7, v8, rfl, s2, hp, hq, l1, l2, hfo⟩
    have ecur : cur = fa := by
      rw [en] at hfo
      have e : (List.range (2 * n)).drop (2 * n) = [] := List.drop_eq_nil_of_le (by simp)
      rw [e] at hfo
      exact Option.some.inj hfo
    subst ecur
    obtain ⟨acc, hacc, hrel⟩ := hp
    refine ⟨_, rfl, _, rfl, by omega, by omega, ?_⟩
    have en2 : ((n : Nat) : Int).toNat = n := Int.toNat_natCast n
    refine for_range (lo := 0) (n := ((n : Nat) : Int).toNat) (fun i σ H3 => ∃ (c2 : List Int × Nat) (v9 : Option V), σ = [some (.ref u), some (.ref l), some (.int (n : Nat)), some (.ref pA), some (.ref pS), some (.int (c2.2 : Nat)), v6, v7, v8, v9] ∧ Same H H3 ∧
      PairsAt H3 pA cur.1 ∧ H3 pS = some (.lst (c2.1.map V.int)) ∧ c2.1.length ≤ 2000 + 40 * i ∧ foldO (st2 n U L) ((List.range n).drop i) c2 = some fb)
      ⟨(cur.2, 0), none, rfl, s2, ⟨acc, hacc, hrel⟩, hq, by simp only; omega, hb⟩ ?_ ?_
    · rintro i σ H3 hi ⟨c2, v9, rfl, s3, hp3, hq3, l3, hfo3⟩
      rw [en2] at hi
      rw [range_drop hi] at hfo3
      unfold foldO at hfo3
      cases h3 : st2 n U L c2 i with
      | none => rw [h3] at hfo3; cases hfo3
      | some nxt =>
      rw [h3] at hfo3
      simp only at hfo3
      unfold st2 at h3
      have ei : (0 : Int) + (i : Nat) = (i : Int) := Int.zero_add _
      refine ⟨_, rfl, _, rfl, pS, _, rfl, .inl (.of hq3), rfl, flat_ints _, _, rfl, ?_⟩
      show ite ((!inV (.int (0 + (i : Nat))) (c2.1.map V.int)) = true) _ _
      rw [ei, inV_ints]
      cases hk : c2.1.contains (i : Int) with
      | true =>
        rw [hk, if_pos rfl] at h3
        cases h3
        exact iteF ⟨c2, _, rfl, s3, hp3, hq3, by omega, hfo3⟩
      | false =>
        rw [hk, if_neg Bool.false_ne_true] at h3
        cases hpm : pathM (2 * n + 2) n U L (i : Int) false [] with
        | none => rw [hpm] at h3; cases h3
        | some r =>
        rw [hpm] at h3
        cases h3
        have lps : r.2.length ≤ 40 := by
          have q : r.2.length ≤ 0 + (2 * n + 2) := path_le _ _ _ _ _ _ _ _ hpm
          omega
        refine iteT ⟨_, rfl, .inl ⟨rfl, _, .of hq3⟩, _, rfl, _, rfl, _, rfl, u, l, n, 2 * n + 2, U, L, (i : Int), false, r, ?_, dU.same s3, dL.same s3, hpm, by omega, fun t q H4 s4 hq4 hq5 ht => ?_⟩
        · rfl
        refine ⟨t, _, 1, _, rfl, rfl, .of ht, rfl, ?_⟩
        refine ⟨pS, q, _, _, rfl, rfl, s4 _ _ hq3, hq5, line_of (by rw [List.length_map, List.length_map]; omega), ?_⟩
        refine ⟨_, rfl, _, _, rfl, rfl, ?_⟩
        refine ⟨(c2.1 ++ r.2, c2.2 + 1), _, rfl, fun b o z => ?_, ?_, ?_, ?_, hfo3⟩
        · rw [upd_ne (ne_of_none z fS)]
          exact s4 _ _ (s3 _ _ z)
        · obtain ⟨acc3, e3, r3⟩ := hp3
          exact ⟨acc3, by rw [upd_ne nAS]; exact s4 _ _ e3, r3.imp fun a b z => IsPair.upd_lst (s4 _ _ hq3) (z.same s4)⟩
        · rw [upd_same, List.map_append]
        · show (c2.1 ++ r.2).length ≤ _
          rw [List.length_append]
          omega
    · rintro σ H3 ⟨c2, v9, rfl, s3, hp3, hq3, l3, hfo3⟩
      have ec2 : c2 = fb := by
        rw [en2] at hfo3
        have e : (List.range n).drop n = [] := List.drop_eq_nil_of_le (by simp)
        rw [e] at hfo3
        exact Option.some.inj hfo3
      subst ec2
      refine ⟨_, rfl, _, rfl, n, pA, cur.1, rfl, hp3, by rw [en] at l1; omega, inRB_ok hin, hok, fun a H4 s4 d4 => ?_⟩
      refine ⟨_, rfl, (by show 2 ≤ sizeLine; decide), fun t ht => ?_⟩
      refine k t a _ (s3.trans (same_new s4 ht)) ?_ ?_
      · rw [← eR]
        exact d4.same (same_new (Same.refl _) ht)
      · rw [upd_same, ← ek]
end
end K54
namespace K54
open PySem PySem.Spec PyProof.Rows L2
theorem DiaAt.upd_lst {K : PySem.W.Frag} {H : Hp} {a D : Addr} {n : Nat} {U : List Int} {xs ys : List V} (e : H D = some (.lst ys)) (d : DiaAt K H a n U) : DiaAt K (upd H D (.lst xs)) a n U :=
  ⟨let ⟨dx, t, h1, h2⟩ := d.ob; ⟨dx, t, by rw [upd_ne (ne_of h1 e (by intro z; cases z))]; exact h1, by rw [upd_ne (ne_of h2 e (by intro z; cases z))]; exact h2⟩, d.ok⟩
def valStep (n : Nat) (s : List Int × Nat) (G : List Int) : Option (List Int × Nat) := match stackM n s.1 G with
  | some r => some (r.1, s.2 + r.2)
  | none => none
def valS (n : Nat) (Gs : List (List Int)) : Option (List Int × Nat) := foldO (valStep n) Gs (arcsM n (idArcs n), 0)
def genU (n : Nat) (l : Int) : List Int := arcsM n (genArcs n l.toNat)
def valM (n : Nat) (ls : List Int) : Option (List Int × Nat) := valS n (ls.map (genU n))
def IsDia (K : PySem.W.Frag) (n : Nat) (H : Hp) (U : List Int) (y : V) : Prop := ∃ a, y = .ref a ∧ DiaAt K H a n U
section
variable {P : Program} {w : World} {K : PySem.W.Frag} {mg : Str → Option Value} {ex : PySem.W.Frag → Bool} {base : Heap}
def spAll (K : PySem.W.Frag) : Sp := fun vs H Q _ => ∃ (n : Nat) (l : Addr) (acc : List V) (Gs : List (List Int)) (R : List Int) (k : Nat), vs = [.int (n : Nat), .ref l] ∧ 1 ≤ n ∧ n ≤ 16 ∧ H l = some (.lst acc) ∧ Rel2 (IsDia K n H) Gs acc ∧ okP n (arcsM n (idArcs n)) = true ∧ valS n Gs = some (R, k) ∧
  ∀ t a H', Same H H' → DiaAt K H' a n R → H' t = some (.tup [.ref a, .int (k : Nat)]) → Q (.ref t) H'
theorem ok_all (T : Top K mg ex) : FnOk P w K mg base CX0 8 (He.fAd K a_stack_all) (fdOf K a_stack_all) ["columns", "diagrams"] (spAll K) := by
  refine fok T.f_stack_all sc_stack_all (fun vs H Q E h => ?_) (fun cdv A outer s H vs Q E hr h => ?_)
  · obtain ⟨_, _, _, _, _, _, rfl, _⟩ := h
    rfl
  · obtain ⟨n, l, acc, Gs, R, kl, rfl, n1, n16, hl, hrel, hid, hv, k⟩ := h
    refine ⟨_, pss_cons (ps_expr (pe_call (ok_check T) (hr.mono (by decide)) (by rfl) T.g_check_columns T.f_check_columns.kp T.b_check_columns .nil pass0 (pa_cons (pv 0) pa_nil))) <|
      pss_cons (ps_for PassesOwn.never rfl (pi_list (pv 1)) (pg_name (i := 2) sc_stack_all.nd rfl (Or.inl rfl))
        (pss_one (ps_if (pt_cmpR op_ne (pe_meth0 (pv 2) T.cl_Diagram T.me_Diagram_columns (ok_col T) (hr.mono (by decide)) T.b_Diagram_columns .nil pass0) (pv 0) (nomark _)) (pss_one ps_never) pss_nil))) <|
      pss_cons (ps_par (i := 3) (j := 4) rfl sc_stack_all.nd rfl rfl (by decide) rfl rfl (pa_cons (pe_call (ok_ident T) hr (by rfl) T.g_identity T.f_identity.kp T.b_identity .nil pass0 (pa_cons (pv 0) pa_nil)) (pa_cons pe_int pa_nil)) (by rfl)) <|
      pss_cons (ps_for PassesOwn.never rfl (pi_list (pv 1)) (pg_name (i := 2) sc_stack_all.nd rfl (Or.inl rfl))
        (pss_cons (ps_asg (pe_call (ok_stack T) hr (by rfl) T.g_stack T.f_stack.kp T.b_stack .nil pass0 (pa_cons (pv 3) (pa_cons (pv 2) pa_nil)))
            (pg_tup rfl (pgs_cons (pg_name (i := 3) sc_stack_all.nd rfl (Or.inl rfl)) (pgs_cons (pg_name (i := 5) sc_stack_all.nd rfl (Or.inl rfl)) pgs_nil)))) <|
        pss_one (ps_aug (i := 4) sc_stack_all.nd rfl (Or.inl rfl) (pv 5) ip_add))) <|
      pss_one (ps_ret (pe_tup (pa_cons (pv 3) (pa_cons (pv 4) pa_nil)))), ?_⟩
    refine ⟨_, rfl, n, rfl, by omega, by omega, ?_⟩
    refine ⟨_, rfl, l, rfl, ⟨_, .of hl⟩, for_list (K := K) (a := l) (xs := acc) (fun i σ H2 => ∃ v2 : Option V, σ = [some (.int (n : Nat)), some (.ref l), v2, none, none, none] ∧ H2 = H) ⟨none, rfl, rfl⟩ (fun i σ H2 _ ⟨_, _, e⟩ => by rw [e]; exact .of hl) ?_ ?_⟩
    · rintro i y σ H2 hi ⟨v2, rfl, rfl⟩
      obtain ⟨G, hG, a, rfl, da⟩ := hrel.at_right hi
      obtain ⟨dx, t, h1, h2⟩ := da.ob
      refine ⟨_, rfl, a, dx, _, rfl, h1, dF_columns _ _, a, n, G, rfl, da, _, rfl, rfl, _, rfl, iteNS rfl ⟨_, rfl, rfl⟩⟩
    rintro σ H2 ⟨v2, rfl, rfl⟩
    refine ⟨_, rfl, n, rfl, n1, n16, hid, fun a0 H3 s3 d3 => ⟨_, _, rfl, ?_⟩⟩
    refine ⟨_, rfl, l, rfl, ⟨_, .of (s3 _ _ hl)⟩, for_list (K := K) (a := l) (xs := acc) (fun i σ H4 => ∃ (v2 v5 : Option V) (a : Addr) (cur : List Int × Nat), σ = [some (.int (n : Nat)), some (.ref l), v2, some (.ref a), some (.int (cur.2 : Nat)), v5] ∧ Same H2 H4 ∧ DiaAt K H4 a n cur.1 ∧ foldO (valStep n) (Gs.drop i) cur = some (R, kl))
      ⟨v2, none, a0, (_, 0), rfl, s3, d3, hv⟩ (fun i σ H4 _ ⟨_, _, _, _, _, s4, _⟩ => .of (s4 _ _ hl)) ?_ ?_⟩
    · rintro i y σ H4 hi ⟨w2, w5, a, cur, rfl, s4, d4, hf⟩
      obtain ⟨G, hG, b, rfl, db⟩ := hrel.at_right hi
      have ed : Gs.drop i = G :: Gs.drop (i + 1) := by
        have q := (List.getElem?_eq_some_iff.mp hG).1
        rw [List.drop_eq_getElem_cons q]
        congr 1
        exact (List.getElem?_eq_some_iff.mp hG).2
      rw [ed] at hf
      unfold foldO at hf
      cases hs : valStep n cur G with
      | none => rw [hs] at hf; cases hf
      | some nxt =>
      rw [hs] at hf
      simp only at hf
      unfold valStep at hs
      cases hst : stackM n cur.1 G with
      | none => rw [hst] at hs; cases hs
      | some r =>
      rw [hst] at hs
      cases hs
      refine ⟨_, rfl, _, rfl, a, b, n, cur.1, G, r.1, r.2, rfl, d4, db.same s4, hst, fun t a5 H5 s5 d5 ht => ?_⟩
      refine ⟨t, _, rfl, .of ht, rfl, _, _, rfl, _, _, rfl, rfl, ?_⟩
      refine ⟨_, rfl, _, rfl, _, _, rfl, rfl, ?_⟩
      exact ⟨_, _, a5, (r.1, cur.2 + r.2), rfl, s4.trans s5, d5, hf⟩
    · rintro σ H4 ⟨w2, w5, a, cur, rfl, s4, d4, hf⟩
      rw [← hrel.1, List.drop_length] at hf
      cases hf
      refine ⟨_, rfl, _, rfl, (by show 2 ≤ sizeLine; decide), fun t ht => k t a _ (same_new s4 ht) (d4.same (same_new (Same.refl _) ht)) upd_same⟩
def spLet : Sp := fun vs H Q _ => ∃ n v : Int, vs = [.int n, .int v] ∧ Q (.bl (decide (0 ≤ v) && decide (v ≤ n - 2))) H
theorem ok_let (T : Top K mg ex) : FnOk P w K mg base CX0 2 (He.fAd K a_is_letter) (fdOf K a_is_letter) ["columns", "value"] spLet := by
  obtain ⟨ds, rd, bd⟩ := b_int1 T
  refine fok T.f_is_letter sc_is_letter (fun vs H Q E h => ?_) (fun cdv A outer s H vs Q E hr h => ?_)
  · obtain ⟨_, _, rfl, _⟩ := h
    rfl
  · obtain ⟨n, v, rfl, k⟩ := h
    refine ⟨_, pss_one (ps_ret (pe_and (pe_call (ok_int T) hr (by rfl) T.g_is_integer T.f_is_integer.kp bd rd pass0 (pa_cons (pv 1) pa_nil)) (pe_one (pe_cmpR op_le (pv 1) (pe_op op_sub (pv 0) pe_int) (nomark _))))), ?_⟩
    refine ⟨_, rfl, v, 0, rfl, _, rfl, ite2 (fun c => ?_) (fun c => ?_)⟩
    · refine ⟨_, rfl, _, rfl, _, _, rfl, rfl, _, _, rfl, rfl, ?_⟩
      rw [c] at k
      exact k
    · have c' : decide (0 ≤ v) = false := by simpa using c
      rw [c'] at k
      exact k
def spVal (K : PySem.W.Frag) : Sp := fun vs H Q _ => ∃ (n : Nat) (p : Addr) (ls : List Int) (R : List Int) (k : Nat), vs = [.int (n : Nat), .ref p] ∧ 1 ≤ n ∧ n ≤ 16 ∧ H p = some (.lst (ls.map V.int)) ∧ ls.length ≤ 1000 ∧ (∀ x ∈ ls, 0 ≤ x ∧ x + 2 ≤ n ∧ okP n (genU n x) = true) ∧ okP n (arcsM n (idArcs n)) = true ∧ valM n ls = some (R, k) ∧
  ∀ t a H', Same H H' → DiaAt K H' a n R → H' t = some (.tup [.ref a, .int (k : Nat)]) → Q (.ref t) H'
theorem ok_val (T : Top K mg ex) : FnOk P w K mg base CX0 9 (He.fAd K a_value_of) (fdOf K a_value_of) ["columns", "word"] (spVal K) := by
  refine fok T.f_value_of sc_value_of (fun vs H Q E h => ?_) (fun cdv A outer s H vs Q E hr h => ?_)
  · obtain ⟨_, _, _, _, _, rfl, _⟩ := h
    rfl
  · obtain ⟨n, p, ls, R, kl, rfl, n1, n16, hp, hlen, hls, hid, hv, k⟩ := h
    refine ⟨_, pss_one (ps_ret (pe_call (ok_all T) hr (by rfl) T.g_stack_all T.f_stack_all.kp T.b_stack_all .nil pass0 (pa_cons (pv 0) (pa_cons
        (pe_lc (own := [("letter", 2)]) (g := gName 2) (tt := tYes) rfl sc_value_of.nd (pi_list (pv 1)) (blkOk_by (own := [("letter", 2)]) (N := ["columns", "word", "letter"]) (sc := defScope s_value_of) (by decide +kernel))
          (fun _ _ _ _ _ => pg_name (i := 2) sc_value_of.nd rfl (Or.inl rfl)) (fun _ _ _ _ _ => pts_nil)
          (fun _ _ _ _ _ => pe_call (ok_gen T) (hr.mono (by decide)) (by rfl) T.g_generator T.f_generator.kp T.b_generator .nil pass0 (pa_cons (pv 0) (pa_cons (pv 2) pa_nil)))) pa_nil)))), ?_⟩
    refine ⟨_, rfl, _, rfl, p, rfl, ⟨_, .of hp⟩, fun D hD => lc_goR walk_list (by rw [List.length_map]; omega) (fun i y H => ∃ x, ls[i]? = some x ∧ IsDia K n H (genU n x) y)
      (fun i y H H' s ⟨x, hx, a, e, d⟩ => ⟨x, hx, a, e, d.same s⟩) hD (fun H2 s2 => .of (s2 _ _ hp)) (fun i y H xs ys e ⟨x, hx, a, ea, d⟩ => ⟨x, hx, a, ea, d.upd_lst e⟩) ?_ ?_⟩
    · rintro i y H2 H3 Kt hi s2 ⟨rfl, hy⟩ kt
      obtain ⟨x, hx, rfl⟩ := ints_at hy
      obtain ⟨x0, x1, hok⟩ := hls x (List.mem_of_getElem? hx)
      have ex' : x = ((x.toNat : Nat) : Int) := by omega
      refine ⟨rfl, _, rfl, _, rfl, n, x.toNat, ?_, by omega, n16, hok, fun a H4 s4 d4 => kt _ _ s4 ⟨x, hx, a, rfl, d4⟩⟩
      show [V.int (n : Nat), .int x] = _
      rw [← ex']
    · intro H2 acc s2 hD2 r
      refine ⟨n, D, acc, ls.map (genU n), R, kl, rfl, n1, n16, hD2, ?_, hid, hv, fun t a H3 s3 d3 ht => k t a H3 (s2.trans s3) d3 ht⟩
      refine ⟨by rw [List.length_map, ← r.1, List.length_range, List.length_map], fun i U y hU hy => ?_⟩
      rw [List.getElem?_map] at hU
      cases hx : ls[i]? with
      | none => rw [hx] at hU; cases hU
      | some x =>
        rw [hx] at hU
        cases hU
        have hi := (List.getElem?_eq_some_iff.mp hx).1
        obtain ⟨x', hx', q⟩ := r.2 i i y (by rw [List.getElem?_range (by rw [List.length_map]; exact hi)]) hy
        rw [hx] at hx'
        cases hx'
        exact q
end
end K54
namespace K54
open PySem PySem.Spec PyProof.Rows L2
/-! all diagrams of 2 to 6 columns that generators reach, and the generators (printed by gen_dias.py) -/
def dias2 : List (List Int) := [[2, 3, 0, 1], [1, 0, 3, 2]]
def gens2 : List (List Int) := [[1, 0, 3, 2]]
def dias3 : List (List Int) := [[3, 4, 5, 0, 1, 2], [1, 0, 5, 4, 3, 2], [3, 2, 1, 0, 5, 4], [1, 0, 3, 2, 5, 4], [5, 2, 1, 4, 3, 0]]
def gens3 : List (List Int) := [[1, 0, 5, 4, 3, 2], [3, 2, 1, 0, 5, 4]]
def dias4 : List (List Int) := [[4, 5, 6, 7, 0, 1, 2, 3], [1, 0, 6, 7, 5, 4, 2, 3], [4, 2, 1, 7, 0, 6, 5, 3], [4, 5, 3, 2, 0, 1, 7, 6], [1, 0, 4, 7, 2, 6, 5, 3], [1, 0, 3, 2, 5, 4, 7, 6], [6, 2, 1, 7, 5, 4, 0, 3], [4, 2, 1, 5, 0, 3, 7, 6], [4, 7, 3, 2, 0, 6, 5, 1], [1, 0, 4, 5, 2, 3, 7, 6], [1, 0, 3, 2, 7, 6, 5, 4], [3, 2, 1, 0, 5, 4, 7, 6], [6, 7, 3, 2, 5, 4, 0, 1], [3, 2, 1, 0, 7, 6, 5, 4]]
def gens4 : List (List Int) := [[1, 0, 6, 7, 5, 4, 2, 3], [4, 2, 1, 7, 0, 6, 5, 3], [4, 5, 3, 2, 0, 1, 7, 6]]
def dias5 : List (List Int) := [[5, 6, 7, 8, 9, 0, 1, 2, 3, 4], [1, 0, 7, 8, 9, 6, 5, 2, 3, 4], [5, 2, 1, 8, 9, 0, 7, 6, 3, 4], [5, 6, 3, 2, 9, 0, 1, 8, 7, 4], [5, 6, 7, 4, 3, 0, 1, 2, 9, 8], [1, 0, 5, 8, 9, 2, 7, 6, 3, 4], [1, 0, 3, 2, 9, 6, 5, 8, 7, 4], [1, 0, 7, 4, 3, 6, 5, 2, 9, 8], [7, 2, 1, 8, 9, 6, 5, 0, 3, 4], [5, 2, 1, 6, 9, 0, 3, 8, 7, 4], [5, 2, 1, 4, 3, 0, 7, 6, 9, 8], [5, 8, 3, 2, 9, 0, 7, 6, 1, 4], [5, 6, 3, 2, 7, 0, 1, 4, 9, 8], [5, 6, 9, 4, 3, 0, 1, 8, 7, 2], [1, 0, 5, 6, 9, 2, 3, 8, 7, 4], [1, 0, 5, 4, 3, 2, 7, 6, 9, 8], [1, 0, 3, 2, 9, 8, 7, 6, 5, 4], [1, 0, 3, 2, 7, 6, 5, 4, 9, 8], [1, 0, 9, 4, 3, 6, 5, 8, 7, 2], [3, 2, 1, 0, 9, 6, 5, 8, 7, 4], [7, 2, 1, 4, 3, 6, 5, 0, 9, 8], [5, 2, 1, 6, 7, 0, 3, 4, 9, 8], [5, 2, 1, 4, 3, 0, 9, 8, 7, 6], [7, 8, 3, 2, 9, 6, 5, 0, 1, 4], [5, 4, 3, 2, 1, 0, 7, 6, 9, 8], [5, 8, 9, 4, 3, 0, 7, 6, 1, 2], [1, 0, 5, 6, 7, 2, 3, 4, 9, 8], [1, 0, 5, 4, 3, 2, 9, 8, 7, 6], [1, 0, 3, 2, 5, 4, 7, 6, 9, 8], [1, 0, 9, 4, 3, 8, 7, 6, 5, 2], [3, 2, 1, 0, 9, 8, 7, 6, 5, 4], [3, 2, 1, 0, 7, 6, 5, 4, 9, 8], [9, 2, 1, 4, 3, 6, 5, 8, 7, 0], [7, 4, 3, 2, 1, 6, 5, 0, 9, 8], [5, 4, 3, 2, 1, 0, 9, 8, 7, 6], [7, 8, 9, 4, 3, 6, 5, 0, 1, 2], [1, 0, 3, 2, 5, 4, 9, 8, 7, 6], [3, 2, 1, 0, 5, 4, 7, 6, 9, 8], [9, 2, 1, 4, 3, 8, 7, 6, 5, 0], [9, 4, 3, 2, 1, 6, 5, 8, 7, 0], [3, 2, 1, 0, 5, 4, 9, 8, 7, 6], [9, 4, 3, 2, 1, 8, 7, 6, 5, 0]]
def gens5 : List (List Int) := [[1, 0, 7, 8, 9, 6, 5, 2, 3, 4], [5, 2, 1, 8, 9, 0, 7, 6, 3, 4], [5, 6, 3, 2, 9, 0, 1, 8, 7, 4], [5, 6, 7, 4, 3, 0, 1, 2, 9, 8]]
def dias6 : List (List Int) := [[6, 7, 8, 9, 10, 11, 0, 1, 2, 3, 4, 5], [1, 0, 8, 9, 10, 11, 7, 6, 2, 3, 4, 5], [6, 2, 1, 9, 10, 11, 0, 8, 7, 3, 4, 5], [6, 7, 3, 2, 10, 11, 0, 1, 9, 8, 4, 5], [6, 7, 8, 4, 3, 11, 0, 1, 2, 10, 9, 5], [6, 7, 8, 9, 5, 4, 0, 1, 2, 3, 11, 10], [1, 0, 6, 9, 10, 11, 2, 8, 7, 3, 4, 5], [1, 0, 3, 2, 10, 11, 7, 6, 9, 8, 4, 5], [1, 0, 8, 4, 3, 11, 7, 6, 2, 10, 9, 5], [1, 0, 8, 9, 5, 4, 7, 6, 2, 3, 11, 10], [8, 2, 1, 9, 10, 11, 7, 6, 0, 3, 4, 5], [6, 2, 1, 7, 10, 11, 0, 3, 9, 8, 4, 5], [6, 2, 1, 4, 3, 11, 0, 8, 7, 10, 9, 5], [6, 2, 1, 9, 5, 4, 0, 8, 7, 3, 11, 10], [6, 9, 3, 2, 10, 11, 0, 8, 7, 1, 4, 5], [6, 7, 3, 2, 8, 11, 0, 1, 4, 10, 9, 5], [6, 7, 3, 2, 5, 4, 0, 1, 9, 8, 11, 10], [6, 7, 10, 4, 3, 11, 0, 1, 9, 8, 2, 5], [6, 7, 8, 4, 3, 9, 0, 1, 2, 5, 11, 10], [6, 7, 8, 11, 5, 4, 0, 1, 2, 10, 9, 3], [1, 0, 6, 7, 10, 11, 2, 3, 9, 8, 4, 5], [1, 0, 6, 4, 3, 11, 2, 8, 7, 10, 9, 5], [1, 0, 6, 9, 5, 4, 2, 8, 7, 3, 11, 10], [1, 0, 3, 2, 10, 11, 9, 8, 7, 6, 4, 5], [1, 0, 3, 2, 8, 11, 7, 6, 4, 10, 9, 5], [1, 0, 3, 2, 5, 4, 7, 6, 9, 8, 11, 10], [1, 0, 10, 4, 3, 11, 7, 6, 9, 8, 2, 5], [1, 0, 8, 4, 3, 9, 7, 6, 2, 5, 11, 10], [1, 0, 8, 11, 5, 4, 7, 6, 2, 10, 9, 3], [3, 2, 1, 0, 10, 11, 7, 6, 9, 8, 4, 5], [8, 2, 1, 4, 3, 11, 7, 6, 0, 10, 9, 5], [8, 2, 1, 9, 5, 4, 7, 6, 0, 3, 11, 10], [6, 2, 1, 7, 8, 11, 0, 3, 4, 10, 9, 5], [6, 2, 1, 7, 5, 4, 0, 3, 9, 8, 11, 10], [6, 2, 1, 4, 3, 11, 0, 10, 9, 8, 7, 5], [6, 2, 1, 4, 3, 9, 0, 8, 7, 5, 11, 10], [6, 2, 1, 11, 5, 4, 0, 8, 7, 10, 9, 3], [8, 9, 3, 2, 10, 11, 7, 6, 0, 1, 4, 5], [6, 4, 3, 2, 1, 11, 0, 8, 7, 10, 9, 5], [6, 9, 3, 2, 5, 4, 0, 8, 7, 1, 11, 10], [6, 7, 3, 2, 8, 9, 0, 1, 4, 5, 11, 10], [6, 7, 3, 2, 5, 4, 0, 1, 11, 10, 9, 8], [6, 9, 10, 4, 3, 11, 0, 8, 7, 1, 2, 5], [6, 7, 5, 4, 3, 2, 0, 1, 9, 8, 11, 10], [6, 7, 10, 11, 5, 4, 0, 1, 9, 8, 2, 3], [1, 0, 6, 7, 8, 11, 2, 3, 4, 10, 9, 5], [1, 0, 6, 7, 5, 4, 2, 3, 9, 8, 11, 10], [1, 0, 6, 4, 3, 11, 2, 10, 9, 8, 7, 5], [1, 0, 6, 4, 3, 9, 2, 8, 7, 5, 11, 10], [1, 0, 6, 11, 5, 4, 2, 8, 7, 10, 9, 3], [1, 0, 3, 2, 6, 11, 4, 8, 7, 10, 9, 5], [1, 0, 3, 2, 5, 4, 9, 8, 7, 6, 11, 10], [1, 0, 3, 2, 8, 9, 7, 6, 4, 5, 11, 10], [1, 0, 3, 2, 5, 4, 7, 6, 11, 10, 9, 8], [1, 0, 10, 4, 3, 11, 9, 8, 7, 6, 2, 5], [1, 0, 5, 4, 3, 2, 7, 6, 9, 8, 11, 10], [1, 0, 10, 11, 5, 4, 7, 6, 9, 8, 2, 3], [3, 2, 1, 0, 10, 11, 9, 8, 7, 6, 4, 5], [3, 2, 1, 0, 8, 11, 7, 6, 4, 10, 9, 5], [3, 2, 1, 0, 5, 4, 7, 6, 9, 8, 11, 10], [10, 2, 1, 4, 3, 11, 7, 6, 9, 8, 0, 5], [8, 2, 1, 4, 3, 9, 7, 6, 0, 5, 11, 10], [8, 2, 1, 11, 5, 4, 7, 6, 0, 10, 9, 3], [6, 2, 1, 7, 8, 9, 0, 3, 4, 5, 11, 10], [6, 2, 1, 7, 5, 4, 0, 3, 11, 10, 9, 8], [6, 2, 1, 4, 3, 7, 0, 5, 9, 8, 11, 10], [6, 2, 1, 11, 5, 4, 0, 10, 9, 8, 7, 3], [8, 4, 3, 2, 1, 11, 7, 6, 0, 10, 9, 5], [8, 9, 3, 2, 5, 4, 7, 6, 0, 1, 11, 10], [6, 4, 3, 2, 1, 11, 0, 10, 9, 8, 7, 5], [6, 4, 3, 2, 1, 9, 0, 8, 7, 5, 11, 10], [6, 11, 3, 2, 5, 4, 0, 8, 7, 10, 9, 1], [8, 9, 10, 4, 3, 11, 7, 6, 0, 1, 2, 5], [6, 9, 5, 4, 3, 2, 0, 8, 7, 1, 11, 10], [6, 7, 5, 4, 3, 2, 0, 1, 11, 10, 9, 8], [6, 9, 10, 11, 5, 4, 0, 8, 7, 1, 2, 3], [1, 0, 6, 7, 8, 9, 2, 3, 4, 5, 11, 10], [1, 0, 6, 7, 5, 4, 2, 3, 11, 10, 9, 8], [1, 0, 6, 4, 3, 7, 2, 5, 9, 8, 11, 10], [1, 0, 6, 11, 5, 4, 2, 10, 9, 8, 7, 3], [1, 0, 3, 2, 6, 11, 4, 10, 9, 8, 7, 5], [1, 0, 3, 2, 6, 9, 4, 8, 7, 5, 11, 10], [1, 0, 3, 2, 5, 4, 11, 8, 7, 10, 9, 6], [1, 0, 5, 4, 3, 2, 9, 8, 7, 6, 11, 10], [1, 0, 5, 4, 3, 2, 7, 6, 11, 10, 9, 8], [1, 0, 10, 11, 5, 4, 9, 8, 7, 6, 2, 3], [3, 2, 1, 0, 6, 11, 4, 8, 7, 10, 9, 5], [3, 2, 1, 0, 5, 4, 9, 8, 7, 6, 11, 10], [3, 2, 1, 0, 8, 9, 7, 6, 4, 5, 11, 10], [3, 2, 1, 0, 5, 4, 7, 6, 11, 10, 9, 8], [10, 2, 1, 4, 3, 11, 9, 8, 7, 6, 0, 5], [5, 2, 1, 4, 3, 0, 7, 6, 9, 8, 11, 10], [10, 2, 1, 11, 5, 4, 7, 6, 9, 8, 0, 3], [6, 2, 1, 4, 3, 7, 0, 5, 11, 10, 9, 8], [10, 4, 3, 2, 1, 11, 7, 6, 9, 8, 0, 5], [8, 4, 3, 2, 1, 9, 7, 6, 0, 5, 11, 10], [8, 11, 3, 2, 5, 4, 7, 6, 0, 10, 9, 1], [6, 4, 3, 2, 1, 7, 0, 5, 9, 8, 11, 10], [6, 11, 3, 2, 5, 4, 0, 10, 9, 8, 7, 1], [8, 9, 5, 4, 3, 2, 7, 6, 0, 1, 11, 10], [6, 11, 5, 4, 3, 2, 0, 8, 7, 10, 9, 1], [8, 9, 10, 11, 5, 4, 7, 6, 0, 1, 2, 3], [1, 0, 6, 4, 3, 7, 2, 5, 11, 10, 9, 8], [1, 0, 3, 2, 6, 7, 4, 5, 9, 8, 11, 10], [1, 0, 3, 2, 5, 4, 11, 10, 9, 8, 7, 6], [1, 0, 5, 4, 3, 2, 11, 8, 7, 10, 9, 6], [3, 2, 1, 0, 6, 11, 4, 10, 9, 8, 7, 5], [3, 2, 1, 0, 6, 9, 4, 8, 7, 5, 11, 10], [3, 2, 1, 0, 5, 4, 11, 8, 7, 10, 9, 6], [5, 2, 1, 4, 3, 0, 9, 8, 7, 6, 11, 10], [5, 2, 1, 4, 3, 0, 7, 6, 11, 10, 9, 8], [10, 2, 1, 11, 5, 4, 9, 8, 7, 6, 0, 3], [10, 4, 3, 2, 1, 11, 9, 8, 7, 6, 0, 5], [5, 4, 3, 2, 1, 0, 7, 6, 9, 8, 11, 10], [10, 11, 3, 2, 5, 4, 7, 6, 9, 8, 0, 1], [6, 4, 3, 2, 1, 7, 0, 5, 11, 10, 9, 8], [8, 11, 5, 4, 3, 2, 7, 6, 0, 10, 9, 1], [6, 11, 5, 4, 3, 2, 0, 10, 9, 8, 7, 1], [1, 0, 3, 2, 6, 7, 4, 5, 11, 10, 9, 8], [1, 0, 5, 4, 3, 2, 11, 10, 9, 8, 7, 6], [3, 2, 1, 0, 6, 7, 4, 5, 9, 8, 11, 10], [3, 2, 1, 0, 5, 4, 11, 10, 9, 8, 7, 6], [5, 2, 1, 4, 3, 0, 11, 8, 7, 10, 9, 6], [5, 4, 3, 2, 1, 0, 9, 8, 7, 6, 11, 10], [5, 4, 3, 2, 1, 0, 7, 6, 11, 10, 9, 8], [10, 11, 3, 2, 5, 4, 9, 8, 7, 6, 0, 1], [10, 11, 5, 4, 3, 2, 7, 6, 9, 8, 0, 1], [3, 2, 1, 0, 6, 7, 4, 5, 11, 10, 9, 8], [5, 2, 1, 4, 3, 0, 11, 10, 9, 8, 7, 6], [5, 4, 3, 2, 1, 0, 11, 8, 7, 10, 9, 6], [10, 11, 5, 4, 3, 2, 9, 8, 7, 6, 0, 1], [5, 4, 3, 2, 1, 0, 11, 10, 9, 8, 7, 6]]
def gens6 : List (List Int) := [[1, 0, 8, 9, 10, 11, 7, 6, 2, 3, 4, 5], [6, 2, 1, 9, 10, 11, 0, 8, 7, 3, 4, 5], [6, 7, 3, 2, 10, 11, 0, 1, 9, 8, 4, 5], [6, 7, 8, 4, 3, 11, 0, 1, 2, 10, 9, 5], [6, 7, 8, 9, 5, 4, 0, 1, 2, 3, 11, 10]]
/-! ### the law's stack, as a function; both agree on every reached diagram -/
def lst1 (n : Nat) (U L : List Int) (s : List Int × List Int) (p : Nat) : Option (List Int × List Int) := match pathM (2 * n + 2) n U L (p : Int) (decide ((p : Int) < (n : Int))) [] with
  | some (some e, ps) => some (s.1 ++ [e], s.2 ++ ps)
  | _ => none
def lawStackM (n : Nat) (U L : List Int) : Option (List Int × Nat) := match foldO (lst1 n U L) (List.range (2 * n)) ([], []) with
  | none => none
  | some a => match foldO (st2 n U L) (List.range n) (a.2, 0) with
    | none => none
    | some b => some (a.1, b.2)
def idL (n : Nat) : List Int := (List.range n).map (fun i : Nat => (n : Int) + i) ++ (List.range n).map (fun i : Nat => (i : Int))
def chk1 (n : Nat) (D : List (List Int)) (U G : List Int) : Bool := match stackM n U G, lawStackM n U G with
  | some r, some q => D.contains r.1 && (r.1 == q.1 && r.2 == q.2)
  | _, _ => false
def chk (n : Nat) (D G : List (List Int)) : Bool := okP n (arcsM n (idArcs n)) && (D.contains (arcsM n (idArcs n)) && (arcsM n (idArcs n) == idL n && (((List.range (n - 1)).map (fun l => arcsM n (genArcs n l)) == G) && (G.all (okP n) && D.all fun U => okP n U && G.all fun g => chk1 n D U g))))
theorem chk2 : chk 2 dias2 gens2 = true := by decide +kernel
theorem chk3 : chk 3 dias3 gens3 = true := by decide +kernel
theorem chk4 : chk 4 dias4 gens4 = true := by decide +kernel
theorem chk5 : chk 5 dias5 gens5 = true := by decide +kernel
theorem chk6 : chk 6 dias6 gens6 = true := by decide +kernel
def genLM (n l : Nat) : List Int := ((((idL n).set l ((l : Int) + 1)).set (l + 1) (l : Int)).set (n + l) ((n : Int) + l + 1)).set (n + l + 1) ((n : Int) + l)
def chkG (n : Nat) (G : List (List Int)) : Bool := (List.range (n - 1)).map (genLM n) == G
theorem chkG2 : chkG 2 gens2 = true := by decide +kernel
theorem chkG3 : chkG 3 gens3 = true := by decide +kernel
theorem chkG4 : chkG 4 gens4 = true := by decide +kernel
theorem chkG5 : chkG 5 gens5 = true := by decide +kernel
theorem chkG6 : chkG 6 gens6 = true := by decide +kernel
theorem chk_all {n : Nat} (h1 : 2 ≤ n) (h2 : n ≤ 6) : ∃ D G, chk n D G = true ∧ chkG n G = true := by
  rcases (by omega : n = 2 ∨ n = 3 ∨ n = 4 ∨ n = 5 ∨ n = 6) with e | e | e | e | e <;> subst e
  · exact ⟨_, _, chk2, chkG2⟩
  · exact ⟨_, _, chk3, chkG3⟩
  · exact ⟨_, _, chk4, chkG4⟩
  · exact ⟨_, _, chk5, chkG5⟩
  · exact ⟨_, _, chk6, chkG6⟩
def lawStep (n : Nat) (s : List Int × Nat) (l : Int) : Option (List Int × Nat) := match lawStackM n s.1 (genLM n l.toNat) with
  | some r => some (r.1, s.2 + r.2)
  | none => none
def lawVal (n : Nat) (ls : List Int) : Option (List Int × Nat) := foldO (lawStep n) ls (idL n, 0)
/-- what the two folds know of one value -/
structure ValOk (n : Nat) (ls : List Int) (R : List Int) (k : Nat) : Prop where
  val : valM n ls = some (R, k)
  law : lawVal n ls = some (R, k)
  ok : okP n R = true
/-- the folds go on together from a reached diagram -/
theorem val_go {n : Nat} {D G : List (List Int)} (h : chk n D G = true) (hG : chkG n G = true) : ∀ (ls : List Int) (U : List Int) (k : Nat), (∀ x ∈ ls, 0 ≤ x ∧ x + 2 ≤ (n : Int)) → U ∈ D →
    ∃ R k', foldO (valStep n) (ls.map (genU n)) (U, k) = some (R, k') ∧ foldO (lawStep n) ls (U, k) = some (R, k') ∧ R ∈ D := by
  intro ls
  induction ls with
  | nil => intro U k _ hU; exact ⟨U, k, rfl, rfl, hU⟩
  | cons x ls ih =>
    intro U k hx hU
    obtain ⟨x0, x1⟩ := hx x List.mem_cons_self
    unfold chk at h
    unfold chkG at hG
    simp only [Bool.and_eq_true, beq_iff_eq, List.all_eq_true] at h hG
    obtain ⟨_, _, _, hg1, _, hs⟩ := h
    have hxn : x.toNat < n - 1 := by omega
    have m1 : genU n x ∈ G := by
      rw [← hg1]
      exact List.mem_map.mpr ⟨x.toNat, List.mem_range.mpr hxn, rfl⟩
    have m2 : genLM n x.toNat = genU n x := by
      have e := hG.trans hg1.symm
      have e1 := congrArg (fun l => l[x.toNat]?) e
      simp only [List.getElem?_map, List.getElem?_range hxn, Option.map_some] at e1
      exact Option.some.inj e1
    have c := (hs U hU).2 _ m1
    unfold chk1 at c
    cases c1 : stackM n U (genU n x) with
    | none => rw [c1] at c; cases c
    | some r =>
      cases c2 : lawStackM n U (genU n x) with
      | none => rw [c1, c2] at c; cases c
      | some q =>
        rw [c1, c2] at c
        simp only [Bool.and_eq_true, beq_iff_eq] at c
        obtain ⟨c3, c4, c5⟩ := c
        obtain ⟨R, k', f1, f2, f3⟩ := ih r.1 (k + r.2) (fun y hy => hx y (List.mem_cons_of_mem _ hy)) (by simpa using c3 : r.1 ∈ D)
        refine ⟨R, k', ?_, ?_, f3⟩
        · rw [List.map_cons]
          unfold foldO valStep
          rw [c1]
          exact f1
        · unfold foldO lawStep
          rw [m2, c2]
          simp only
          rw [← c4, ← c5]
          exact f2
theorem val_ok {n : Nat} (h1 : 2 ≤ n) (h2 : n ≤ 6) {ls : List Int} (hx : ∀ x ∈ ls, 0 ≤ x ∧ x + 2 ≤ (n : Int)) : ∃ R k, ValOk n ls R k := by
  obtain ⟨D, G, h, hG⟩ := chk_all h1 h2
  have h' := h
  unfold chk at h'
  simp only [Bool.and_eq_true, beq_iff_eq, List.all_eq_true] at h'
  obtain ⟨_, hm, hid, _, _, hs⟩ := h'
  obtain ⟨R, k, e1, e2, e3⟩ := val_go h hG ls _ 0 hx (by simpa using hm : arcsM n (idArcs n) ∈ D)
  refine ⟨R, k, e1, ?_, (hs R e3).1⟩
  rw [hid] at e2
  exact e2
theorem gen_okP {n : Nat} (h1 : 2 ≤ n) (h2 : n ≤ 6) {x : Int} (x0 : 0 ≤ x) (x1 : x + 2 ≤ (n : Int)) : okP n (genU n x) = true ∧ genLM n x.toNat = genU n x := by
  obtain ⟨D, G, h, hG⟩ := chk_all h1 h2
  unfold chk at h
  unfold chkG at hG
  simp only [Bool.and_eq_true, beq_iff_eq, List.all_eq_true] at h hG
  obtain ⟨_, _, _, hg1, hg, _⟩ := h
  have hxn : x.toNat < n - 1 := by omega
  have m1 : genU n x ∈ G := by
    rw [← hg1]
    exact List.mem_map.mpr ⟨x.toNat, List.mem_range.mpr hxn, rfl⟩
  refine ⟨hg _ m1, ?_⟩
  have e := hG.trans hg1.symm
  have e1 := congrArg (fun l => l[x.toNat]?) e
  simp only [List.getElem?_map, List.getElem?_range hxn, Option.map_some] at e1
  exact Option.some.inj e1
theorem id_okP {n : Nat} (h1 : 2 ≤ n) (h2 : n ≤ 6) : okP n (arcsM n (idArcs n)) = true := by
  obtain ⟨D, G, h, hG⟩ := chk_all h1 h2
  unfold chk at h
  simp only [Bool.and_eq_true] at h
  exact h.1
end K54
namespace K54
open PySem PySem.Spec PyProof.Rows L2
/-! ### names -/
def signOk (c : Nat) : Bool := !(Builtin.Str.occurrences ("abcdefghijklmnopqrstuvwxyz" : Str) (⟨#[c]⟩ : Str) 0 ("abcdefghijklmnopqrstuvwxyz" : Str).length 1).isEmpty
def nameB (u : Str) : Bool := decide (1 ≤ (u.length : Int)) && (decide ((u.length : Int) ≤ 8) && (decide (u.length ≤ sizeLine) && ((List.range u.cps.size).all fun i => match u.cps[i]? with | none => false | some c => signOk c)))
section
variable {P : Program} {w : World} {K : PySem.W.Frag} {mg : Str → Option Value} {ex : PySem.W.Frag → Bool} {base : Heap}
def spName : Sp := fun vs H Q _ => ∃ u : Str, vs = [.str u] ∧ nameB u = true ∧ ∀ H', Same H H' → Q (.bl true) H'
theorem ok_name (T : Top K mg ex) : FnOk P w K mg base CX0 1 (He.fAd K a_is_name) (fdOf K a_is_name) ["value"] spName := by
  obtain ⟨tm, em⟩ := T.i_MAX_NAME_LENGTH
  obtain ⟨tl, el⟩ := T.i_LETTERS
  refine fok T.f_is_name sc_is_name (fun vs H Q E h => ?_) (fun cdv A outer s H vs Q E hr h => ?_)
  · obtain ⟨_, rfl, _⟩ := h
    rfl
  · obtain ⟨u, rfl, hu, k⟩ := h
    unfold nameB at hu
    simp only [Bool.and_eq_true, decide_eq_true_eq, List.all_eq_true] at hu
    obtain ⟨u1, u2, u3, u4⟩ := hu
    refine ⟨_, pss_cons (ps_if (PW.pt (pw_or (pt_not (pt_val (pe_callB call_isi (by rfl) T.z_isinstance boot_isinstance (pa_cons (pv 0) (pa_cons (pe_bltn (v := .ty "str") (by rfl) T.z_str boot_str rfl) pa_nil)))))
        (pw_or1 (pt_not (pt_chain op_le op_le pe_int (pe_callB call_len_str (by rfl) T.z_len PySem.boot_len (pa_cons (pv 0) pa_nil)) (pe_glob (v := .int 8) (by rfl) em ⟨_, rfl⟩)))))) (pss_one (ps_ret pe_bl)) pss_nil) <|
      pss_one (ps_ret (pe_callB (cr_all rfl) (by rfl) T.z_all boot_all (pa_cons (pe_lc (own := [("character", 1)]) (g := gName 1) (tt := tYes) rfl sc_is_name.nd (pi_str (pv 0)) (blkOk_by (own := [("character", 1)]) (N := ["value", "character"]) (sc := defScope s_is_name) (by decide +kernel))
          (fun _ _ _ _ _ => pg_name (i := 1) sc_is_name.nd rfl (Or.inl rfl)) (fun _ _ _ _ _ => pts_nil)
          (fun _ _ _ _ _ => pe_cmpR op_in_str (pv 1) (pe_glob (v := .str "abcdefghijklmnopqrstuvwxyz") (by rfl) el ⟨_, rfl⟩) (by rfl))) pa_nil))), ?_⟩
    refine ⟨_, rfl, _, _, _, _, true, rfl, .ty _, .base (.str _), kit_ty (by decide +kernel), _, rfl, iteF ?_⟩
    refine ⟨_, rfl, u, rfl, u3, _, _, rfl, rfl, _, rfl, ?_⟩
    rw [decide_eq_true u1]
    refine iteT ⟨_, _, rfl, rfl, _, rfl, ?_⟩
    rw [decide_eq_true u2]
    refine iteF ?_
    refine ⟨_, rfl, u, rfl, fun D hD => lc_goY walk_str (by have : u.cps.size = u.length := rfl; omega) (fun _ => .bl true) hD (fun _ _ => trivial) ?_ ?_⟩
    · rintro i x H2 H3 Kt hi s2 ⟨rfl, c, hc, rfl⟩ kt
      refine ⟨rfl, _, rfl, _, _, rfl, rfl, ?_⟩
      have q := u4 i (List.mem_range.mpr hi)
      rw [hc] at q
      have q' : signOk c = true := q
      unfold signOk at q'
      rw [q']
      exact kt _ (Same.refl _)
    intro H1 s1 hD1
    rw [fm_true] at hD1
    refine ⟨D, _, rfl, .of hD1, ?_⟩
    rw [all_true]
    exact k _ s1
def spCkName : Sp := fun vs H Q _ => ∃ u : Str, vs = [.str u] ∧ nameB u = true ∧ ∀ H', Same H H' → Q .non H'
theorem ok_ckname (T : Top K mg ex) : FnOk P w K mg base CX0 2 (He.fAd K a_check_name) (fdOf K a_check_name) ["user"] spCkName := by
  refine fok T.f_check_name sc_check_name (fun vs H Q E h => ?_) (fun cdv A outer s H vs Q E hr h => ?_)
  · obtain ⟨_, rfl, _⟩ := h
    rfl
  · obtain ⟨u, rfl, hu, k⟩ := h
    refine ⟨_, pss_one (ps_if (pt_not (pt_val (pe_call (ok_name T) hr (by rfl) T.g_is_name T.f_is_name.kp T.b_is_name .nil pass0 (pa_cons (pv 0) pa_nil)))) (pss_one ps_never) pss_nil), ?_⟩
    exact ⟨_, rfl, u, rfl, hu, fun H' s' => ⟨_, rfl, iteF (k H' s')⟩⟩
end
def users : List Str := ["ann", "bob", "abcdefgh", "z", "ijklmnop", "qrstuvwx", "yz", "m"]
theorem users_ok : users.all nameB = true := by kernel_rfl
end K54
namespace K54
open PySem PySem.Spec PyProof.Rows L2
/-! ### the editor on the heap -/
abbrev cEd (K : PySem.W.Frag) : Addr := He.ga K "Editor"
def eF (n : Nat) (o l w h d u : Addr) : List (Str × V) := [("width", .int (n : Nat)), ("order", .ref o), ("letters", .ref l), ("owners", .ref w), ("hidden", .ref h), ("done", .ref d), ("undone", .ref u)]
section
variable (n : Nat) (o l w h d u : Addr)
theorem eF_put : putF "undone" (.ref u) (putF "done" (.ref d) (putF "hidden" (.ref h) (putF "owners" (.ref w) (putF "letters" (.ref l) (putF "order" (.ref o) (putF "width" (.int (n : Nat)) [])))))) = eF n o l w h d u := by kernel_rfl
theorem eF_width : (eF n o l w h d u).lookup ("width" : Str) = some (.int (n : Nat)) := by kernel_rfl
theorem eF_order : (eF n o l w h d u).lookup ("order" : Str) = some (.ref o) := by kernel_rfl
theorem eF_letters : (eF n o l w h d u).lookup ("letters" : Str) = some (.ref l) := by kernel_rfl
theorem eF_owners : (eF n o l w h d u).lookup ("owners" : Str) = some (.ref w) := by kernel_rfl
theorem eF_hidden : (eF n o l w h d u).lookup ("hidden" : Str) = some (.ref h) := by kernel_rfl
theorem eF_done : (eF n o l w h d u).lookup ("done" : Str) = some (.ref d) := by kernel_rfl
theorem eF_undone : (eF n o l w h d u).lookup ("undone" : Str) = some (.ref u) := by kernel_rfl
theorem eF_shown : (eF n o l w h d u).lookup ("shown" : Str) = none := by kernel_rfl
theorem eF_insert : (eF n o l w h d u).lookup ("insert" : Str) = none := by kernel_rfl
theorem eF_add : (eF n o l w h d u).lookup ("add" : Str) = none := by kernel_rfl
theorem eF_undo : (eF n o l w h d u).lookup ("undo" : Str) = none := by kernel_rfl
theorem eF_redo : (eF n o l w h d u).lookup ("redo" : Str) = none := by kernel_rfl
theorem eF_word : (eF n o l w h d u).lookup ("word" : Str) = none := by kernel_rfl
theorem eF_authors : (eF n o l w h d u).lookup ("authors" : Str) = none := by kernel_rfl
theorem eF_state : (eF n o l w h d u).lookup ("state" : Str) = none := by kernel_rfl
theorem eF_removable : (eF n o l w h d u).lookup ("removable" : Str) = none := by kernel_rfl
end
abbrev nV (i : Nat) : V := .int (i : Nat)
/-- what a list of the editor stands for -/
inductive Rl
  | order
  | letters
  | owners
  | done (u : Str)
  | undone (u : Str)
  deriving DecidableEq
def cont (S : Ed Str) : Rl → List V
  | .order => S.order.map nV
  | .letters => S.letters.map V.int
  | .owners => S.owners.map V.str
  | .done u => (S.done u).map nV
  | .undone u => (S.undone u).map nV
/-- the addresses of an editor -/
structure EdA where
  dx : Addr
  o : Addr
  l : Addr
  w : Addr
  h : Addr
  d : Addr
  u : Addr
  hk : List (Key × V)
  dk : List (Key × V)
  uk : List (Key × V)
  r : Addr → Option Rl
structure EdW (K : PySem.W.Frag) (H : Hp) (e : Addr) (n : Nat) (ct : Rl → List V) (hid : Nat → Bool) (F : Addr → Prop) (c : Nat) (A : EdA) : Prop where
  ob : H e = some (.ins (cEd K) A.dx (eF n A.o A.l A.w A.h A.d A.u))
  ro : A.r A.o = some .order
  rl : A.r A.l = some .letters
  rw : A.r A.w = some .owners
  li : ∀ a x, A.r a = some x → H a = some (.lst (ct x))
  fi : ∀ a x, A.r a = some x → F a
  inj : ∀ a b x, A.r a = some x → A.r b = some x → a = b
  hh : H A.h = some (.dK A.hk)
  dh : H A.d = some (.dK A.dk)
  uh : H A.u = some (.dK A.uk)
  n1 : A.h ≠ A.d
  n2 : A.h ≠ A.u
  n3 : A.d ≠ A.u
  fe : F e
  f1 : F A.h
  f2 : F A.d
  f3 : F A.u
  al : ∀ b, F b → ∃ o, H b = some o
  kh : ∀ i : Nat, (valV A.hk (.inl (i : Int))).isSome = hid i
  kd : ∀ u, (∃ a, valV A.dk (.inr u) = some (.ref a) ∧ A.r a = some (.done u)) ∨ (valV A.dk (.inr u) = none ∧ ct (.done u) = [] ∧ ∀ a, A.r a ≠ some (.done u))
  ku : ∀ u, (∃ a, valV A.uk (.inr u) = some (.ref a) ∧ A.r a = some (.undone u)) ∨ (valV A.uk (.inr u) = none ∧ ct (.undone u) = [] ∧ ∀ a, A.r a ≠ some (.undone u))
  z1 : A.hk.length ≤ c
  z2 : A.dk.length ≤ c
  z3 : A.uk.length ≤ c
  z4 : ∀ a x, A.r a = some x → (ct x).length ≤ c
  zc : c ≤ 50000
def EdAt (K : PySem.W.Frag) (H : Hp) (e : Addr) (n : Nat) (S : Ed Str) (F : Addr → Prop) (c : Nat) : Prop := ∃ A, EdW K H e n (cont S) S.hid F c A ∧ (∀ u, (valV A.dk (.inr u)).isSome = (valV A.uk (.inr u)).isSome) ∧ S.Ok
theorem EdW.same {K : PySem.W.Frag} {H H' : Hp} {e : Addr} {n : Nat} {ct : Rl → List V} {hid : Nat → Bool} {F : Addr → Prop} {c : Nat} {A : EdA} (E : EdW K H e n ct hid F c A) (s : ∀ b o, F b → H b = some o → H' b = some o) : EdW K H' e n ct hid F c A :=
  { E with
    ob := s _ _ E.fe E.ob
    li := fun a x h => s _ _ (E.fi a x h) (E.li a x h)
    hh := s _ _ E.f1 E.hh
    dh := s _ _ E.f2 E.dh
    uh := s _ _ E.f3 E.uh
    al := fun b h => let ⟨o, q⟩ := E.al b h; ⟨o, s _ _ h q⟩ }
theorem EdAt.same' {K : PySem.W.Frag} {H H' : Hp} {e : Addr} {n : Nat} {S : Ed Str} {F : Addr → Prop} {c : Nat} (E : EdAt K H e n S F c) (s : ∀ b o, F b → H b = some o → H' b = some o) : EdAt K H' e n S F c :=
  let ⟨A, q, b, o⟩ := E; ⟨A, q.same s, b, o⟩
theorem EdAt.same {K : PySem.W.Frag} {H H' : Hp} {e : Addr} {n : Nat} {S : Ed Str} {F : Addr → Prop} {c : Nat} (E : EdAt K H e n S F c) (s : Same H H') : EdAt K H' e n S F c :=
  E.same' fun b o _ h => s b o h
/-- only what F holds may change -/
def Off (F : Addr → Prop) (H H' : Hp) : Prop := ∀ b o, ¬ F b → H b = some o → H' b = some o
def Grow (F F' : Addr → Prop) (H : Hp) : Prop := (∀ b, F b → F' b) ∧ ∀ b, F' b → F b ∨ H b = none
theorem fm_filter {α : Type} (l : List α) (f : Nat → Option V) (p : α → Bool) (g : α → V) (h : ∀ i x, l[i]? = some x → f i = if p x = true then some (g x) else none) : fmUpto f l.length = (l.filter p).map g := by
  rw [fmUpto_map l f (fun x => if p x = true then some (g x) else none) h]
  clear h
  induction l with
  | nil => rfl
  | cons a l ih =>
    rw [List.filterMap_cons, List.filter_cons]
    by_cases q : p a = true
    · rw [if_pos q, if_pos q, List.map_cons, ih]
    · rw [if_neg q, if_neg q, ih]
theorem map_at {α : Type} {l : List α} {g : α → V} {i : Nat} {y : V} (h : (l.map g)[i]? = some y) : ∃ x, l[i]? = some x ∧ y = g x := by
  rw [List.getElem?_map] at h
  cases e : l[i]? with
  | none => rw [e] at h; cases h
  | some z => rw [e] at h; exact ⟨z, rfl, (Option.some.inj h).symm⟩
theorem fm_map {α : Type} (l : List α) (f : Nat → V) (g : α → V) (h : ∀ i x, l[i]? = some x → f i = g x) : (List.range l.length).map f = l.map g := by
  apply List.ext_getElem?
  intro i
  rw [List.getElem?_map, List.getElem?_map]
  by_cases hi : i < l.length
  · rw [List.getElem?_range hi, List.getElem?_eq_getElem hi]
    exact congrArg some (h i _ (List.getElem?_eq_getElem hi))
  · rw [List.getElem?_eq_none (by simpa using hi), List.getElem?_eq_none (by simpa using hi)]
    rfl
section
variable {P : Program} {w : World} {K : PySem.W.Frag} {mg : Str → Option Value} {ex : PySem.W.Frag → Bool} {base : Heap}
def spShown (K : PySem.W.Frag) : Sp := fun vs H Q _ => ∃ (e : Addr) (n : Nat) (S : Ed Str) (F : Addr → Prop) (c : Nat), vs = [.ref e] ∧ EdAt K H e n S F c ∧ ∀ r H', Same H H' → H r = none → H' r = some (.lst (S.shown.map nV)) → Q (.ref r) H'
theorem ok_shown (T : Top K mg ex) : FnOk P w K mg base CX0 1 (He.ma K (cEd K) "shown") (fdOf K a_Editor_shown) ["self"] (spShown K) := by
  refine fok T.f_Editor_shown sc_Editor_shown (fun vs H Q E h => ?_) (fun cdv A outer s H vs Q E hr h => ?_)
  · obtain ⟨_, _, _, _, _, rfl, _⟩ := h
    rfl
  · obtain ⟨e, n, S, F, c, rfl, ⟨B, he, hkb, hok⟩, k⟩ := h
    have hu := hu_of hr
    refine ⟨_, pss_one (ps_ret (pe_lc (own := [("action", 1)]) (g := gName 1) rfl sc_Editor_shown.nd (pi_list (pe_fld (pv 0) rfl)) (blkOk_by (own := [("action", 1)]) (N := ["self", "action"]) (sc := defScope s_Editor_shown) (by decide +kernel))
          (fun _ _ _ _ _ => pg_name (i := 1) sc_Editor_shown.nd rfl (Or.inl rfl))
          (fun _ _ _ _ _ => pts_one (pt_cmp (pc_dnotin hu (pv 1) (fld_K K (pv 0) rfl))))
          (fun _ _ _ _ _ => pv 1))), ?_⟩
    have ho := he.li _ _ he.ro
    have zl := he.z4 _ _ he.ro
    have zc := he.zc
    refine ⟨_, rfl, e, _, B.dx, _, _, rfl, he.ob, T.cl_Editor, T.no_Editor_order, eF_order _ _ _ _ _ _ _, B.o, rfl, ⟨_, .of ho⟩, fun D hD => ?_⟩
    refine lc_go walk_list (by omega) (fun i => match S.order[i]? with
      | some a => if (!S.hid a) = true then some (nV a) else none
      | none => none) hD (fun H2 s2 => .of (s2 _ _ ho)) ?_ ?_
    · rintro i x H2 H3 Kt Kf hi s2 ⟨rfl, hx⟩ kt kf
      obtain ⟨a, ha, rfl⟩ := map_at hx
      have he2 := he.same fun b o _ h => s2 b o h
      refine ⟨rfl, _, rfl, _, rfl, e, _, B.dx, _, _, rfl, he2.ob, T.cl_Editor, T.no_Editor_hidden, eF_hidden _ _ _ _ _ _ _, B.h, _, rfl, DGet.k (k := Sum.inl (a : Int)) he2.hh, _, rfl, ?_⟩
      rw [he.kh a]
      rw [ha] at kt kf
      cases hh : S.hid a with
      | true => exact iteF (kf _ (by simp [hh]) (Same.refl _))
      | false => exact iteT ⟨_, rfl, kt _ _ (by simp [hh]) (Same.refl _)⟩
    · intro H2 s2 hD2
      refine k D _ s2 hD ?_
      rw [hD2]
      congr 2
      have e1 : (cont S Rl.order).length = S.order.length := by show (S.order.map nV).length = _; rw [List.length_map]
      rw [e1]
      refine fm_filter S.order _ (fun i => !S.hid i) nV fun i x hx => ?_
      rw [hx]
def spWord (K : PySem.W.Frag) : Sp := fun vs H Q _ => ∃ (e : Addr) (n : Nat) (S : Ed Str) (F : Addr → Prop) (c : Nat), vs = [.ref e] ∧ EdAt K H e n S F c ∧ ∀ r H', Same H H' → H r = none → H' r = some (.lst (S.word.map V.int)) → Q (.ref r) H'
theorem shown_lt {S : Ed Str} (h : S.Ok) {a : Nat} (q : a ∈ S.shown) : a < S.letters.length := (h.mem a).mp (List.mem_filter.mp q).1
theorem shown_len (S : Ed Str) : S.shown.length ≤ S.order.length := List.length_filter_le _ _
theorem ok_word (T : Top K mg ex) : FnOk P w K mg base CX0 2 (He.ma K (cEd K) "word") (fdOf K a_Editor_word) ["self"] (spWord K) := by
  refine fok T.f_Editor_word sc_Editor_word (fun vs H Q E h => ?_) (fun cdv A outer s H vs Q E hr h => ?_)
  · obtain ⟨_, _, _, _, _, rfl, _⟩ := h
    rfl
  · obtain ⟨e, n, S, F, c, rfl, ⟨B, he, hkb, hok⟩, k⟩ := h
    refine ⟨_, pss_one (ps_ret (pe_lc (own := [("action", 1)]) (g := gName 1) (tt := tYes) rfl sc_Editor_word.nd (pi_list (pe_meth0 (pv 0) T.cl_Editor T.me_Editor_shown (ok_shown T) hr T.b_Editor_shown .nil pass0)) (blkOk_by (own := [("action", 1)]) (N := ["self", "action"]) (sc := defScope s_Editor_word) (by decide +kernel))
          (fun _ _ _ _ _ => pg_name (i := 1) sc_Editor_word.nd rfl (Or.inl rfl)) (fun _ _ _ _ _ => pts_nil)
          (fun _ _ _ _ _ => pe_ix (ixl_K K) (fld_K K (pv 0) rfl) (pv 1) (fun _ _ => rfl)))), ?_⟩
    have zl := he.z4 _ _ he.ro
    have e1 : (cont S Rl.order).length = S.order.length := by show (S.order.map nV).length = _; rw [List.length_map]
    rw [e1] at zl
    have zs := shown_len S
    have zc := he.zc
    refine ⟨_, rfl, e, B.dx, _, rfl, he.ob, eF_shown _ _ _ _ _ _ _, e, n, S, F, c, rfl, ⟨B, he, hkb, hok⟩, fun r H1 s1 hr0 hr1 => ?_⟩
    refine ⟨r, rfl, ⟨_, .of hr1⟩, fun D hD => lc_goY walk_list (by rw [List.length_map]; omega) (fun i => match S.shown[i]? with
      | some a => .int (S.letters.getD a 0)
      | none => .non) hD (fun H2 s2 => .of (s2 _ _ hr1)) ?_ ?_⟩
    · rintro i x H2 H3 Kt hi s2 ⟨rfl, hx⟩ kt
      obtain ⟨a, ha, rfl⟩ := map_at hx
      have he2 := he.same fun b o _ h => (s1.trans s2) b o h
      have al := shown_lt hok (List.mem_of_getElem? ha)
      refine ⟨rfl, _, rfl, e, _, B.dx, _, _, rfl, he2.ob, T.cl_Editor, T.no_Editor_letters, eF_letters _ _ _ _ _ _ _, _, rfl, B.l, _, _, _, rfl, rfl, .of (he2.li _ _ he.rl), atI_nat (ints_get (List.getElem?_eq_getElem al)), ?_⟩
      rw [ha] at kt
      have eg : S.letters.getD a 0 = S.letters[a] := by rw [List.getD_eq_getElem?_getD, List.getElem?_eq_getElem al]; rfl
      rw [← eg]
      exact kt _ (Same.refl _)
    · intro H2 s2 hD2
      refine k D _ (s1.trans s2) (Same.free s1 hD) ?_
      rw [hD2, List.length_map]
      congr 2
      unfold Ed.word
      rw [List.map_map]
      refine fm_map _ _ _ fun i x hx => ?_
      rw [hx]
      rfl
def spAuth (K : PySem.W.Frag) : Sp := fun vs H Q _ => ∃ (e : Addr) (n : Nat) (S : Ed Str) (F : Addr → Prop) (c : Nat), vs = [.ref e] ∧ EdAt K H e n S F c ∧ ∀ r H', Same H H' → H r = none → H' r = some (.lst (S.auth.map V.str)) → Q (.ref r) H'
theorem ok_auth (T : Top K mg ex) : FnOk P w K mg base CX0 2 (He.ma K (cEd K) "authors") (fdOf K a_Editor_authors) ["self"] (spAuth K) := by
  refine fok T.f_Editor_authors sc_Editor_authors (fun vs H Q E h => ?_) (fun cdv A outer s H vs Q E hr h => ?_)
  · obtain ⟨_, _, _, _, _, rfl, _⟩ := h
    rfl
  · obtain ⟨e, n, S, F, c, rfl, ⟨B, he, hkb, hok⟩, k⟩ := h
    refine ⟨_, pss_one (ps_ret (pe_lc (own := [("action", 1)]) (g := gName 1) (tt := tYes) rfl sc_Editor_authors.nd (pi_list (pe_meth0 (pv 0) T.cl_Editor T.me_Editor_shown (ok_shown T) hr T.b_Editor_shown .nil pass0)) (blkOk_by (own := [("action", 1)]) (N := ["self", "action"]) (sc := defScope s_Editor_authors) (by decide +kernel))
          (fun _ _ _ _ _ => pg_name (i := 1) sc_Editor_authors.nd rfl (Or.inl rfl)) (fun _ _ _ _ _ => pts_nil)
          (fun _ _ _ _ _ => pe_ix (ixl_K K) (fld_K K (pv 0) rfl) (pv 1) (fun _ _ => rfl)))), ?_⟩
    have zl := he.z4 _ _ he.ro
    have e1 : (cont S Rl.order).length = S.order.length := by show (S.order.map nV).length = _; rw [List.length_map]
    rw [e1] at zl
    have zs := shown_len S
    have zc := he.zc
    refine ⟨_, rfl, e, B.dx, _, rfl, he.ob, eF_shown _ _ _ _ _ _ _, e, n, S, F, c, rfl, ⟨B, he, hkb, hok⟩, fun r H1 s1 hr0 hr1 => ?_⟩
    refine ⟨r, rfl, ⟨_, .of hr1⟩, fun D hD => lc_goY walk_list (by rw [List.length_map]; omega) (fun i => match S.shown[i]? with
      | some a => .str (S.own a)
      | none => .non) hD (fun H2 s2 => .of (s2 _ _ hr1)) ?_ ?_⟩
    · rintro i x H2 H3 Kt hi s2 ⟨rfl, hx⟩ kt
      obtain ⟨a, ha, rfl⟩ := map_at hx
      have he2 := he.same fun b o _ h => (s1.trans s2) b o h
      have al : a < S.owners.length := by rw [hok.ol]; exact shown_lt hok (List.mem_of_getElem? ha)
      have eq : (cont S .owners)[a]? = some (.str (S.own a)) := by
        show (S.owners.map V.str)[a]? = _
        rw [List.getElem?_map, List.getElem?_eq_getElem al]
        unfold Ed.own
        rw [List.getD_eq_getElem?_getD, List.getElem?_eq_getElem al]
        rfl
      refine ⟨rfl, _, rfl, e, _, B.dx, _, _, rfl, he2.ob, T.cl_Editor, T.no_Editor_owners, eF_owners _ _ _ _ _ _ _, _, rfl, B.w, _, _, _, rfl, rfl, .of (he2.li _ _ he.rw), atI_nat eq, ?_⟩
      rw [ha] at kt
      exact kt _ (Same.refl _)
    · intro H2 s2 hD2
      refine k D _ (s1.trans s2) (Same.free s1 hD) ?_
      rw [hD2, List.length_map]
      congr 2
      unfold Ed.auth
      rw [List.map_map]
      refine fm_map _ _ _ fun i x hx => ?_
      rw [hx]
      rfl
end
end K54
namespace K54
open PySem PySem.Spec PyProof.Rows L2
/-! ### one write at a time -/
theorem putK_len {κ : Type} [DecidableEq κ] (kvs : List (κ × V)) (k : κ) (v : V) : (putK kvs k v).length ≤ kvs.length + 1 := by
  unfold putK
  split
  · rw [List.length_map]; omega
  · rw [List.length_append, List.length_singleton]; omega
section
variable {K : PySem.W.Frag} {H : Hp} {e : Addr} {n : Nat} {ct : Rl → List V} {hid : Nat → Bool} {F : Addr → Prop} {c : Nat} {A : EdA}
theorem EdW.up (E : EdW K H e n ct hid F c A) {c' : Nat} (h : c ≤ c') (h' : c' ≤ 50000) : EdW K H e n ct hid F c' A :=
  { E with z1 := Nat.le_trans E.z1 h, z2 := Nat.le_trans E.z2 h, z3 := Nat.le_trans E.z3 h, z4 := fun a x q => Nat.le_trans (E.z4 a x q) h, zc := h' }
/-- a list gets new items -/
theorem EdW.put (E : EdW K H e n ct hid F c A) {a : Addr} {x : Rl} {ys : List V} (ra : A.r a = some x) (hl : ys.length ≤ c + 1) (hc : c + 1 ≤ 50000) : EdW K (upd H a (.lst ys)) e n (setAt ct x ys) hid F (c + 1) A := by
  have ha := E.li a x ra
  have nd : ∀ {b : Addr} {kvs : List (Key × V)}, H b = some (.dK kvs) → b ≠ a := fun q z => by subst z; rw [ha] at q; cases q
  have nx : ∀ {b : Addr} {y : Rl}, b ≠ a → A.r b = some y → y ≠ x := fun z rb q => by subst q; exact z (E.inj _ _ _ rb ra)
  refine { E with ob := ?_, li := ?_, hh := ?_, dh := ?_, uh := ?_, al := ?_, kd := ?_, ku := ?_, z1 := Nat.le_succ_of_le E.z1, z2 := Nat.le_succ_of_le E.z2, z3 := Nat.le_succ_of_le E.z3, z4 := ?_, zc := hc }
  · rw [upd_ne (fun z => by subst z; have q := E.ob; rw [ha] at q; cases q)]; exact E.ob
  · intro b y rb
    by_cases z : b = a
    · subst z
      rw [ra] at rb
      cases rb
      rw [upd_same, setAt_same]
    · rw [upd_ne z, setAt_ne (nx z rb)]
      exact E.li b y rb
  · rw [upd_ne (nd E.hh)]; exact E.hh
  · rw [upd_ne (nd E.dh)]; exact E.dh
  · rw [upd_ne (nd E.uh)]; exact E.uh
  · intro b hb
    by_cases z : b = a
    · subst z; exact ⟨_, upd_same⟩
    · rw [upd_ne z]; exact E.al b hb
  · intro u
    rcases E.kd u with q | ⟨q1, q2, q3⟩
    · exact .inl q
    · exact .inr ⟨q1, by rw [setAt_ne (fun z => q3 a (by rw [ra, z]))]; exact q2, q3⟩
  · intro u
    rcases E.ku u with q | ⟨q1, q2, q3⟩
    · exact .inl q
    · exact .inr ⟨q1, by rw [setAt_ne (fun z => q3 a (by rw [ra, z]))]; exact q2, q3⟩
  · intro b y rb
    by_cases z : b = a
    · subst z
      rw [ra] at rb
      cases rb
      rw [setAt_same]
      exact hl
    · rw [setAt_ne (nx z rb)]
      exact Nat.le_succ_of_le (E.z4 b y rb)
def addF (F : Addr → Prop) (z : Addr) : Addr → Prop := fun b => F b ∨ b = z
/-- a user's first list of done actions -/
theorem EdW.newDone (E : EdW K H e n ct hid F c A) {u : Str} {z : Addr} (hz : H z = none) (hk : valV A.dk (.inr u) = none) (hc : c + 1 ≤ 50000) :
    EdW K (upd (upd H z (.lst [])) A.d (.dK (putK A.dk (.inr u) (.ref z)))) e n ct hid (addF F z) (c + 1) { A with dk := putK A.dk (.inr u) (.ref z), r := setAt A.r z (some (.done u)) } := by
  have zf : ¬ F z := fun q => by obtain ⟨o, q⟩ := E.al z q; rw [hz] at q; cases q
  have rz : A.r z = none := by
    cases q : A.r z with
    | none => rfl
    | some x => exact absurd (E.fi z x q) zf
  obtain ⟨hct, hno⟩ : ct (.done u) = [] ∧ ∀ a, A.r a ≠ some (.done u) := by
    rcases E.kd u with ⟨a, q, _⟩ | q
    · rw [hk] at q; cases q
    · exact q.2
  have go : ∀ {b : Addr} {o : HO}, H b = some o → b ≠ A.d → upd (upd H z (.lst [])) A.d (.dK (putK A.dk (.inr u) (.ref z))) b = some o := fun q nb => by
    rw [upd_ne nb, upd_ne (ne_of_none q hz)]; exact q
  have dz : A.d ≠ z := ne_of_none E.dh hz
  have rne : ∀ {b : Addr} {x : Rl}, A.r b = some x → b ≠ z := fun q q2 => by subst q2; rw [rz] at q; cases q
  have keep : ∀ {b : Addr} {x : Rl}, A.r b = some x → setAt A.r z (some (.done u)) b = some x := fun q => by rw [setAt_ne (rne q)]; exact q
  refine { ob := go E.ob (fun q => ?_), ro := keep E.ro, rl := keep E.rl, rw := keep E.rw, li := ?_, fi := ?_, inj := ?_, hh := go E.hh E.n1, dh := upd_same, uh := go E.uh E.n3.symm, n1 := E.n1, n2 := E.n2, n3 := E.n3,
           fe := .inl E.fe, f1 := .inl E.f1, f2 := .inl E.f2, f3 := .inl E.f3, al := ?_, kh := E.kh, kd := ?_, ku := ?_, z1 := Nat.le_succ_of_le E.z1, z2 := ?_, z3 := Nat.le_succ_of_le E.z3, z4 := ?_, zc := hc }
  · have q1 := E.ob; rw [q, E.dh] at q1; cases q1
  · intro b x rb
    have rb' : setAt A.r z (some (.done u)) b = some x := rb
    by_cases q : b = z
    · subst q
      rw [setAt_same] at rb'
      cases rb'
      rw [upd_ne dz.symm, upd_same, hct]
    · rw [setAt_ne q] at rb'
      exact go (E.li b x rb') (fun q2 => by have q1 := E.li b x rb'; rw [q2, E.dh] at q1; cases q1)
  · intro b x rb
    have rb' : setAt A.r z (some (.done u)) b = some x := rb
    by_cases q : b = z
    · exact .inr q
    · rw [setAt_ne q] at rb'; exact .inl (E.fi b x rb')
  · intro a b x ra rb
    have ra' : setAt A.r z (some (.done u)) a = some x := ra
    have rb' : setAt A.r z (some (.done u)) b = some x := rb
    by_cases qa : a = z
    · by_cases qb : b = z
      · rw [qa, qb]
      · rw [qa, setAt_same] at ra'
        cases ra'
        rw [setAt_ne qb] at rb'
        exact absurd rb' (hno b)
    · rw [setAt_ne qa] at ra'
      by_cases qb : b = z
      · rw [qb, setAt_same] at rb'
        cases rb'
        exact absurd ra' (hno a)
      · rw [setAt_ne qb] at rb'
        exact E.inj a b x ra' rb'
  · intro b hb
    by_cases q : b = A.d
    · subst q; exact ⟨_, upd_same⟩
    · rw [upd_ne q]
      by_cases q2 : b = z
      · subst q2; exact ⟨_, upd_same⟩
      · rw [upd_ne q2]
        rcases hb with hb | hb
        · exact E.al b hb
        · exact absurd hb q2
  · intro v
    show (∃ a, valV (putK A.dk (.inr u) (.ref z)) (.inr v) = some (.ref a) ∧ setAt A.r z (some (.done u)) a = some (.done v)) ∨ (valV (putK A.dk (.inr u) (.ref z)) (.inr v) = none ∧ ct (.done v) = [] ∧ ∀ a, setAt A.r z (some (.done u)) a ≠ some (.done v))
    rw [valV_put]
    by_cases q : v = u
    · subst q
      exact .inl ⟨z, by rw [if_pos rfl], setAt_same⟩
    · rw [if_neg (fun w => q (Sum.inr.inj w))]
      rcases E.kd v with ⟨a, q1, q2⟩ | ⟨q1, q2, q3⟩
      · exact .inl ⟨a, q1, keep q2⟩
      · refine .inr ⟨q1, q2, fun a w => ?_⟩
        by_cases qa : a = z
        · rw [qa, setAt_same] at w; cases w; exact q rfl
        · rw [setAt_ne qa] at w; exact q3 a w
  · intro v
    rcases E.ku v with ⟨a, q1, q2⟩ | ⟨q1, q2, q3⟩
    · exact .inl ⟨a, q1, keep q2⟩
    · refine .inr ⟨q1, q2, fun a w => ?_⟩
      have w' : setAt A.r z (some (.done u)) a = some (.undone v) := w
      by_cases qa : a = z
      · rw [qa, setAt_same] at w'; cases w'
      · rw [setAt_ne qa] at w'; exact q3 a w'
  · have := putK_len A.dk (.inr u) (.ref z)
    have := E.z2
    show (putK A.dk (.inr u) (.ref z)).length ≤ c + 1
    omega
  · intro b x rb
    have rb' : setAt A.r z (some (.done u)) b = some x := rb
    by_cases q : b = z
    · rw [q, setAt_same] at rb'
      cases rb'
      rw [hct]
      exact Nat.zero_le _
    · rw [setAt_ne q] at rb'
      exact Nat.le_succ_of_le (E.z4 b x rb')
/-- a user's list of undone actions is new and empty -/
theorem EdW.newUndone (E : EdW K H e n ct hid F c A) {u : Str} {z : Addr} (hz : H z = none) (hc : c + 1 ≤ 50000) :
    EdW K (upd (upd H z (.lst [])) A.u (.dK (putK A.uk (.inr u) (.ref z)))) e n (setAt ct (.undone u) []) hid (addF F z) (c + 1)
      { A with uk := putK A.uk (.inr u) (.ref z), r := fun b => if b = z then some (.undone u) else if A.r b = some (.undone u) then none else A.r b } := by
  have zf : ¬ F z := fun q => by obtain ⟨o, q⟩ := E.al z q; rw [hz] at q; cases q
  have rz : A.r z = none := by
    cases q : A.r z with
    | none => rfl
    | some x => exact absurd (E.fi z x q) zf
  have go : ∀ {b : Addr} {o : HO}, H b = some o → b ≠ A.u → upd (upd H z (.lst [])) A.u (.dK (putK A.uk (.inr u) (.ref z))) b = some o := fun q nb => by
    rw [upd_ne nb, upd_ne (ne_of_none q hz)]; exact q
  have dz : A.u ≠ z := ne_of_none E.uh hz
  have rne : ∀ {b : Addr} {x : Rl}, A.r b = some x → b ≠ z := fun q q2 => by subst q2; rw [rz] at q; cases q
  have keep : ∀ {b : Addr} {x : Rl}, A.r b = some x → x ≠ .undone u → (if b = z then some (Rl.undone u) else if A.r b = some (.undone u) then none else A.r b) = some x := fun q nx => by
    rw [if_neg (rne q), if_neg (fun w => by rw [q] at w; exact nx (Option.some.inj w))]; exact q
  have back : ∀ {b : Addr} {x : Rl}, (if b = z then some (Rl.undone u) else if A.r b = some (.undone u) then none else A.r b) = some x → (b = z ∧ x = .undone u) ∨ (b ≠ z ∧ x ≠ .undone u ∧ A.r b = some x) := fun {b x} q => by
    by_cases qb : b = z
    · rw [if_pos qb] at q; exact .inl ⟨qb, (Option.some.inj q).symm⟩
    · rw [if_neg qb] at q
      by_cases qr : A.r b = some (.undone u)
      · rw [if_pos qr] at q; cases q
      · rw [if_neg qr] at q
        exact .inr ⟨qb, fun w => qr (w ▸ q), q⟩
  refine { ob := go E.ob (fun q => ?_), ro := keep E.ro (by intro w; cases w), rl := keep E.rl (by intro w; cases w), rw := keep E.rw (by intro w; cases w), li := ?_, fi := ?_, inj := ?_, hh := go E.hh E.n2, dh := go E.dh E.n3, uh := upd_same, n1 := E.n1, n2 := E.n2, n3 := E.n3,
           fe := .inl E.fe, f1 := .inl E.f1, f2 := .inl E.f2, f3 := .inl E.f3, al := ?_, kh := E.kh, kd := ?_, ku := ?_, z1 := Nat.le_succ_of_le E.z1, z2 := Nat.le_succ_of_le E.z2, z3 := ?_, z4 := ?_, zc := hc }
  · have q1 := E.ob; rw [q, E.uh] at q1; cases q1
  · intro b x rb
    rcases back rb with ⟨q1, q2⟩ | ⟨q1, q2, q3⟩
    · subst q1 q2
      rw [upd_ne dz.symm, upd_same, setAt_same]
    · rw [setAt_ne q2]
      exact go (E.li b x q3) (fun w => by have w1 := E.li b x q3; rw [w, E.uh] at w1; cases w1)
  · intro b x rb
    rcases back rb with ⟨q1, q2⟩ | ⟨q1, q2, q3⟩
    · exact .inr q1
    · exact .inl (E.fi b x q3)
  · intro a b x ra rb
    rcases back ra with ⟨q1, q2⟩ | ⟨q1, q2, q3⟩
    · rcases back rb with ⟨p1, p2⟩ | ⟨p1, p2, p3⟩
      · rw [q1, p1]
      · exact absurd q2 p2
    · rcases back rb with ⟨p1, p2⟩ | ⟨p1, p2, p3⟩
      · exact absurd p2 q2
      · exact E.inj a b x q3 p3
  · intro b hb
    by_cases q : b = A.u
    · subst q; exact ⟨_, upd_same⟩
    · rw [upd_ne q]
      by_cases q2 : b = z
      · subst q2; exact ⟨_, upd_same⟩
      · rw [upd_ne q2]
        rcases hb with hb | hb
        · exact E.al b hb
        · exact absurd hb q2
  · intro v
    rw [setAt_ne (show Rl.done v ≠ .undone u by intro w; cases w)]
    rcases E.kd v with ⟨a, q1, q2⟩ | ⟨q1, q2, q3⟩
    · exact .inl ⟨a, q1, keep q2 (by intro w; cases w)⟩
    · refine .inr ⟨q1, q2, fun a w => ?_⟩
      rcases back w with ⟨_, w2⟩ | ⟨_, _, w3⟩
      · cases w2
      · exact q3 a w3
  · intro v
    show (∃ a, valV (putK A.uk (.inr u) (.ref z)) (.inr v) = some (.ref a) ∧ (if a = z then some (Rl.undone u) else if A.r a = some (.undone u) then none else A.r a) = some (.undone v)) ∨ (valV (putK A.uk (.inr u) (.ref z)) (.inr v) = none ∧ setAt ct (.undone u) [] (.undone v) = [] ∧ ∀ a, (if a = z then some (Rl.undone u) else if A.r a = some (.undone u) then none else A.r a) ≠ some (.undone v))
    rw [valV_put]
    by_cases q : v = u
    · subst q
      exact .inl ⟨z, by rw [if_pos rfl], by rw [if_pos rfl]⟩
    · have nq : Rl.undone v ≠ .undone u := fun w => q (by cases w; rfl)
      rw [if_neg (fun w => q (Sum.inr.inj w)), setAt_ne nq]
      rcases E.ku v with ⟨a, q1, q2⟩ | ⟨q1, q2, q3⟩
      · exact .inl ⟨a, q1, keep q2 nq⟩
      · refine .inr ⟨q1, q2, fun a w => ?_⟩
        rcases back w with ⟨_, w2⟩ | ⟨_, _, w3⟩
        · exact nq w2
        · exact q3 a w3
  · have := putK_len A.uk (.inr u) (.ref z)
    have := E.z3
    show (putK A.uk (.inr u) (.ref z)).length ≤ c + 1
    omega
  · intro b x rb
    rcases back rb with ⟨q1, q2⟩ | ⟨q1, q2, q3⟩
    · subst q2; rw [setAt_same]; exact Nat.zero_le _
    · rw [setAt_ne q2]
      exact Nat.le_succ_of_le (E.z4 b x q3)
theorem valV_drop_ {κ : Type} [DecidableEq κ] (k j : κ) : ∀ kvs : List (κ × V), valV (dropK kvs k) j = if j = k then none else valV kvs j
  | [] => by
    by_cases e : j = k
    · rw [if_pos e]; rfl
    · rw [if_neg e]; rfl
  | p :: r => by
    have ih := valV_drop_ k j r
    unfold dropK at ih ⊢
    rw [List.filter_cons]
    by_cases h : p.1 = k
    · rw [if_neg (by simpa using h), ih]
      by_cases e : j = k
      · rw [if_pos e, if_pos e]
      · rw [if_neg e, if_neg e, valV_neg (fun z => e (z.symm.trans h))]
    · rw [if_pos (by simpa using h)]
      by_cases e : p.1 = j
      · rw [valV_pos e, valV_pos e, if_neg (fun z => h (e.trans z))]
      · rw [valV_neg e, valV_neg e, ih]
theorem int_inj {a b : Nat} (h : a ≠ b) : ¬ (Sum.inl (a : Int) : Key) = Sum.inl (b : Int) := fun z => h (by injection z with z; omega)
/-- an action is hidden; is shown -/
theorem EdW.hide (E : EdW K H e n ct hid F c A) {i : Nat} {v : V} (hc : c + 1 ≤ 50000) : EdW K (upd H A.h (.dK (putK A.hk (.inl (i : Int)) v))) e n ct (setAt hid i true) F (c + 1) { A with hk := putK A.hk (.inl (i : Int)) v } := by
  have go : ∀ {b : Addr} {o : HO}, H b = some o → b ≠ A.h → upd H A.h (.dK (putK A.hk (.inl (i : Int)) v)) b = some o := fun q nb => by rw [upd_ne nb]; exact q
  refine { E with ob := go E.ob (fun q => ?_), li := fun a x ra => go (E.li a x ra) (fun q => ?_), hh := upd_same, dh := go E.dh E.n1.symm, uh := go E.uh E.n2.symm, al := fun b hb => ?_, kh := fun j => ?_, z1 := ?_, z2 := Nat.le_succ_of_le E.z2, z3 := Nat.le_succ_of_le E.z3, z4 := fun a x ra => Nat.le_succ_of_le (E.z4 a x ra), zc := hc }
  · have q1 := E.ob; rw [q, E.hh] at q1; cases q1
  · have q1 := E.li a x ra; rw [q, E.hh] at q1; cases q1
  · by_cases q : b = A.h
    · subst q; exact ⟨_, upd_same⟩
    · rw [upd_ne q]; exact E.al b hb
  · show (valV (putK A.hk (.inl (i : Int)) v) (.inl (j : Int))).isSome = setAt hid i true j
    rw [valV_put]
    by_cases q : j = i
    · subst q; rw [if_pos rfl, setAt_same]; rfl
    · rw [if_neg (int_inj q), setAt_ne q]; exact E.kh j
  · have := putK_len A.hk (.inl (i : Int)) v
    have := E.z1
    show (putK A.hk (.inl (i : Int)) v).length ≤ c + 1
    omega
theorem EdW.show_ (E : EdW K H e n ct hid F c A) {i : Nat} : EdW K (upd H A.h (.dK (dropK A.hk (.inl (i : Int))))) e n ct (setAt hid i false) F c { A with hk := dropK A.hk (.inl (i : Int)) } := by
  have go : ∀ {b : Addr} {o : HO}, H b = some o → b ≠ A.h → upd H A.h (.dK (dropK A.hk (.inl (i : Int)))) b = some o := fun q nb => by rw [upd_ne nb]; exact q
  refine { E with ob := go E.ob (fun q => ?_), li := fun a x ra => go (E.li a x ra) (fun q => ?_), hh := upd_same, dh := go E.dh E.n1.symm, uh := go E.uh E.n2.symm, al := fun b hb => ?_, kh := fun j => ?_, z1 := ?_ }
  · have q1 := E.ob; rw [q, E.hh] at q1; cases q1
  · have q1 := E.li a x ra; rw [q, E.hh] at q1; cases q1
  · by_cases q : b = A.h
    · subst q; exact ⟨_, upd_same⟩
    · rw [upd_ne q]; exact E.al b hb
  · show (valV (dropK A.hk (.inl (i : Int))) (.inl (j : Int))).isSome = setAt hid i false j
    rw [valV_drop_]
    by_cases q : j = i
    · subst q; rw [if_pos rfl, setAt_same]; rfl
    · rw [if_neg (int_inj q), setAt_ne q]; exact E.kh j
  · exact Nat.le_trans (List.length_filter_le _ _) E.z1
end
end K54
namespace K54
open PySem PySem.Spec PyProof.Rows L2
/-! ### from one heap to a later one, the editor alone written -/
structure Stp (K : PySem.W.Frag) (H : Hp) (e : Addr) (n : Nat) (F : Addr → Prop) (H1 : Hp) (ct : Rl → List V) (hid : Nat → Bool) (F1 : Addr → Prop) (c : Nat) (A : EdA) : Prop where
  ed : EdW K H1 e n ct hid F1 c A
  off : Off F H H1
  gr : Grow F F1 H
section
variable {K : PySem.W.Frag} {H H1 H2 : Hp} {e : Addr} {n : Nat} {F F1 : Addr → Prop} {ct : Rl → List V} {hid : Nat → Bool} {c : Nat} {A : EdA}
theorem Stp.start (E : EdW K H e n ct hid F c A) : Stp K H e n F H ct hid F c A := ⟨E, fun _ _ _ h => h, fun _ h => h, fun _ h => .inl h⟩
theorem Stp.same (s : Stp K H e n F H1 ct hid F1 c A) (t : Same H1 H2) : Stp K H e n F H2 ct hid F1 c A := ⟨s.ed.same fun b o _ h => t b o h, fun b o nf h => t _ _ (s.off b o nf h), s.gr⟩
theorem Stp.offU (s : Stp K H e n F H1 ct hid F1 c A) {z : Addr} (hz : F1 z) (o1 : HO) : Off F H (upd H1 z o1) := fun b o nf h => by
  rw [upd_ne (fun q => ?_)]
  · exact s.off b o nf h
  · subst q
    rcases s.gr.2 b hz with q | q
    · exact nf q
    · rw [h] at q; cases q
theorem Stp.free (s : Stp K H e n F H1 ct hid F1 c A) {z : Addr} (hz : H1 z = none) : H z = none := by
  cases q : H z with
  | none => rfl
  | some o =>
    by_cases f : F z
    · obtain ⟨o2, q2⟩ := s.ed.al z (s.gr.1 z f)
      rw [hz] at q2; cases q2
    · rw [s.off z o f q] at hz; cases hz
theorem Stp.put (s : Stp K H e n F H1 ct hid F1 c A) {a : Addr} {x : Rl} {ys : List V} (ra : A.r a = some x) (hl : ys.length ≤ c + 1) (hc : c + 1 ≤ 50000) : Stp K H e n F (upd H1 a (.lst ys)) (setAt ct x ys) hid F1 (c + 1) A :=
  ⟨s.ed.put ra hl hc, s.offU (s.ed.fi a x ra) _, s.gr⟩
theorem Stp.new2 (s : Stp K H e n F H1 ct hid F1 c A) {z d : Addr} (hz : H1 z = none) (hd : F1 d) (o1 o2 : HO) : Off F H (upd (upd H1 z o1) d o2) ∧ Grow F (addF F1 z) H := by
  refine ⟨fun b o nf h => ?_, fun b h => .inl (s.gr.1 b h), fun b h => ?_⟩
  · rw [upd_ne (fun q => ?_), upd_ne (ne_of_none (s.off b o nf h) hz)]
    · exact s.off b o nf h
    · subst q
      rcases s.gr.2 b hd with q | q
      · exact nf q
      · rw [h] at q; cases q
  · rcases h with h | h
    · exact s.gr.2 b h
    · subst h; exact .inr (s.free hz)
theorem Stp.newDone (s : Stp K H e n F H1 ct hid F1 c A) {u : Str} {z : Addr} (hz : H1 z = none) (hk : valV A.dk (.inr u) = none) (hc : c + 1 ≤ 50000) :
    Stp K H e n F (upd (upd H1 z (.lst [])) A.d (.dK (putK A.dk (.inr u) (.ref z)))) ct hid (addF F1 z) (c + 1) { A with dk := putK A.dk (.inr u) (.ref z), r := setAt A.r z (some (.done u)) } :=
  ⟨s.ed.newDone hz hk hc, (s.new2 hz s.ed.f2 _ _).1, (s.new2 hz s.ed.f2 (.lst []) (.lst [])).2⟩
theorem Stp.newUndone (s : Stp K H e n F H1 ct hid F1 c A) {u : Str} {z : Addr} (hz : H1 z = none) (hc : c + 1 ≤ 50000) :
    Stp K H e n F (upd (upd H1 z (.lst [])) A.u (.dK (putK A.uk (.inr u) (.ref z)))) (setAt ct (.undone u) []) hid (addF F1 z) (c + 1)
      { A with uk := putK A.uk (.inr u) (.ref z), r := fun b => if b = z then some (.undone u) else if A.r b = some (.undone u) then none else A.r b } :=
  ⟨s.ed.newUndone hz hc, (s.new2 hz s.ed.f3 _ _).1, (s.new2 hz s.ed.f3 (.lst []) (.lst [])).2⟩
theorem Stp.hide (s : Stp K H e n F H1 ct hid F1 c A) {i : Nat} {v : V} (hc : c + 1 ≤ 50000) : Stp K H e n F (upd H1 A.h (.dK (putK A.hk (.inl (i : Int)) v))) ct (setAt hid i true) F1 (c + 1) { A with hk := putK A.hk (.inl (i : Int)) v } :=
  ⟨s.ed.hide hc, s.offU s.ed.f1 _, s.gr⟩
theorem Stp.show_ (s : Stp K H e n F H1 ct hid F1 c A) {i : Nat} : Stp K H e n F (upd H1 A.h (.dK (dropK A.hk (.inl (i : Int))))) ct (setAt hid i false) F1 c { A with hk := dropK A.hk (.inl (i : Int)) } :=
  ⟨s.ed.show_, s.offU s.ed.f1 _, s.gr⟩
end
theorem idx_first (a : Nat) : ∀ (l : List Nat), a ∈ l → l[l.idxOf a]? = some a ∧ ∀ (m : Nat) (z : Nat), m < l.idxOf a → l[m]? = some z → z ≠ a
  | [], h => by cases h
  | b :: l, h => by
    rw [List.idxOf_cons]
    by_cases e : b = a
    · subst e
      rw [beq_self_eq_true]
      exact ⟨rfl, fun m z hm => absurd hm (Nat.not_lt_zero m)⟩
    · have e2 : (b == a) = false := by simpa using e
      rw [e2]
      have ha : a ∈ l := by
        rcases List.mem_cons.mp h with q | q
        · exact absurd q.symm e
        · exact q
      obtain ⟨h1, h2⟩ := idx_first a l ha
      refine ⟨h1, fun m z hm hz => ?_⟩
      cases m with
      | zero =>
        have q : b = z := Option.some.inj hz
        subst q
        exact e
      | succ m => exact h2 m z (Nat.lt_of_succ_lt_succ hm) hz
theorem eqV_nat {a b : Nat} : eqV (nV a) (nV b) = decide (a = b) := by
  show ((a : Int) == (b : Int)) = decide (a = b)
  rw [Bool.eq_iff_iff]
  simp
  omega
theorem flat_nats (l : List Nat) : (l.map nV).all flatV = true := by
  rw [List.all_eq_true]
  intro y hy
  obtain ⟨z, _, rfl⟩ := List.mem_map.mp hy
  rfl
theorem cont_ins (S : Ed Str) (u : Str) (pos : Nat) (l : Int) :
    setAt (setAt (setAt (setAt (setAt (cont S) .order ((S.order.take (S.place pos) ++ S.letters.length :: S.order.drop (S.place pos)).map nV)) (.done u) ((S.done u ++ [S.letters.length]).map nV)) (.undone u) []) .letters ((S.letters ++ [l]).map V.int)) .owners ((S.owners ++ [u]).map V.str) = cont (S.ins u pos l) := by
  funext x
  cases x with
  | order => rfl
  | letters => rfl
  | owners => rfl
  | done v =>
    by_cases q : v = u
    · subst q
      rw [setAt_ne (by intro w; cases w), setAt_ne (by intro w; cases w), setAt_ne (by intro w; cases w), setAt_same]
      show _ = (setAt S.done v _ v).map nV
      rw [setAt_same]
    · rw [setAt_ne (by intro w; cases w), setAt_ne (by intro w; cases w), setAt_ne (by intro w; cases w), setAt_ne (by intro w; cases w; exact q rfl), setAt_ne (by intro w; cases w)]
      show _ = (setAt S.done u _ v).map nV
      rw [setAt_ne q]
      rfl
  | undone v =>
    by_cases q : v = u
    · subst q
      rw [setAt_ne (by intro w; cases w), setAt_ne (by intro w; cases w), setAt_same]
      show _ = (setAt S.undone v _ v).map nV
      rw [setAt_same]
      rfl
    · rw [setAt_ne (by intro w; cases w), setAt_ne (by intro w; cases w), setAt_ne (by intro w; cases w; exact q rfl), setAt_ne (by intro w; cases w), setAt_ne (by intro w; cases w)]
      show _ = (setAt S.undone u _ v).map nV
      rw [setAt_ne q]
      rfl
section
variable {P : Program} {w : World} {K : PySem.W.Frag} {mg : Str → Option Value} {ex : PySem.W.Frag → Bool} {base : Heap}
def spIns (K : PySem.W.Frag) : Sp := fun vs H Q _ => ∃ (e : Addr) (n : Nat) (S : Ed Str) (F : Addr → Prop) (c : Nat) (u : Str) (pos : Nat) (l : Int), vs = [.ref e, .str u, .int (pos : Nat), .int l] ∧ EdAt K H e n S F c ∧ nameB u = true ∧ pos ≤ S.shown.length ∧ 0 ≤ l ∧ l + 2 ≤ (n : Int) ∧ c + 6 ≤ 50000 ∧
  ∀ H' F', Off F H H' → Grow F F' H → EdAt K H' e n (S.ins u pos l) F' (c + 6) → Q .non H'
theorem ok_ins (T : Top K mg ex) : FnOk P w K mg base CX0 3 (He.ma K (cEd K) "insert") (fdOf K a_Editor_insert) ["self", "user", "position", "letter"] (spIns K) := by
  obtain ⟨ds, rd, bd⟩ := b_int1 T
  refine fok T.f_Editor_insert sc_Editor_insert (fun vs H Q E h => ?_) (fun cdv A outer s H vs Q E hr h => ?_)
  · obtain ⟨_, _, _, _, _, _, _, _, rfl, _⟩ := h
    rfl
  · obtain ⟨e, n, S, F, c, u, pos, l, rfl, ⟨B, he, hkb, hok⟩, hn, hp, l0, l1, hc, k⟩ := h
    have hu := hu_of hr
    refine ⟨_, pss_cons (ps_expr (pe_call (ok_ckname T) hr (by rfl) T.g_check_name T.f_check_name.kp T.b_check_name .nil pass0 (pa_cons (pv 1) pa_nil))) <|
      pss_cons (ps_set (i := 4) sc_Editor_insert.nd rfl (Or.inl rfl) (pe_meth0 (pv 0) T.cl_Editor T.me_Editor_shown (ok_shown T) (hr.mono (by decide)) T.b_Editor_shown .nil pass0)) <|
      pss_cons (ps_if (PW.pt (pw_or (pt_not (pt_val (pe_call (ok_int T) (hr.mono (by decide)) (by rfl) T.g_is_integer T.f_is_integer.kp bd rd pass0 (pa_cons (pv 2) pa_nil))))
        (pw_or1 (pt_cmpR op_gt (pv 2) (pe_callB call_len_seq (by rfl) T.z_len PySem.boot_len (pa_cons (pv 4) pa_nil)) (nomark _))))) (pss_one ps_never) pss_nil) <|
      pss_cons (ps_if (pt_not (pt_val (pe_call (ok_let T) hr (by rfl) T.g_is_letter T.f_is_letter.kp T.b_is_letter .nil pass0 (pa_cons (pe_fld (pv 0) rfl) (pa_cons (pv 3) pa_nil))))) (pss_one ps_never) pss_nil) <|
      pss_cons (ps_set (i := 5) sc_Editor_insert.nd rfl (Or.inl rfl) (pe_ifExp (pt_cmpR op_lt (pv 2) (pe_callB call_len_seq (by rfl) T.z_len PySem.boot_len (pa_cons (pv 4) pa_nil)) (nomark _))
        (pe_bm PySem.F.plainAttrs_list PySem.F.slot_list_index PySem.F.type_list_index mt_index (pe_fld (pv 0) rfl) (pa_cons (pe_ix ix_list (pv 4) (pv 2) (fun _ _ => rfl)) pa_nil))
        (pe_callB call_len_seq (by rfl) T.z_len PySem.boot_len (pa_cons (pe_fld (pv 0) rfl) pa_nil)))) <|
      pss_cons (ps_expr (pe_bm PySem.F.plainAttrs_list PySem.F.slot_list_insert PySem.F.type_list_insert mt_insert (pe_fld (pv 0) rfl) (pa_cons (pv 5) (pa_cons (pe_callB call_len_seq (by rfl) T.z_len PySem.boot_len (pa_cons (pe_fld (pv 0) rfl) pa_nil)) pa_nil)))) <|
      pss_cons (ps_expr (pe_bm PySem.F.plainAttrs_list PySem.F.slot_list_append PySem.F.type_list_append mt_append (pe_dsetd (pe_fld (pv 0) rfl) (pv 1) (pe_lst pa_nil) ⟨by rfl, by rfl, by rfl, by rfl⟩) (pa_cons (pe_callB call_len_seq (by rfl) T.z_len PySem.boot_len (pa_cons (pe_fld (pv 0) rfl) pa_nil)) pa_nil))) <|
      pss_cons (ps_dput hu (pe_fld (pv 0) rfl) (pv 1) (pe_lst pa_nil) rfl) <|
      pss_cons (ps_expr (pe_bm PySem.F.plainAttrs_list PySem.F.slot_list_append PySem.F.type_list_append mt_append (pe_fld (pv 0) rfl) (pa_cons (pv 3) pa_nil))) <|
      pss_one (ps_expr (pe_bm PySem.F.plainAttrs_list PySem.F.slot_list_append PySem.F.type_list_append mt_append (pe_fld (pv 0) rfl) (pa_cons (pv 1) pa_nil))), ?_⟩
    refine ⟨_, rfl, u, rfl, hn, fun H1 s1 => ?_⟩
    have p1 := (Stp.start he).same s1
    refine ⟨_, rfl, e, B.dx, _, rfl, p1.ed.ob, eF_shown _ _ _ _ _ _ _, e, n, S, F, c, rfl, ⟨B, p1.ed, hkb, hok⟩, fun r H2 s2 hr0 hr1 => ?_⟩
    have p2 := p1.same s2
    refine ⟨_, rfl, _, _, rfl, _, rfl, ?_⟩
    rw [decide_eq_true (show (0 : Int) ≤ (pos : Int) by omega)]
    refine iteF ⟨_, rfl, _, rfl, r, _, rfl, .inl (.of hr1), _, _, rfl, rfl, _, rfl, ite2 (fun z => absurd (of_decide_eq_true z) (by rw [List.length_map]; omega)) fun _ => ?_⟩
    refine ⟨_, rfl, e, _, B.dx, _, _, rfl, p2.ed.ob, T.cl_Editor, T.no_Editor_width, eF_width _ _ _ _ _ _ _, _, rfl, _, l, rfl, _, rfl, ?_⟩
    rw [decide_eq_true l0, decide_eq_true (show l ≤ (n : Int) - 2 by omega)]
    refine iteF ?_
    have zo : (cont S .order).length ≤ c := he.z4 _ _ he.ro
    have zl : (cont S .letters).length ≤ c := he.z4 _ _ he.rl
    have zw : (cont S .owners).length ≤ c := he.z4 _ _ he.rw
    have eo : (cont S .order).length = S.order.length := by show (S.order.map nV).length = _; rw [List.length_map]
    have el : (cont S .letters).length = S.letters.length := by show (S.letters.map V.int).length = _; rw [List.length_map]
    have ew : (cont S .owners).length = S.owners.length := by show (S.owners.map V.str).length = _; rw [List.length_map]
    have pl : S.place pos ≤ S.order.length := by
      unfold Ed.place
      split
      · exact List.idxOf_le_length
      · exact Nat.le_refl _
    have tail : True := trivial
    have ho2 : H2 B.o = some (.lst (S.order.map nV)) := p2.ed.li _ _ he.ro
    have step : ∀ {b : Bool} {A1 A2 : Prop}, (b = true → A1) → (b = false → A2) → (if b = true then A1 else A2) := fun {b A1 A2} h1 h2 => by
      cases b with
      | true => exact h1 rfl
      | false => exact h2 rfl
    have hl2 : H2 B.l = some (.lst (S.letters.map V.int)) := p2.ed.li _ _ he.rl
    refine ⟨_, rfl, _, rfl, r, _, rfl, .inl (.of hr1), _, _, rfl, rfl, _, rfl, step (fun z => ?_) (fun z => ?_)⟩
    have hlt : pos < S.shown.length := by have := of_decide_eq_true z; rw [List.length_map] at this; omega
    have ha0 : S.shown[pos]? = some S.shown[pos] := List.getElem?_eq_getElem hlt
    have mem0 : S.shown[pos] ∈ S.order := (List.mem_filter.mp (List.getElem_mem hlt)).1
    obtain ⟨i1, i2⟩ := idx_first S.shown[pos] S.order mem0
    have epl : S.place pos = S.order.idxOf S.shown[pos] := by
      unfold Ed.place
      rw [if_pos hlt, List.getD_eq_getElem?_getD, ha0]
      rfl
    refine ⟨_, rfl, e, _, B.dx, _, _, rfl, p2.ed.ob, T.cl_Editor, T.no_Editor_order, eF_order _ _ _ _ _ _ _, .inl ⟨rfl, _, .of ho2⟩, _, rfl, _, rfl, r, _, _, _, rfl, rfl, .of hr1, atI_nat (by rw [List.getElem?_map, ha0]; rfl), ?_⟩
    refine ⟨B.o, _, nV S.shown[pos], S.order.idxOf S.shown[pos], nV S.shown[pos], rfl, rfl, .of ho2, rfl, flat_nats _, by rw [List.getElem?_map, i1]; rfl, by rw [eqV_nat]; simp, fun m z' hm hz => ?_, ?_⟩
    · obtain ⟨z0, hz0, rfl⟩ := map_at hz
      rw [eqV_nat]
      exact decide_eq_false (i2 m z0 hm hz0)
    rw [← epl]
    rotate_left
    have hge : ¬ pos < S.shown.length := by have := of_decide_eq_false z; rw [List.length_map] at this; omega
    have epl : S.place pos = S.order.length := by
      unfold Ed.place
      rw [if_neg hge]
    refine ⟨_, rfl, e, _, B.dx, _, _, rfl, p2.ed.ob, T.cl_Editor, T.no_Editor_order, eF_order _ _ _ _ _ _ _, B.o, _, rfl, .inl (.of ho2), ?_⟩
    rw [List.length_map, ← epl]
    all_goals
      refine ⟨_, rfl, e, _, B.dx, _, _, rfl, p2.ed.ob, T.cl_Editor, T.no_Editor_order, eF_order _ _ _ _ _ _ _, .inl ⟨rfl, _, .of ho2⟩, _, rfl, _, rfl, e, _, B.dx, _, _, rfl, p2.ed.ob, T.cl_Editor, T.no_Editor_letters, eF_letters _ _ _ _ _ _ _, B.l, _, rfl, .inl (.of hl2), ?_⟩
      refine ⟨B.o, _, _, _, rfl, rfl, ho2, line_lt (by rw [List.length_map]; omega), by omega, by omega, ?_⟩
      have e3 : (S.order.map nV).take ((S.place pos : Nat) : Int).toNat ++ [V.int (((S.letters.map V.int).length : Nat) : Int)] ++ (S.order.map nV).drop ((S.place pos : Nat) : Int).toNat = (S.order.take (S.place pos) ++ S.letters.length :: S.order.drop (S.place pos)).map nV := by
        rw [Int.toNat_natCast, List.length_map, List.map_append, List.map_cons, List.map_take, List.map_drop, List.append_assoc]
        rfl
      rw [e3]
      have p3 := p2.put (ys := (S.order.take (S.place pos) ++ S.letters.length :: S.order.drop (S.place pos)).map nV) he.ro (by rw [List.length_map, List.length_append, List.length_cons, List.length_take, List.length_drop]; omega) (by omega)
      generalize upd H2 B.o (.lst ((S.order.take (S.place pos) ++ S.letters.length :: S.order.drop (S.place pos)).map nV)) = H3 at p3 ⊢
      have hl3 : H3 B.l = some (.lst (S.letters.map V.int)) := by
        have q := p3.ed.li _ _ he.rl
        rw [setAt_ne (by intro w; cases w)] at q
        exact q
      refine ⟨_, rfl, e, _, B.dx, _, _, rfl, p3.ed.ob, T.cl_Editor, T.no_Editor_done, eF_done _ _ _ _ _ _ _, B.d, rfl, .inl ⟨_, .inl p3.ed.dh⟩, _, rfl, Nat.zero_le _, fun z4 hz4 => ?_⟩
      have p4 := p3.same (H2 := upd H3 z4 (.lst [])) (same_new (Same.refl _) hz4)
      have zd := p3.ed.z2
      have ed4 : ∀ x, x ≠ Rl.order → setAt (cont S) Rl.order ((S.order.take (S.place pos) ++ S.letters.length :: S.order.drop (S.place pos)).map nV) x = cont S x := fun x q => setAt_ne q
      refine ⟨B.dk, .inr u, p4.ed.dh, rfl, line_lt (by omega), fun v hv => ?_, fun hv => ?_⟩
      obtain ⟨A5, F5, ad, p5, r5, ev, kb5⟩ : ∃ (A5 : EdA) (F5 : Addr → Prop) (ad : Addr), Stp K H e n F (upd H3 z4 (.lst [])) (setAt (cont S) Rl.order ((S.order.take (S.place pos) ++ S.letters.length :: S.order.drop (S.place pos)).map nV)) S.hid F5 (c + 1 + 1) A5 ∧ A5.r ad = some (.done u) ∧ v = .ref ad ∧
          (∀ x, x ≠ u → (valV A5.dk (.inr x)).isSome = (valV A5.uk (.inr x)).isSome) := by
        rcases p4.ed.kd u with ⟨ad, q1, q2⟩ | ⟨q1, _⟩
        · rw [hv] at q1
          exact ⟨B, F, ad, ⟨p4.ed.up (Nat.le_succ _) (by omega), p4.off, p4.gr⟩, q2, Option.some.inj q1, fun x _ => hkb x⟩
        · rw [hv] at q1; cases q1
      subst ev
      generalize upd H3 z4 (.lst []) = H5 at p5 ⊢
      rotate_left
      obtain ⟨A5, F5, ad, p5, r5, ev, kb5⟩ : ∃ (A5 : EdA) (F5 : Addr → Prop) (ad : Addr), Stp K H e n F (upd (upd H3 z4 (.lst [])) B.d (.dK (putK B.dk (.inr u) (.ref z4)))) (setAt (cont S) Rl.order ((S.order.take (S.place pos) ++ S.letters.length :: S.order.drop (S.place pos)).map nV)) S.hid F5 (c + 1 + 1) A5 ∧ A5.r ad = some (.done u) ∧ V.ref z4 = .ref ad ∧
          (∀ x, x ≠ u → (valV A5.dk (.inr x)).isSome = (valV A5.uk (.inr x)).isSome) := by
        refine ⟨_, _, z4, p3.newDone hz4 hv (by omega), setAt_same, rfl, fun x hx => ?_⟩
        show (valV (putK B.dk (.inr u) (.ref z4)) (.inr x)).isSome = _
        rw [valV_put, if_neg (fun q => hx (Sum.inr.inj q))]
        exact hkb x
      generalize upd (upd H3 z4 (.lst [])) B.d (.dK (putK B.dk (.inr u) (.ref z4))) = H5 at p5 ⊢
      rw [ev]
      all_goals
        have had : H5 ad = some (.lst ((S.done u).map nV)) := by
          have q := p5.ed.li _ _ r5
          rw [ed4 _ (by intro w; cases w)] at q
          exact q
        have hl5 : H5 A5.l = some (.lst (S.letters.map V.int)) := by
          have q := p5.ed.li _ _ p5.ed.rl
          rw [ed4 _ (by intro w; cases w)] at q
          exact q
        have zdd : ((S.done u).map nV).length ≤ c + 1 + 1 := by
          have q := p5.ed.z4 _ _ r5
          rw [ed4 _ (by intro w; cases w)] at q
          exact q
        refine ⟨.inl ⟨rfl, _, .of had⟩, _, rfl, e, _, A5.dx, _, _, rfl, p5.ed.ob, T.cl_Editor, T.no_Editor_letters, eF_letters _ _ _ _ _ _ _, A5.l, _, rfl, .inl (.of hl5), ?_⟩
        refine ⟨ad, _, _, rfl, rfl, had, line_lt (by omega), ?_⟩
        have e6 : (S.done u).map nV ++ [V.int (((S.letters.map V.int).length : Nat) : Int)] = (S.done u ++ [S.letters.length]).map nV := by
          rw [List.length_map, List.map_append]
          rfl
        rw [e6]
        have p6 := p5.put (ys := (S.done u ++ [S.letters.length]).map nV) r5 (by rw [List.length_map] at zdd ⊢; rw [List.length_append, List.length_singleton]; omega) (by omega)
        generalize upd H5 ad (.lst ((S.done u ++ [S.letters.length]).map nV)) = H6 at p6 ⊢
        refine ⟨Nat.zero_le _, fun y hy => ?_⟩
        have p6' := p6.same (H2 := upd H6 y (.lst [])) (same_new (Same.refl _) hy)
        have zu := p6.ed.z3
        refine ⟨_, rfl, e, _, A5.dx, _, _, rfl, p6'.ed.ob, T.cl_Editor, T.no_Editor_undone, eF_undone _ _ _ _ _ _ _, _, rfl, A5.u, _, rfl, DPut.k (k := Sum.inr u) p6'.ed.uh (line_lt (by omega)), ?_⟩
        have p7 := p6.newUndone (u := u) hy (by omega)
        generalize upd (upd H6 y (.lst [])) A5.u (.dK (putK A5.uk (.inr u) (.ref y))) = H7 at p7 ⊢
        have hl7 : H7 A5.l = some (.lst (S.letters.map V.int)) := by
          have q := p7.ed.li _ _ p7.ed.rl
          rw [setAt_ne (by intro w; cases w), setAt_ne (by intro w; cases w), ed4 _ (by intro w; cases w)] at q
          exact q
        refine ⟨_, rfl, e, _, A5.dx, _, _, rfl, p7.ed.ob, T.cl_Editor, T.no_Editor_letters, eF_letters _ _ _ _ _ _ _, .inl ⟨rfl, _, .of hl7⟩, _, rfl, A5.l, _, _, rfl, rfl, hl7, line_lt (by rw [List.length_map]; omega), ?_⟩
        have e8 : S.letters.map V.int ++ [V.int l] = (S.letters ++ [l]).map V.int := by rw [List.map_append]; rfl
        rw [e8]
        have p8 := p7.put (ys := (S.letters ++ [l]).map V.int) p7.ed.rl (by rw [List.length_map, List.length_append, List.length_singleton]; omega) (by omega)
        have ew7 : H7 A5.w = some (.lst (S.owners.map V.str)) := by
          have q := p7.ed.li _ _ p7.ed.rw
          rw [setAt_ne (by intro w; cases w), setAt_ne (by intro w; cases w), ed4 _ (by intro w; cases w)] at q
          exact q
        have hw8 : upd H7 A5.l (.lst ((S.letters ++ [l]).map V.int)) A5.w = some (.lst (S.owners.map V.str)) := by
          have q := p8.ed.li _ _ p8.ed.rw
          rw [setAt_ne (by intro w; cases w), setAt_ne (by intro w; cases w), setAt_ne (by intro w; cases w), ed4 _ (by intro w; cases w)] at q
          exact q
        refine ⟨_, rfl, e, _, A5.dx, _, _, rfl, p8.ed.ob, T.cl_Editor, T.no_Editor_owners, eF_owners _ _ _ _ _ _ _, .inl ⟨rfl, _, .of hw8⟩, _, rfl, A5.w, _, _, rfl, rfl, hw8, line_lt (by rw [List.length_map]; omega), ?_⟩
        have e9 : S.owners.map V.str ++ [V.str u] = (S.owners ++ [u]).map V.str := by rw [List.map_append]; rfl
        rw [e9]
        have p9 := p8.put (ys := (S.owners ++ [u]).map V.str) p8.ed.rw (by rw [List.length_map, List.length_append, List.length_singleton]; omega) (by omega)
        have fe := p9.ed
        rw [cont_ins S u pos l] at fe
        refine k _ _ p9.off p9.gr ⟨_, fe, fun x => ?_, hok.ins u pos l⟩
        show (valV A5.dk (.inr x)).isSome = (valV (putK A5.uk (.inr u) (.ref y)) (.inr x)).isSome
        rw [valV_put]
        by_cases hx : x = u
        · subst hx
          rw [if_pos rfl]
          rcases p5.ed.kd x with ⟨a0, q1, _⟩ | ⟨_, _, q3⟩
          · rw [q1]; rfl
          · exact absurd r5 (q3 ad)
        · rw [if_neg (fun q => hx (Sum.inr.inj q))]
          exact kb5 x hx
end
end K54
namespace K54
open PySem PySem.Spec PyProof.Rows L2
/-! ### lists and tuples of ints and texts, compared -/
theorem dpAll_ints {K : PySem.W.Frag} {H : Hp} : ∀ l : List Int, DpAll K H (l.map V.int) (l.map PyData.int)
  | [] => .nil
  | x :: l => .cons (.int x) (dpAll_ints l)
theorem dpAll_strs {K : PySem.W.Frag} {H : Hp} : ∀ l : List Str, DpAll K H (l.map V.str) (l.map PyData.str)
  | [] => .nil
  | x :: l => .cons (.str x) (dpAll_strs l)
theorem dp_ints {K : PySem.W.Frag} {H : Hp} {a : Addr} {l : List Int} (h : SqL K H a (l.map V.int)) : Dp K H (.ref a) (.list (l.map PyData.int)) := .lst h (dpAll_ints l)
theorem dp_tints {K : PySem.W.Frag} {H : Hp} {a : Addr} {l : List Int} (h : SqT K H a (l.map V.int)) : Dp K H (.ref a) (.tuple (l.map PyData.int)) := .tup h (dpAll_ints l)
theorem dp_strs {K : PySem.W.Frag} {H : Hp} {a : Addr} {l : List Str} (h : SqL K H a (l.map V.str)) : Dp K H (.ref a) (.list (l.map PyData.str)) := .lst h (dpAll_strs l)
theorem eqvAll_ints : ∀ a b : List Int, PyData.eqvAll (a.map PyData.int) (b.map PyData.int) = decide (a = b)
  | [], [] => rfl
  | [], _ :: _ => by simp [PyData.eqvAll]
  | _ :: _, [] => by simp [PyData.eqvAll]
  | x :: a, y :: b => by
    rw [List.map_cons, List.map_cons, PyData.eqvAll, eqvAll_ints a b, PyData.eqv]
    rw [Bool.eq_iff_iff]
    simp
theorem eqvAll_strs : ∀ a b : List Str, PyData.eqvAll (a.map PyData.str) (b.map PyData.str) = decide (a = b)
  | [], [] => rfl
  | [], _ :: _ => by simp [PyData.eqvAll]
  | _ :: _, [] => by simp [PyData.eqvAll]
  | x :: a, y :: b => by
    rw [List.map_cons, List.map_cons, PyData.eqvAll, eqvAll_strs a b, PyData.eqv]
    rw [Bool.eq_iff_iff]
    simp
theorem eqv_lints (a b : List Int) : PyData.eqv (.list (a.map PyData.int)) (.list (b.map PyData.int)) = decide (a = b) := by rw [PyData.eqv]; exact eqvAll_ints a b
theorem eqv_tints (a b : List Int) : PyData.eqv (.tuple (a.map PyData.int)) (.tuple (b.map PyData.int)) = decide (a = b) := by rw [PyData.eqv]; exact eqvAll_ints a b
theorem eqv_lstrs (a b : List Str) : PyData.eqv (.list (a.map PyData.str)) (.list (b.map PyData.str)) = decide (a = b) := by rw [PyData.eqv]; exact eqvAll_strs a b
theorem flat_ints_ : ∀ l : List Int, PyData.canLayAll0 (l.map PyData.int) = true ∧ PyData.depthAll (l.map PyData.int) = 0
  | [] => ⟨rfl, rfl⟩
  | x :: l => by
    obtain ⟨h1, h2⟩ := flat_ints_ l
    rw [List.map_cons, PyData.canLayAll0, PyData.depthAll, h1, h2]
    exact ⟨rfl, rfl⟩
theorem flat_strs_ : ∀ l : List Str, (∀ x ∈ l, PyData.canLay0 (.str x) = true) → PyData.canLayAll0 (l.map PyData.str) = true ∧ PyData.depthAll (l.map PyData.str) = 0
  | [], _ => ⟨rfl, rfl⟩
  | x :: l, h => by
    obtain ⟨h1, h2⟩ := flat_strs_ l fun y hy => h y (List.mem_cons_of_mem _ hy)
    rw [List.map_cons, PyData.canLayAll0, PyData.depthAll, h1, h2, h x List.mem_cons_self]
    exact ⟨rfl, rfl⟩
theorem sh_lints (l : List Int) : SeqAt.shaped (.list (l.map PyData.int)) = true := by
  obtain ⟨h1, h2⟩ := flat_ints_ l
  unfold SeqAt.shaped
  rw [PyData.canLay0, PyData.depth, h1, h2]
  rfl
theorem sh_tints (l : List Int) : SeqAt.shaped (.tuple (l.map PyData.int)) = true := by
  obtain ⟨h1, h2⟩ := flat_ints_ l
  unfold SeqAt.shaped
  rw [PyData.canLay0, PyData.depth, h1, h2]
  rfl
theorem sh_lstrs {l : List Str} (h : ∀ x ∈ l, PyData.canLay0 (.str x) = true) : SeqAt.shaped (.list (l.map PyData.str)) = true := by
  obtain ⟨h1, h2⟩ := flat_strs_ l h
  unfold SeqAt.shaped
  rw [PyData.canLay0, PyData.depth, h1, h2]
  rfl
theorem users_lay : ∀ x ∈ users, PyData.canLay0 (.str x) = true := by
  have e : (users.all fun x => PyData.canLay0 (.str x)) = true := by decide +kernel
  exact List.all_eq_true.mp e
theorem users_name {u : Str} (h : u ∈ users) : nameB u = true := List.all_eq_true.mp users_ok u h
/-! ### a new editor -/
theorem two_upd {H1 : Hp} {p z : Addr} {I0 O I : HO} (hp : H1 p = some I0) (hz : H1 z = none) : upd (upd H1 z O) p I p = some I ∧ upd (upd H1 z O) p I z = some O ∧ z ≠ p ∧ (∀ b o, b ≠ p → H1 b = some o → upd (upd H1 z O) p I b = some o) ∧ upd H1 z O p = some I0 := by
  have ne : p ≠ z := ne_of_none hp hz
  exact ⟨upd_same, by rw [upd_ne ne.symm]; exact upd_same, ne.symm, fun b o hb h => by rw [upd_ne hb, upd_ne (ne_of_none h hz)]; exact h, by rw [upd_ne ne]; exact hp⟩
/-- the two own errors, and what else the top has left -/
structure Ers (K : PySem.W.Frag) : Prop where
  u : RtC K (He.ga K "NothingToUndo") (He.fAd K a_NothingToUndo_init)
  r : RtC K (He.ga K "NothingToRedo") (He.fAd K a_NothingToRedo_init)
  ru : PySem.W.exmOne K (.ref (He.ga K "NothingToRedo")) (.ref (He.ga K "NothingToUndo")) = some false
  d : C8.InsC K (cDia K)
section
variable {P : Program} {w : World} {K : PySem.W.Frag} {mg : Str → Option Value} {ex : PySem.W.Frag → Bool} {base : Heap}
theorem ok_uinit (T : Top K mg ex) (G : Ers K) : FnOk P w K mg base CX0 1 (He.fAd K a_NothingToUndo_init) (fdOf K a_NothingToUndo_init) ["self", "user"] (spRtI (He.ga K "NothingToUndo")) := by
  refine fok T.f_NothingToUndo_init sc_NothingToUndo_init (fun vs H Q E h => ?_) (fun cdv A outer s H vs Q E hr h => ?_)
  · obtain ⟨_, _, rfl, _⟩ := h
    rfl
  · obtain ⟨a, y, rfl, ha, k⟩ := h
    exact ⟨_, pss_cons (ps_expr (pe_rtinit G.u (by rfl) (by first | exact T.z_RuntimeError | exact T.z_RuntimeError) (pa_cons (pv 0) (pa_cons pe_str pa_nil)))) (pss_one (ps_rtst G.u (pv 0) (pv 1))),
      _, rfl, a, _, rfl, by decide, ha, _, rfl, _, rfl, a, rfl, ha, fun dx h1 h2 => k dx h1 h2⟩
theorem ok_rinit (T : Top K mg ex) (G : Ers K) : FnOk P w K mg base CX0 1 (He.fAd K a_NothingToRedo_init) (fdOf K a_NothingToRedo_init) ["self", "user"] (spRtI (He.ga K "NothingToRedo")) := by
  refine fok T.f_NothingToRedo_init sc_NothingToRedo_init (fun vs H Q E h => ?_) (fun cdv A outer s H vs Q E hr h => ?_)
  · obtain ⟨_, _, rfl, _⟩ := h
    rfl
  · obtain ⟨a, y, rfl, ha, k⟩ := h
    exact ⟨_, pss_cons (ps_expr (pe_rtinit G.r (by rfl) (by first | exact T.z_RuntimeError | exact T.z_RuntimeError) (pa_cons (pv 0) (pa_cons pe_str pa_nil)))) (pss_one (ps_rtst G.r (pv 0) (pv 1))),
      _, rfl, a, _, rfl, by decide, ha, _, rfl, _, rfl, a, rfl, ha, fun dx h1 h2 => k dx h1 h2⟩
theorem fokX {d : He.DefD} {N ps : List Str} {k : Nat} {sp : Sp} (F : FnP K d) (S : FnScope N ps d.scope) (len : ∀ vs H Q E, sp vs H Q E → vs.length = ps.length)
    (hbody : ∀ (cdv : Value) (A : Around) (outer : List Env) (s : Shared) (H : Hp) (vs : List V) (Q : VK) (E : XK), Room k (A.deeper (envOfC d.qual d.scope s.heap.objs.size (He.fAd K d.at_) cdv)) → sp vs H Q E →
      ∃ t, PSs (cxOf (L2.CX P w) P w K mg base N d.qual d.scope (He.fAd K d.at_) cdv A outer s H E) d.body t ∧ t { nx := fun _ H' => Q .non H', rt := Q } (start N vs) H) : FnOk P w K mg base (L2.CX P w) (k + 1) (He.fAd K d.at_) (fdOf K d.at_) ps sp :=
  F.ok S len fun cdv A outer s H vs Q E hr h => hbody cdv A outer s H vs Q E hr h
def natI (l : List Nat) : List Int := l.map fun i : Nat => (i : Int)
theorem natI_map (l : List Nat) : (natI l).map V.int = l.map nV := by unfold natI; rw [List.map_map]; rfl
theorem natI_nil {l : List Nat} : natI l = [] ↔ l = [] := by unfold natI; exact List.map_eq_nil_iff
theorem last_nat {l : List Nat} (h : l ≠ []) : (l.map nV)[(l.map nV).length - 1]? = some (nV (l.getLastD 0)) := by
  have e := split_last h 0
  rw [List.length_map, List.getElem?_map]
  have e2 : l[l.length - 1]? = some (l.getLastD 0) := by
    rw [← List.getLast?_eq_getElem?]
    cases l with
    | nil => exact absurd rfl h
    | cons a l => rw [List.getLast?_eq_some_getLast (by simp)]; rfl
  rw [e2]
  rfl
def spUndo (K : PySem.W.Frag) : Sp := fun vs H Q E => ∃ (e : Addr) (n : Nat) (S : Ed Str) (F : Addr → Prop) (c : Nat) (u : Str), vs = [.ref e, .str u] ∧ EdAt K H e n S F c ∧ nameB u = true ∧ c + 3 ≤ 50000 ∧
  (S.done u = [] → ∀ d H', Same H H' → H' d = some (.xd [("user", .str u)]) → E (.ref (He.ga K "NothingToUndo")) (some d) H') ∧
  (S.done u ≠ [] → ∀ H' F', Off F H H' → Grow F F' H → EdAt K H' e n (S.undo u) F' (c + 3) → Q .non H')
theorem cont_undo (S : Ed Str) (u : Str) : setAt (setAt (cont S) (.done u) ((S.done u).dropLast.map nV)) (.undone u) ((S.undone u ++ [S.top u]).map nV) = cont (S.undo u) := by
  funext x
  cases x with
  | order => rfl
  | letters => rfl
  | owners => rfl
  | done v =>
    by_cases q : v = u
    · subst q
      rw [setAt_ne (by intro w; cases w), setAt_same]
      show _ = (setAt S.done v _ v).map nV
      rw [setAt_same]
    · rw [setAt_ne (by intro w; cases w), setAt_ne (by intro w; cases w; exact q rfl)]
      show _ = (setAt S.done u _ v).map nV
      rw [setAt_ne q]
      rfl
  | undone v =>
    by_cases q : v = u
    · subst q
      rw [setAt_same]
      show _ = (setAt S.undone v _ v).map nV
      rw [setAt_same]
    · rw [setAt_ne (by intro w; cases w; exact q rfl), setAt_ne (by intro w; cases w)]
      show _ = (setAt S.undone u _ v).map nV
      rw [setAt_ne q]
      rfl
theorem cont_redo (S : Ed Str) (u : Str) : setAt (setAt (cont S) (.undone u) ((S.undone u).dropLast.map nV)) (.done u) ((S.done u ++ [S.utop u]).map nV) = cont (S.redo u) := by
  funext x
  cases x with
  | order => rfl
  | letters => rfl
  | owners => rfl
  | done v =>
    by_cases q : v = u
    · subst q
      rw [setAt_same]
      show _ = (setAt S.done v _ v).map nV
      rw [setAt_same]
    · rw [setAt_ne (by intro w; cases w; exact q rfl), setAt_ne (by intro w; cases w)]
      show _ = (setAt S.done u _ v).map nV
      rw [setAt_ne q]
      rfl
  | undone v =>
    by_cases q : v = u
    · subst q
      rw [setAt_ne (by intro w; cases w), setAt_same]
      show _ = (setAt S.undone v _ v).map nV
      rw [setAt_same]
    · rw [setAt_ne (by intro w; cases w), setAt_ne (by intro w; cases w; exact q rfl)]
      show _ = (setAt S.undone u _ v).map nV
      rw [setAt_ne q]
      rfl
theorem ok_undo (T : Top K mg ex) (G : Ers K) : FnOk P w K mg base (L2.CX P w) 3 (He.ma K (cEd K) "undo") (fdOf K a_Editor_undo) ["self", "user"] (spUndo K) := by
  refine fokX T.f_Editor_undo sc_Editor_undo (fun vs H Q E h => ?_) (fun cdv A outer s H vs Q E hr h => ?_)
  · obtain ⟨_, _, _, _, _, _, rfl, _⟩ := h
    rfl
  · obtain ⟨e, n, S, F, c, u, rfl, ⟨B, he, hkb, hok⟩, hn, hc, kE, k⟩ := h
    have hu := hu_of hr
    refine ⟨_, pss_cons (ps_expr (pe_call (ok_ckname T) hr (by rfl) T.g_check_name T.f_check_name.kp T.b_check_name .nil pass0 (pa_cons (pv 1) pa_nil))) <|
      pss_cons (ps_if (pt_cmpR (op_eqD hr.units) (pe_dget2 hu (pe_fld (pv 0) rfl) (pv 1) (pe_lst pa_nil) ⟨by rfl, by rfl, by rfl, by rfl⟩) (pe_lst pa_nil) (nomark _))
        (pss_one (ps_raise rfl (takes_of rfl rfl rfl rfl) (pmk_rt G.u (ok_uinit T G) hr T.b_NothingToUndo_init pass0 (by rfl) T.g_NothingToUndo (pv 1 |> fun z => pa_cons z pa_nil)))) pss_nil) <|
      pss_cons (ps_set (i := 2) sc_Editor_undo.nd rfl (Or.inl rfl) (pe_bm0 PySem.F.plainAttrs_list PySem.F.slot_list_pop PySem.F.type_list_pop mt_pop (pe_dget hu (pe_fld (pv 0) rfl) (pv 1) (fun _ _ => rfl)))) <|
      pss_cons (ps_expr (pe_bm PySem.F.plainAttrs_list PySem.F.slot_list_append PySem.F.type_list_append mt_append (pe_dget hu (pe_fld (pv 0) rfl) (pv 1) (fun _ _ => rfl)) (pa_cons (pv 2) pa_nil))) <|
      pss_one (ps_dput hu (pe_fld (pv 0) rfl) (pv 2) pe_bl rfl), ?_⟩
    refine ⟨_, rfl, u, rfl, hn, fun H1 s1 => ?_⟩
    have p1 := (Stp.start he).same s1
    refine ⟨_, rfl, e, _, B.dx, _, _, rfl, p1.ed.ob, T.cl_Editor, T.no_Editor_done, eF_done _ _ _ _ _ _ _, B.d, rfl, .inl ⟨_, .inl p1.ed.dh⟩, _, rfl, Nat.zero_le _, fun z hz => ?_⟩
    have p2 := p1.same (same_new (Same.refl _) hz (o := .lst []))
    refine ⟨_, DGet.k (k := Sum.inr u) p2.ed.dh, ?_⟩
    obtain ⟨a, ea, ha⟩ : ∃ a, (valV B.dk (.inr u)).getD (.ref z) = .ref a ∧ upd H1 z (.lst []) a = some (.lst ((natI (S.done u)).map V.int)) := by
      rcases p2.ed.kd u with ⟨a, q1, q2⟩ | ⟨q1, q2, _⟩
      · refine ⟨a, by rw [q1]; rfl, ?_⟩
        rw [natI_map]
        exact p2.ed.li _ _ q2
      · refine ⟨z, by rw [q1]; rfl, ?_⟩
        have q2' : (S.done u).map nV = [] := q2
        rw [natI_map, q2']
        exact upd_same
    rw [ea]
    refine ⟨Nat.zero_le _, fun y hy => ?_⟩
    have sH2 : Same H (upd H1 z (.lst [])) := same_new s1 hz
    generalize upd H1 z (.lst []) = H2 at p2 ha hy sH2 ⊢
    have p3 := p2.same (same_new (Same.refl _) hy (o := .lst []))
    refine ⟨_, _, dp_ints (.of (same_new (Same.refl _) hy _ _ ha)), dp_ints (l := []) (.of upd_same), sh_lints _, sh_lints _, _, rfl, ?_⟩
    rw [eqv_lints]
    have sH : Same H (upd H2 y (.lst [])) := same_new sH2 hy
    generalize upd H2 y (.lst []) = H3 at p3 sH ⊢
    by_cases hd : S.done u = []
    · rw [decide_eq_true (natI_nil.mpr hd)]
      refine iteT ⟨_, rfl, _, rfl, fun d hd2 => kE hd _ _ ?_ upd_same⟩
      exact same_new sH hd2
    · rw [decide_eq_false (fun q => hd (natI_nil.mp q))]
      refine iteF ?_
      rcases p3.ed.kd u with ⟨b, q1, q2⟩ | ⟨_, q2, _⟩
      · rcases p3.ed.ku u with ⟨b', q1', q2'⟩ | ⟨q1', _⟩
        · have hb : H3 b = some (.lst ((S.done u).map nV)) := p3.ed.li _ _ q2
          have g1 : DGet H3 B.d (kV (.inr u)) (some (.ref b)) := by
            have g := DGet.k (k := Sum.inr u) p3.ed.dh
            rw [q1] at g
            exact g
          refine ⟨_, rfl, e, _, B.dx, _, _, rfl, p3.ed.ob, T.cl_Editor, T.no_Editor_done, eF_done _ _ _ _ _ _ _, _, rfl, B.d, _, rfl, g1, .inl ⟨rfl, _, .of hb⟩, b, _, _, rfl, rfl, hb, last_nat hd, ?_⟩
          have e4 : ((S.done u).map nV).dropLast = (S.done u).dropLast.map nV := List.map_dropLast.symm
          rw [e4]
          have zb := p3.ed.z4 _ _ q2
          have zb' : (S.done u).length ≤ c := by
            have q : ((S.done u).map nV).length ≤ c := zb
            rwa [List.length_map] at q
          have p4 := p3.put (ys := (S.done u).dropLast.map nV) q2 (by rw [List.length_map, List.length_dropLast]; omega) (by omega)
          generalize upd H3 b (.lst ((S.done u).dropLast.map nV)) = H4 at p4 ⊢
          have hb' : H4 b' = some (.lst ((S.undone u).map nV)) := by
            have q := p4.ed.li _ _ q2'
            rw [setAt_ne (by intro w; cases w)] at q
            exact q
          have zu : ((S.undone u).map nV).length ≤ c := p3.ed.z4 _ _ q2'
          rw [List.length_map] at zu
          have g2 : DGet H4 B.u (kV (.inr u)) (some (.ref b')) := by
            have g := DGet.k (k := Sum.inr u) p4.ed.uh
            rw [q1'] at g
            exact g
          refine ⟨_, rfl, e, _, B.dx, _, _, rfl, p4.ed.ob, T.cl_Editor, T.no_Editor_undone, eF_undone _ _ _ _ _ _ _, _, rfl, B.u, _, rfl, g2, .inl ⟨rfl, _, .of hb'⟩, _, rfl, b', _, _, rfl, rfl, hb', line_lt (by rw [List.length_map]; omega), ?_⟩
          have e5 : (S.undone u).map nV ++ [nV ((S.done u).getLastD 0)] = (S.undone u ++ [S.top u]).map nV := by rw [List.map_append]; rfl
          rw [e5]
          have p5 := p4.put (ys := (S.undone u ++ [S.top u]).map nV) q2' (by rw [List.length_map, List.length_append, List.length_singleton]; omega) (by omega)
          generalize upd H4 b' (.lst ((S.undone u ++ [S.top u]).map nV)) = H5 at p5 ⊢
          have zh := p5.ed.z1
          refine ⟨_, rfl, e, _, B.dx, _, _, rfl, p5.ed.ob, T.cl_Editor, T.no_Editor_hidden, eF_hidden _ _ _ _ _ _ _, _, rfl, B.h, _, rfl, DPut.k (k := Sum.inl ((S.top u : Nat) : Int)) p5.ed.hh (line_lt (by omega)), ?_⟩
          have p6 := p5.hide (i := S.top u) (v := .bl true) (by omega)
          have fe := p6.ed
          rw [cont_undo] at fe
          exact k hd _ _ p6.off p6.gr ⟨_, fe, hkb, hok.undo hd⟩
        · have q := hkb u
          rw [q1, q1'] at q
          cases q
      · have q2' : (S.done u).map nV = [] := q2
        exact absurd (List.map_eq_nil_iff.mp q2') hd
def spRedo (K : PySem.W.Frag) : Sp := fun vs H Q E => ∃ (e : Addr) (n : Nat) (S : Ed Str) (F : Addr → Prop) (c : Nat) (u : Str), vs = [.ref e, .str u] ∧ EdAt K H e n S F c ∧ nameB u = true ∧ c + 3 ≤ 50000 ∧
  (S.undone u = [] → ∀ d H', Same H H' → H' d = some (.xd [("user", .str u)]) → E (.ref (He.ga K "NothingToRedo")) (some d) H') ∧
  (S.undone u ≠ [] → ∀ H' F', Off F H H' → Grow F F' H → EdAt K H' e n (S.redo u) F' (c + 3) → Q .non H')
theorem ok_redo (T : Top K mg ex) (G : Ers K) : FnOk P w K mg base (L2.CX P w) 3 (He.ma K (cEd K) "redo") (fdOf K a_Editor_redo) ["self", "user"] (spRedo K) := by
  refine fokX T.f_Editor_redo sc_Editor_redo (fun vs H Q E h => ?_) (fun cdv A outer s H vs Q E hr h => ?_)
  · obtain ⟨_, _, _, _, _, _, rfl, _⟩ := h
    rfl
  · obtain ⟨e, n, S, F, c, u, rfl, ⟨B, he, hkb, hok⟩, hn, hc, kE, k⟩ := h
    have hu := hu_of hr
    refine ⟨_, pss_cons (ps_expr (pe_call (ok_ckname T) hr (by rfl) T.g_check_name T.f_check_name.kp T.b_check_name .nil pass0 (pa_cons (pv 1) pa_nil))) <|
      pss_cons (ps_if (pt_cmpR (op_eqD hr.units) (pe_dget2 hu (pe_fld (pv 0) rfl) (pv 1) (pe_lst pa_nil) ⟨by rfl, by rfl, by rfl, by rfl⟩) (pe_lst pa_nil) (nomark _))
        (pss_one (ps_raise rfl (takes_of rfl rfl rfl rfl) (pmk_rt G.r (ok_rinit T G) hr T.b_NothingToRedo_init pass0 (by rfl) T.g_NothingToRedo (pv 1 |> fun z => pa_cons z pa_nil)))) pss_nil) <|
      pss_cons (ps_set (i := 2) sc_Editor_redo.nd rfl (Or.inl rfl) (pe_bm0 PySem.F.plainAttrs_list PySem.F.slot_list_pop PySem.F.type_list_pop mt_pop (pe_dget hu (pe_fld (pv 0) rfl) (pv 1) (fun _ _ => rfl)))) <|
      pss_cons (ps_expr (pe_bm PySem.F.plainAttrs_list PySem.F.slot_list_append PySem.F.type_list_append mt_append (pe_dget hu (pe_fld (pv 0) rfl) (pv 1) (fun _ _ => rfl)) (pa_cons (pv 2) pa_nil))) <|
      pss_one (ps_ddel (pe_fld (pv 0) rfl) (pv 2)), ?_⟩
    refine ⟨_, rfl, u, rfl, hn, fun H1 s1 => ?_⟩
    have p1 := (Stp.start he).same s1
    refine ⟨_, rfl, e, _, B.dx, _, _, rfl, p1.ed.ob, T.cl_Editor, T.no_Editor_undone, eF_undone _ _ _ _ _ _ _, B.u, rfl, .inl ⟨_, .inl p1.ed.uh⟩, _, rfl, Nat.zero_le _, fun z hz => ?_⟩
    have p2 := p1.same (same_new (Same.refl _) hz (o := .lst []))
    refine ⟨_, DGet.k (k := Sum.inr u) p2.ed.uh, ?_⟩
    obtain ⟨a, ea, ha⟩ : ∃ a, (valV B.uk (.inr u)).getD (.ref z) = .ref a ∧ upd H1 z (.lst []) a = some (.lst ((natI (S.undone u)).map V.int)) := by
      rcases p2.ed.ku u with ⟨a, q1, q2⟩ | ⟨q1, q2, _⟩
      · refine ⟨a, by rw [q1]; rfl, ?_⟩
        rw [natI_map]
        exact p2.ed.li _ _ q2
      · refine ⟨z, by rw [q1]; rfl, ?_⟩
        have q2' : (S.undone u).map nV = [] := q2
        rw [natI_map, q2']
        exact upd_same
    rw [ea]
    refine ⟨Nat.zero_le _, fun y hy => ?_⟩
    have sH2 : Same H (upd H1 z (.lst [])) := same_new s1 hz
    generalize upd H1 z (.lst []) = H2 at p2 ha hy sH2 ⊢
    have p3 := p2.same (same_new (Same.refl _) hy (o := .lst []))
    refine ⟨_, _, dp_ints (.of (same_new (Same.refl _) hy _ _ ha)), dp_ints (l := []) (.of upd_same), sh_lints _, sh_lints _, _, rfl, ?_⟩
    rw [eqv_lints]
    have sH : Same H (upd H2 y (.lst [])) := same_new sH2 hy
    generalize upd H2 y (.lst []) = H3 at p3 sH ⊢
    by_cases hd : S.undone u = []
    · rw [decide_eq_true (natI_nil.mpr hd)]
      refine iteT ⟨_, rfl, _, rfl, fun d hd2 => kE hd _ _ ?_ upd_same⟩
      exact same_new sH hd2
    · rw [decide_eq_false (fun q => hd (natI_nil.mp q))]
      refine iteF ?_
      rcases p3.ed.ku u with ⟨b, q1, q2⟩ | ⟨_, q2, _⟩
      · rcases p3.ed.kd u with ⟨b', q1', q2'⟩ | ⟨q1', _⟩
        · have hb : H3 b = some (.lst ((S.undone u).map nV)) := p3.ed.li _ _ q2
          have g1 : DGet H3 B.u (kV (.inr u)) (some (.ref b)) := by
            have g := DGet.k (k := Sum.inr u) p3.ed.uh
            rw [q1] at g
            exact g
          refine ⟨_, rfl, e, _, B.dx, _, _, rfl, p3.ed.ob, T.cl_Editor, T.no_Editor_undone, eF_undone _ _ _ _ _ _ _, _, rfl, B.u, _, rfl, g1, .inl ⟨rfl, _, .of hb⟩, b, _, _, rfl, rfl, hb, last_nat hd, ?_⟩
          have e4 : ((S.undone u).map nV).dropLast = (S.undone u).dropLast.map nV := List.map_dropLast.symm
          rw [e4]
          have zb := p3.ed.z4 _ _ q2
          have zb' : (S.undone u).length ≤ c := by
            have q : ((S.undone u).map nV).length ≤ c := zb
            rwa [List.length_map] at q
          have p4 := p3.put (ys := (S.undone u).dropLast.map nV) q2 (by rw [List.length_map, List.length_dropLast]; omega) (by omega)
          generalize upd H3 b (.lst ((S.undone u).dropLast.map nV)) = H4 at p4 ⊢
          have hb' : H4 b' = some (.lst ((S.done u).map nV)) := by
            have q := p4.ed.li _ _ q2'
            rw [setAt_ne (by intro w; cases w)] at q
            exact q
          have zu : ((S.done u).map nV).length ≤ c := p3.ed.z4 _ _ q2'
          rw [List.length_map] at zu
          have g2 : DGet H4 B.d (kV (.inr u)) (some (.ref b')) := by
            have g := DGet.k (k := Sum.inr u) p4.ed.dh
            rw [q1'] at g
            exact g
          refine ⟨_, rfl, e, _, B.dx, _, _, rfl, p4.ed.ob, T.cl_Editor, T.no_Editor_done, eF_done _ _ _ _ _ _ _, _, rfl, B.d, _, rfl, g2, .inl ⟨rfl, _, .of hb'⟩, _, rfl, b', _, _, rfl, rfl, hb', line_lt (by rw [List.length_map]; omega), ?_⟩
          have e5 : (S.done u).map nV ++ [nV ((S.undone u).getLastD 0)] = (S.done u ++ [S.utop u]).map nV := by rw [List.map_append]; rfl
          rw [e5]
          have p5 := p4.put (ys := (S.done u ++ [S.utop u]).map nV) q2' (by rw [List.length_map, List.length_append, List.length_singleton]; omega) (by omega)
          generalize upd H4 b' (.lst ((S.done u ++ [S.utop u]).map nV)) = H5 at p5 ⊢
          have zh := p5.ed.z1
          have hh0 : S.hid (S.utop u) = true := (hok.un u _ (Ed.utop_mem hd)).2.1
          refine ⟨_, rfl, e, _, B.dx, _, _, rfl, p5.ed.ob, T.cl_Editor, T.no_Editor_hidden, eF_hidden _ _ _ _ _ _ _, _, rfl, B.h, B.hk, .inl ((S.utop u : Nat) : Int), rfl, p5.ed.hh, rfl, by rw [p5.ed.kh]; exact hh0, ?_⟩
          have p6 := p5.show_ (i := S.utop u)
          have fe := p6.ed.up (Nat.le_succ _) (by omega)
          rw [cont_redo] at fe
          exact k hd _ _ p6.off p6.gr ⟨_, fe, hkb, hok.redo hd⟩
        · have q := hkb u
          rw [q1', q1] at q
          cases q
      · have q2' : (S.undone u).map nV = [] := q2
        exact absurd (List.map_eq_nil_iff.mp q2') hd
end
end K54
namespace K54
open PySem PySem.Spec PyProof.Rows L2
/-! ### == of own instances, by the class's own __eq__ -/
def rEqI (C : Addr) (sp : Sp) (E : XK) : R2 := fun x y H Q => ∃ a b dx dy fs gs, x = .ref a ∧ y = .ref b ∧ H a = some (.ins C dx fs) ∧ H b = some (.ins C dy gs) ∧ sp [.ref a, .ref b] H (fun v H' => ∃ k, v = .bl k ∧ Q v H') E
theorem op_eqI {X : Cx} {CX : CXT} {n : Nat} {C f : Addr} {fd : FuncData} {ps : List Str} {sp : Sp} {E : XK} (F : FnOk X.prog X.w X.K X.mg X.base CX n f fd ps sp) (hm : Meth X.K C "__eq__" f) (hb : Binds X.K fd ps []) (hx : Passes CX X E) (hr : Room n X.A) :
    OpR X (compareOp .Eq) (rEqI C sp E) := by
  intro pins s σ H x y u v Q I rx ry hq
  obtain ⟨a, b, dx, dy, fs, gs, rfl, rfl, ha, hb', hsp⟩ := hq
  cases rx
  cases ry
  show wpAny (model X.prog X.w) X.A (richCompare .Eq (.ref a) (.ref b)) (EP X pins σ Q) X.xe s
  obtain ⟨mA, J, _⟩ := ins_get I.hok ha
  obtain ⟨mB, J', _⟩ := ins_get I.hok hb'
  obtain ⟨od, J, _⟩ := J.look
  obtain ⟨od', J', _⟩ := J'.look
  obtain ⟨m, hF⟩ := I.fr
  refine PySem.W.cmp_K (op := .Eq) (tb := .ref C) hr.units0 hF I.ok.mod.kin J J'.type (by simp [PySem.W.notFirst]) hm.at_ hm.fn ?_
  have hl := F.len _ _ _ _ hsp
  have r2 : Vals [V.ref a, V.ref b] [Value.ref a, Value.ref b] := .cons rfl (.cons rfl .nil)
  refine wpAny_call (codeAny_mono (F.run X.A X.stack s H ⟨[.ref a, .ref b], []⟩ [.ref a, .ref b] [.ref a, .ref b] _ E hr I.env0 (by
    have := hb s [.ref a, .ref b] I.kIn (by simpa using hl)
    simpa using this) r2 hsp) fun r s' hq => ?_)
  cases r with
  | error e => exact hx pins σ H s e s' I hq
  | ok fl =>
    cases fl with
    | ret w =>
      obtain ⟨z, H', I', rz, k, ez, q⟩ := I.after hq
      subst ez
      cases rz
      exact ⟨.bl k, H', I', rfl, q⟩
    | next => exact False.elim hq
    | brk => exact False.elim hq
    | cont => exact False.elim hq
def del_ (W : List Int) (i : Nat) : List Int := W.take i ++ W.drop (i + 1)
def remB (n : Nat) (W R : List Int) (i : Nat) : Bool := match valM n (del_ W i) with
  | some r => decide (r.1 = R)
  | none => false
def remM (n : Nat) (W R : List Int) : List Nat := (List.range W.length).filter (remB n W R)
theorem del_mem {W : List Int} {i : Nat} {x : Int} (h : x ∈ del_ W i) : x ∈ W := by
  rcases List.mem_append.mp h with q | q
  · exact List.mem_of_mem_take q
  · exact List.mem_of_mem_drop q
theorem del_len (W : List Int) (i : Nat) : (del_ W i).length ≤ W.length := by
  unfold del_
  rw [List.length_append, List.length_take, List.length_drop]
  omega
section
variable {P : Program} {w : World} {K : PySem.W.Frag} {mg : Str → Option Value} {ex : PySem.W.Frag → Bool} {base : Heap}
def spDEq (K : PySem.W.Frag) : Sp := fun vs H Q _ => ∃ (a b : Addr) (n m : Nat) (U V_ : List Int), vs = [.ref a, .ref b] ∧ DiaAt K H a n U ∧ DiaAt K H b m V_ ∧ Q (.bl (decide (U = V_))) H
theorem ok_deq (T : Top K mg ex) (G : Ers K) : FnOk P w K mg base CX0 2 (He.ma K (cDia K) "__eq__") (fdOf K a_Diagram_eq) ["self", "other"] (spDEq K) := by
  refine fok T.f_Diagram_eq sc_Diagram_eq (fun vs H Q E h => ?_) (fun cdv A outer s H vs Q E hr h => ?_)
  · obtain ⟨_, _, _, _, _, _, rfl, _⟩ := h
    rfl
  · obtain ⟨a, b, n, m, U, V_, rfl, da, db, k⟩ := h
    obtain ⟨dx, t, h1, h2⟩ := da.ob
    obtain ⟨dx2, t2, h3, h4⟩ := db.ob
    refine ⟨_, pss_one (ps_ret (pe_and (pe_callB (C8.call_isC G.d) (by rfl) T.z_isinstance boot_isinstance (pa_cons (pv 1) (pa_cons (pe_glob (v := .ref (cDia K)) (by rfl) T.g_Diagram rfl) pa_nil)))
      (pe_one (pe_cmpR (op_eqD hr.units) (pe_fld (pv 0) rfl) (pe_meth0 (pv 1) T.cl_Diagram T.me_Diagram_partners (ok_ptrs T) (hr.mono (by decide)) T.b_Diagram_partners .nil pass0) (nomark _))))), ?_⟩
    refine ⟨_, rfl, b, dx2, _, rfl, h3, _, rfl, iteT ?_⟩
    refine ⟨_, rfl, a, _, dx, _, _, rfl, h1, T.cl_Diagram, T.no_Diagram_ends, dF_ends _ _, _, rfl, b, dx2, _, rfl, h3, dF_partners _ _, b, m, V_, rfl, db, fun t' ht' => ?_⟩
    refine ⟨_, _, dp_tints (.of h2), dp_tints (.of ht'), sh_tints _, sh_tints _, ?_⟩
    rw [eqv_tints]
    exact k
def spAdd (K : PySem.W.Frag) : Sp := fun vs H Q _ => ∃ (e : Addr) (n : Nat) (S : Ed Str) (F : Addr → Prop) (c : Nat) (u : Str) (l : Int), vs = [.ref e, .str u, .int l] ∧ EdAt K H e n S F c ∧ nameB u = true ∧ 0 ≤ l ∧ l + 2 ≤ (n : Int) ∧ c + 6 ≤ 50000 ∧
  ∀ H' F', Off F H H' → Grow F F' H → EdAt K H' e n (S.ins u S.shown.length l) F' (c + 6) → Q .non H'
theorem Off.of_same {F F' : Addr → Prop} {H H1 H2 : Hp} (s : Same H H1) (o : Off F H1 H2) : Off F H H2 := fun b o1 nf h => o b o1 nf (s b o1 h)
theorem Grow.of_same {F F' : Addr → Prop} {H H1 : Hp} (s : Same H H1) (g : Grow F F' H1) : Grow F F' H := ⟨g.1, fun b h => (g.2 b h).imp id fun q => Same.free s q⟩
theorem ok_add (T : Top K mg ex) : FnOk P w K mg base CX0 4 (He.ma K (cEd K) "add") (fdOf K a_Editor_add) ["self", "user", "letter"] (spAdd K) := by
  refine fok T.f_Editor_add sc_Editor_add (fun vs H Q E h => ?_) (fun cdv A outer s H vs Q E hr h => ?_)
  · obtain ⟨_, _, _, _, _, _, _, rfl, _⟩ := h
    rfl
  · obtain ⟨e, n, S, F, c, u, l, rfl, hE, hn, l0, l1, hc, k⟩ := h
    have hE0 := hE
    obtain ⟨B, he, hkb, hok⟩ := hE0
    refine ⟨_, pss_one (ps_expr (pe_meth (pv 0) T.cl_Editor T.me_Editor_insert (ok_ins T) hr T.b_Editor_insert .nil pass0 (pa_cons (pv 1) (pa_cons (pe_callB call_len_seq (by rfl) T.z_len PySem.boot_len (pa_cons (pe_meth0 (pv 0) T.cl_Editor T.me_Editor_shown (ok_shown T) (hr.mono (by decide)) T.b_Editor_shown .nil pass0) pa_nil)) (pa_cons (pv 2) pa_nil))))), ?_⟩
    refine ⟨_, rfl, e, B.dx, _, rfl, he.ob, eF_insert _ _ _ _ _ _ _, _, rfl, _, rfl, e, B.dx, _, rfl, he.ob, eF_shown _ _ _ _ _ _ _, e, n, S, F, c, rfl, hE, fun r H1 s1 hr0 hr1 => ?_⟩
    refine ⟨r, _, rfl, .inl (.of hr1), _, rfl, ?_⟩
    refine ⟨e, n, S, F, c, u, S.shown.length, l, by rw [List.length_map]; rfl, hE.same s1, hn, Nat.le_refl _, l0, l1, hc, fun H' F' o g E' => k H' F' (o.of_same (F' := F') s1) (g.of_same s1) E'⟩
def spState (K : PySem.W.Frag) : Sp := fun vs H Q _ => ∃ (e : Addr) (n : Nat) (S : Ed Str) (F : Addr → Prop) (c : Nat) (R : List Int) (k : Nat), vs = [.ref e] ∧ EdAt K H e n S F c ∧ 2 ≤ n ∧ n ≤ 6 ∧ S.word.length ≤ 1000 ∧ (∀ x ∈ S.word, 0 ≤ x ∧ x + 2 ≤ (n : Int)) ∧ ValOk n S.word R k ∧
  ∀ t a H', Same H H' → DiaAt K H' a n R → H' t = some (.tup [.ref a, .int (k : Nat)]) → Q (.ref t) H'
theorem letters_ok {n : Nat} (h1 : 2 ≤ n) (h2 : n ≤ 6) {ls : List Int} (h : ∀ x ∈ ls, 0 ≤ x ∧ x + 2 ≤ (n : Int)) : ∀ x ∈ ls, 0 ≤ x ∧ x + 2 ≤ (n : Int) ∧ okP n (genU n x) = true := fun x hx => by
  obtain ⟨a, b⟩ := h x hx
  exact ⟨a, b, (gen_okP h1 h2 a b).1⟩
theorem ok_state (T : Top K mg ex) : FnOk P w K mg base CX0 10 (He.ma K (cEd K) "state") (fdOf K a_Editor_state) ["self"] (spState K) := by
  refine fok T.f_Editor_state sc_Editor_state (fun vs H Q E h => ?_) (fun cdv A outer s H vs Q E hr h => ?_)
  · obtain ⟨_, _, _, _, _, _, _, rfl, _⟩ := h
    rfl
  · obtain ⟨e, n, S, F, c, R, kl, rfl, hE, n1, n2, hl, hx, hv, k⟩ := h
    have hE0 := hE
    obtain ⟨B, he, hkb, hok⟩ := hE0
    refine ⟨_, pss_one (ps_ret (pe_call (ok_val T) hr (by rfl) T.g_value_of T.f_value_of.kp T.b_value_of .nil pass0 (pa_cons (pe_fld (pv 0) rfl) (pa_cons (pe_meth0 (pv 0) T.cl_Editor T.me_Editor_word (ok_word T) (hr.mono (by decide)) T.b_Editor_word .nil pass0) pa_nil)))), ?_⟩
    refine ⟨_, rfl, e, _, B.dx, _, _, rfl, he.ob, T.cl_Editor, T.no_Editor_width, eF_width _ _ _ _ _ _ _, _, rfl, e, B.dx, _, rfl, he.ob, eF_word _ _ _ _ _ _ _, e, n, S, F, c, rfl, hE, fun r H1 s1 hr0 hr1 => ?_⟩
    exact ⟨n, r, S.word, R, kl, rfl, by omega, by omega, hr1, hl, letters_ok n1 n2 hx, id_okP n1 n2, hv.val, fun t a H' s' d ht => k t a H' (s1.trans s') d ht⟩
def IsCut (D : Addr) (W : List Int) (i : Nat) (H : Hp) (y : V) : Prop := ∃ a, y = .ref a ∧ a ≠ D ∧ H a = some (.lst ((del_ W i).map V.int))
def spRem (K : PySem.W.Frag) : Sp := fun vs H Q _ => ∃ (e : Addr) (n : Nat) (S : Ed Str) (F : Addr → Prop) (c : Nat) (R : List Int) (k : Nat), vs = [.ref e] ∧ EdAt K H e n S F c ∧ 2 ≤ n ∧ n ≤ 6 ∧ S.word.length ≤ 1000 ∧ (∀ x ∈ S.word, 0 ≤ x ∧ x + 2 ≤ (n : Int)) ∧ ValOk n S.word R k ∧
  ∀ r H', Same H H' → H' r = some (.lst ((remM n S.word R).map nV)) → Q (.ref r) H'
theorem ok_rem (T : Top K mg ex) (G : Ers K) : FnOk P w K mg base CX0 11 (He.ma K (cEd K) "removable") (fdOf K a_Editor_removable) ["self"] (spRem K) := by
  refine fok T.f_Editor_removable sc_Editor_removable (fun vs H Q E h => ?_) (fun cdv A outer s H vs Q E hr h => ?_)
  · obtain ⟨_, _, _, _, _, _, _, rfl, _⟩ := h
    rfl
  · obtain ⟨e, n, S, F, c, R, kl, rfl, hE, n1, n2, hl, hx, hv, k⟩ := h
    have hE0 := hE
    obtain ⟨B, he, hkb, hok⟩ := hE0
    refine ⟨_, pss_cons (ps_asg (pe_tup (pa_cons (pe_meth0 (pv 0) T.cl_Editor T.me_Editor_word (ok_word T) (hr.mono (by decide)) T.b_Editor_word .nil pass0)
          (pa_cons (pe_ix ix_tup (pe_meth0 (pv 0) T.cl_Editor T.me_Editor_state (ok_state T) hr T.b_Editor_state .nil pass0) pe_int (fun _ _ => rfl)) pa_nil)))
          (pg_tup rfl (pgs_cons (pg_name (i := 1) sc_Editor_removable.nd rfl (Or.inr rfl)) (pgs_cons (pg_name (i := 2) sc_Editor_removable.nd rfl (Or.inr rfl)) pgs_nil)))) <|
      pss_cons (ps_setLc (i := 3) (own := [("index", 4)]) (g := gName 4) (tt := tYes) rfl sc_Editor_removable.nd rfl rfl (sw_true rfl rfl rfl (by decide +kernel)) (pi_range1 (by rfl) T.z_range (pa_cons (pe_callB call_len_seq (by rfl) T.z_len PySem.boot_len (pa_cons (pv 1) pa_nil)) pa_nil)) (blkOk_by (own := [("index", 4)]) (N := ["self", "word", "diagram", "shorter", "index", "other"]) (sc := defScope s_Editor_removable) (by decide +kernel))
          (fun _ _ _ _ _ => pg_name (i := 4) sc_Editor_removable.nd rfl (Or.inl rfl)) (fun _ _ _ _ _ => pts_nil)
          (fun _ _ _ _ _ => pe_op op_cat (pe_slice (sll_K K) (pv 1) po_none (po_some (pv 4))) (pe_slice (sll_K K) (pv 1) (po_some (pe_op op_add (pv 4) pe_int)) po_none))) <|
      pss_one (ps_ret (pe_lc (own := [("index", 4), ("other", 5)]) (g := gTup K 2 (gCons (gName 4) (gCons (gName 5) gNil))) rfl sc_Editor_removable.nd (pi_enum (by rfl) T.z_enumerate (pa_cons (pv 3) pa_nil)) (blkOk_by (own := [("index", 4), ("other", 5)]) (N := ["self", "word", "diagram", "shorter", "index", "other"]) (sc := defScope s_Editor_removable) (by decide +kernel))
          (fun _ _ _ _ _ => pg_tup rfl (pgs_cons (pg_name (i := 4) sc_Editor_removable.nd rfl (Or.inl rfl)) (pgs_cons (pg_name (i := 5) sc_Editor_removable.nd rfl (Or.inl rfl)) pgs_nil)))
          (fun _ _ _ _ _ => pts_one (pt_cmpR (op_eqI (CX := CX0) (E := fun _ _ _ => False) (C := cDia K) (ok_deq T G) T.me_Diagram_eq T.b_Diagram_eq pass0 (hr.mono (by decide))) (pe_ix (ixt_K K) (pe_call (ok_val T) (hr.mono (by decide)) (by rfl) T.g_value_of T.f_value_of.kp T.b_value_of .nil pass0 (pa_cons (fld_K K (pv 0) rfl) (pa_cons (pv 5) pa_nil))) pe_int (fun _ _ => rfl)) (pv 2) (nomark _)))
          (fun _ _ _ _ _ => pv 4))), ?_⟩
    refine ⟨_, rfl, e, B.dx, _, rfl, he.ob, eF_word _ _ _ _ _ _ _, e, n, S, F, c, rfl, hE, fun r1 H1 s1 f1 h1 => ?_⟩
    have hE1 := hE.same s1
    obtain ⟨B1, he1, _, _⟩ := id hE1
    refine ⟨_, rfl, e, B1.dx, _, rfl, he1.ob, eF_state _ _ _ _ _ _ _, e, n, S, F, c, R, kl, rfl, hE1, n1, n2, hl, hx, hv, fun t a H2 s2 d2 ht2 => ?_⟩
    refine ⟨t, _, 0, _, rfl, rfl, .of ht2, rfl, (by show 2 ≤ sizeLine; decide), fun tt htt => ?_⟩
    refine ⟨tt, _, rfl, .of upd_same, rfl, _, _, rfl, _, _, rfl, rfl, ?_⟩
    have s3 : Same H1 (upd H2 tt (.tup [.ref r1, .ref a])) := same_new s2 htt
    have d3 := d2.same (same_new (Same.refl _) htt (o := .tup [.ref r1, .ref a]))
    generalize upd H2 tt (.tup [.ref r1, .ref a]) = H3 at s3 d3 ⊢
    have h3 : H3 r1 = some (.lst (S.word.map V.int)) := s3 _ _ h1
    have lenW : (S.word.map V.int).length = S.word.length := List.length_map _
    refine ⟨_, rfl, r1, _, rfl, .inl (.of h3), _, rfl, by rw [lenW]; omega, by rw [lenW]; omega, fun D hD => ?_⟩
    rw [lenW]
    refine lc_goRD walk_range (by omega) (fun i y H => IsCut D S.word i H y) (fun i y H H' s ⟨b, eb, nb, hb⟩ => ⟨b, eb, nb, s _ _ hb⟩) hD (fun _ _ => trivial) (fun i y H4 xs ys e4 ⟨b, eb, nb, hb⟩ => ⟨b, eb, nb, by rw [upd_ne nb]; exact hb⟩) ?_ ?_
    · rintro i x H5 H4 Kt hi s4 ⟨zs, hz⟩ ⟨rfl, rfl⟩ kt
      have h4 : H4 r1 = some (.lst (S.word.map V.int)) := s4 _ _ h3
      refine ⟨rfl, _, rfl, _, rfl, _, rfl, r1, _, rfl, .of h4, fun p hp => ?_⟩
      have h5 : upd H4 p (.lst (cutV (S.word.map V.int) none (some (0 + (i : Nat))))) r1 = some (.lst (S.word.map V.int)) := same_new (Same.refl _) hp _ _ h4
      refine ⟨_, rfl, _, rfl, _, _, rfl, rfl, _, rfl, r1, _, rfl, .of h5, fun p2 hp2 => ?_⟩
      have ne : p ≠ p2 := ne_of_none upd_same hp2
      refine ⟨p, p2, _, _, rfl, rfl, (by rw [upd_ne ne]; exact upd_same), upd_same, ?_, fun p3 hp3 => ?_⟩
      · have q1 := cutV_length (S.word.map V.int) none (some (0 + (i : Nat)))
        have q2 := cutV_length (S.word.map V.int) (some (0 + (i : Nat) + 1)) none
        rw [lenW] at q1 q2
        exact line_of (by omega)
      · have sH := same_new (same_new (same_new (Same.refl H4) hp (o := .lst (cutV (S.word.map V.int) none (some (0 + (i : Nat)))))) hp2 (o := .lst (cutV (S.word.map V.int) (some (0 + (i : Nat) + 1)) none))) hp3 (o := .lst (cutV (S.word.map V.int) none (some (0 + (i : Nat))) ++ cutV (S.word.map V.int) (some (0 + (i : Nat) + 1)) none))
        have f3 : H4 p3 = none := Same.free (same_new (same_new (Same.refl H4) hp) hp2) hp3
        refine kt _ _ sH ⟨p3, rfl, fun q => ?_, ?_⟩
        · rw [q, hz] at f3; cases f3
        · rw [upd_same, Int.zero_add, cut_take _ (by rw [lenW]; omega)]
          have ei : ((i : Nat) : Int) + 1 = ((i + 1 : Nat) : Int) := by omega
          rw [ei, cut_drop _ (by rw [lenW]; omega)]
          unfold del_
          rw [List.map_append, List.map_take, List.map_drop]
    · intro H4 acc s4 hD4 r4
      rw [Int.toNat_natCast] at r4
      have len4 : acc.length = S.word.length := by rw [← r4.1, List.length_range]
      have s34 := s1.trans (s3.trans s4)
      refine ⟨_, rfl, D, _, rfl, .of hD4, fun D2 hD2 => ?_⟩
      refine lc_go walk_enum (by omega) (fun i => if remB n S.word R i = true then some (nV i) else none) hD2 (fun H5 s5 => .of (s5 _ _ hD4)) ?_ ?_
      · rintro i x H5 H6 Kt Kf hi s5 ⟨tq, x1, y1, rfl, htq, rfl, e1, e2⟩ kt kf
        cases e1
        rw [len4] at hi
        obtain ⟨cq, rfl, _, hcq⟩ := r4.2 i i y1 (by rw [List.getElem?_range hi]) e2
        have s6 : Same H5 (upd H5 tq (.tup [.int (i : Nat), .ref cq])) := same_new (Same.refl _) htq
        refine ⟨tq, _, rfl, .of upd_same, rfl, _, _, rfl, _, _, rfl, rfl, rfl, ?_⟩
        have hE6 := hE.same (s34.trans (s5.trans s6))
        obtain ⟨B6, he6, _, _⟩ := id hE6
        have hx6 : ∀ x ∈ del_ S.word i, 0 ≤ x ∧ x + 2 ≤ (n : Int) := fun x hx' => hx x (del_mem hx')
        obtain ⟨R6, k6, v6⟩ := val_ok n1 n2 hx6
        have hc6 := (s5.trans s6) _ _ hcq
        have a6 := d3.same (s4.trans (s5.trans s6))
        generalize upd H5 tq (.tup [.int (i : Nat), .ref cq]) = H7 at s6 hE6 he6 hc6 a6 ⊢
        refine ⟨_, rfl, e, _, B6.dx, _, _, rfl, he6.ob, T.cl_Editor, T.no_Editor_width, eF_width _ _ _ _ _ _ _, _, rfl, ?_⟩
        refine ⟨n, cq, del_ S.word i, R6, k6, rfl, by omega, by omega, hc6, Nat.le_trans (del_len _ _) hl, letters_ok n1 n2 hx6, id_okP n1 n2, v6.val, fun t8 a8 H8 s8 d8 ht8 => ?_⟩
        obtain ⟨dx8, tt8, o8, _⟩ := d8.ob
        have d9 := a6.same s8
        obtain ⟨dx9, tt9, o9, _⟩ := d9.ob
        refine ⟨t8, _, 0, _, rfl, rfl, .of ht8, rfl, _, rfl, a8, a, dx8, dx9, _, _, rfl, rfl, o8, o9, a8, a, n, n, R6, R, rfl, d8, d9, _, rfl, _, rfl, ?_⟩
        have er : remB n S.word R i = decide (R6 = R) := by unfold remB; rw [v6.val]
        rw [er] at kt kf
        cases hb : decide (R6 = R) with
        | true => exact iteT ⟨_, rfl, kt _ _ (by rw [hb]; rfl) (s6.trans s8)⟩
        | false => exact iteF (kf _ (by rw [hb]; rfl) (s6.trans s8))
      · intro H5 s5 hD5
        refine k D2 _ (s34.trans s5) ?_
        rw [hD5, len4]
        congr 2
        unfold remM
        have q := fm_filter (List.range S.word.length) (fun i => if remB n S.word R i = true then some (nV i) else none) (remB n S.word R) nV (fun i x hx => by
          have hi := (List.getElem?_eq_some_iff.mp hx).1
          rw [List.length_range] at hi
          rw [List.getElem?_range hi] at hx
          cases hx
          rfl)
        rw [List.length_range] at q
        exact q
end
end K54
namespace K54
open PySem PySem.Spec PyProof.Rows L2
section
variable {P : Program} {w : World} {K : PySem.W.Frag} {mg : Str → Option Value} {ex : PySem.W.Frag → Bool} {base : Heap}
def spEInit (K : PySem.W.Frag) : Sp := fun vs H Q _ => ∃ (p dx : Addr) (n : Nat), vs = [.ref p, .int (n : Nat)] ∧ H p = some (.ins (cEd K) dx []) ∧ 1 ≤ n ∧ n ≤ 16 ∧
  ∀ H' F, (∀ b o, b ≠ p → H b = some o → H' b = some o) → EdAt K H' p n Ed.new F 0 → (∀ b, F b → b = p ∨ H b = none) → Q .non H'
theorem ok_einit (T : Top K mg ex) : FnOk P w K mg base CX0 4 (He.fAd K a_Editor_init) (fdOf K a_Editor_init) ["self", "columns"] (spEInit K) := by
  refine fok T.f_Editor_init sc_Editor_init (fun vs H Q E h => ?_) (fun cdv A outer s H vs Q E hr h => ?_)
  · obtain ⟨_, _, _, rfl, _⟩ := h
    rfl
  · obtain ⟨p, dx, n, rfl, hp, n1, n16, k⟩ := h
    refine ⟨_, pss_cons (ps_expr (pe_call (ok_check T) hr (by rfl) T.g_check_columns T.f_check_columns.kp T.b_check_columns .nil pass0 (pa_cons (pv 1) pa_nil))) <|
      pss_cons (ps_fld (pv 0) (pv 1) rfl) <| pss_cons (ps_fld (pv 0) (pe_lst pa_nil) rfl) <| pss_cons (ps_fld (pv 0) (pe_lst pa_nil) rfl) <| pss_cons (ps_fld (pv 0) (pe_lst pa_nil) rfl) <|
      pss_cons (ps_fld (pv 0) pe_dnewK rfl) <| pss_cons (ps_fld (pv 0) pe_dnewK rfl) <| pss_one (ps_fld (pv 0) pe_dnewK rfl), ?_⟩
    refine ⟨_, rfl, _, rfl, by omega, by omega, ?_⟩
    refine ⟨_, rfl, _, rfl, p, _, dx, [], rfl, hp, T.cl_Editor, T.no_Editor_width, (by show 0 < 1000; decide), ?_⟩
    have g0 : ∀ b o, b ≠ p → H b = some o → upd H p (.ins (cEd K) dx (putF "width" (.int (n : Nat)) [])) b = some o := fun b o nb h => by rw [upd_ne nb]; exact h
    have p0 : upd H p (.ins (cEd K) dx (putF "width" (.int (n : Nat)) [])) p = some (.ins (cEd K) dx (putF "width" (.int (n : Nat)) [])) := upd_same
    have f0 : ∀ b, upd H p (.ins (cEd K) dx (putF "width" (.int (n : Nat)) [])) b = none → H b = none ∧ b ≠ p := fun b h => by
      by_cases q : b = p
      · subst q; rw [upd_same] at h; cases h
      · rw [upd_ne q] at h; exact ⟨h, q⟩
    generalize upd H p (.ins (cEd K) dx (putF "width" (.int (n : Nat)) [])) = H0 at g0 p0 f0 ⊢
    have nf : ∀ {Ha : Hp} {z : Addr} {o1 I1 : HO}, ∀ b, upd (upd Ha z o1) p I1 b = none → Ha b = none ∧ b ≠ z ∧ b ≠ p := fun {Ha z o1 I1} b h => by
      by_cases q : b = p
      · subst q; rw [upd_same] at h; cases h
      · rw [upd_ne q] at h
        by_cases q2 : b = z
        · subst q2; rw [upd_same] at h; cases h
        · rw [upd_ne q2] at h; exact ⟨h, q2, q⟩
    refine ⟨Nat.zero_le _, fun o hz => ⟨_, rfl, p, _, dx, _, rfl, (two_upd (O := .lst []) (I := .lst []) p0 hz).2.2.2.2, T.cl_Editor, T.no_Editor_order, (by show 1 < 1000; decide), ?_⟩⟩
    obtain ⟨p1, o1, np1, g1, _⟩ := two_upd (O := .lst []) (I := .ins (cEd K) dx (putF "order" (.ref o) (putF "width" (.int (n : Nat)) []))) p0 hz
    have f1 := nf (Ha := H0) (z := o) (o1 := .lst []) (I1 := .ins (cEd K) dx (putF "order" (.ref o) (putF "width" (.int (n : Nat)) [])))
    generalize upd (upd H0 o (.lst [])) p (.ins (cEd K) dx (putF "order" (.ref o) (putF "width" (.int (n : Nat)) []))) = H1 at p1 o1 g1 f1 ⊢
    refine ⟨Nat.zero_le _, fun l hz2 => ⟨_, rfl, p, _, dx, _, rfl, (two_upd (O := .lst []) (I := .lst []) p1 hz2).2.2.2.2, T.cl_Editor, T.no_Editor_letters, (by show 2 < 1000; decide), ?_⟩⟩
    obtain ⟨p2, l2, np2, g2, _⟩ := two_upd (O := .lst []) (I := .ins (cEd K) dx (putF "letters" (.ref l) (putF "order" (.ref o) (putF "width" (.int (n : Nat)) [])))) p1 hz2
    have f2 := nf (Ha := H1) (z := l) (o1 := .lst []) (I1 := .ins (cEd K) dx (putF "letters" (.ref l) (putF "order" (.ref o) (putF "width" (.int (n : Nat)) []))))
    have o2 := g2 o _ np1 o1
    generalize upd (upd H1 l (.lst [])) p (.ins (cEd K) dx (putF "letters" (.ref l) (putF "order" (.ref o) (putF "width" (.int (n : Nat)) [])))) = H2 at p2 l2 g2 f2 o2 ⊢
    refine ⟨Nat.zero_le _, fun ww hz3 => ⟨_, rfl, p, _, dx, _, rfl, (two_upd (O := .lst []) (I := .lst []) p2 hz3).2.2.2.2, T.cl_Editor, T.no_Editor_owners, (by show 3 < 1000; decide), ?_⟩⟩
    obtain ⟨p3, w3, np3, g3, _⟩ := two_upd (O := .lst []) (I := .ins (cEd K) dx (putF "owners" (.ref ww) (putF "letters" (.ref l) (putF "order" (.ref o) (putF "width" (.int (n : Nat)) []))))) p2 hz3
    have f3 := nf (Ha := H2) (z := ww) (o1 := .lst []) (I1 := .ins (cEd K) dx (putF "owners" (.ref ww) (putF "letters" (.ref l) (putF "order" (.ref o) (putF "width" (.int (n : Nat)) [])))))
    have o3 := g3 o _ np1 o2
    have l3 := g3 l _ np2 l2
    generalize upd (upd H2 ww (.lst [])) p (.ins (cEd K) dx (putF "owners" (.ref ww) (putF "letters" (.ref l) (putF "order" (.ref o) (putF "width" (.int (n : Nat)) []))))) = H3 at p3 w3 g3 f3 o3 l3 ⊢
    refine fun hd hz4 => ⟨_, rfl, p, _, dx, _, rfl, (two_upd (O := .dK []) (I := .lst []) p3 hz4).2.2.2.2, T.cl_Editor, T.no_Editor_hidden, (by show 4 < 1000; decide), ?_⟩
    obtain ⟨p4, h4, np4, g4, _⟩ := two_upd (O := .dK []) (I := .ins (cEd K) dx (putF "hidden" (.ref hd) (putF "owners" (.ref ww) (putF "letters" (.ref l) (putF "order" (.ref o) (putF "width" (.int (n : Nat)) [])))))) p3 hz4
    have f4 := nf (Ha := H3) (z := hd) (o1 := .dK []) (I1 := .ins (cEd K) dx (putF "hidden" (.ref hd) (putF "owners" (.ref ww) (putF "letters" (.ref l) (putF "order" (.ref o) (putF "width" (.int (n : Nat)) []))))))
    have o4 := g4 o _ np1 o3
    have l4 := g4 l _ np2 l3
    have w4 := g4 ww _ np3 w3
    generalize upd (upd H3 hd (.dK [])) p (.ins (cEd K) dx (putF "hidden" (.ref hd) (putF "owners" (.ref ww) (putF "letters" (.ref l) (putF "order" (.ref o) (putF "width" (.int (n : Nat)) [])))))) = H4 at p4 h4 g4 f4 o4 l4 w4 ⊢
    refine fun dd hz5 => ⟨_, rfl, p, _, dx, _, rfl, (two_upd (O := .dK []) (I := .lst []) p4 hz5).2.2.2.2, T.cl_Editor, T.no_Editor_done, (by show 5 < 1000; decide), ?_⟩
    obtain ⟨p5, d5, np5, g5, _⟩ := two_upd (O := .dK []) (I := .ins (cEd K) dx (putF "done" (.ref dd) (putF "hidden" (.ref hd) (putF "owners" (.ref ww) (putF "letters" (.ref l) (putF "order" (.ref o) (putF "width" (.int (n : Nat)) []))))))) p4 hz5
    have f5 := nf (Ha := H4) (z := dd) (o1 := .dK []) (I1 := .ins (cEd K) dx (putF "done" (.ref dd) (putF "hidden" (.ref hd) (putF "owners" (.ref ww) (putF "letters" (.ref l) (putF "order" (.ref o) (putF "width" (.int (n : Nat)) [])))))))
    have o5 := g5 o _ np1 o4
    have l5 := g5 l _ np2 l4
    have w5 := g5 ww _ np3 w4
    have h5 := g5 hd _ np4 h4
    generalize upd (upd H4 dd (.dK [])) p (.ins (cEd K) dx (putF "done" (.ref dd) (putF "hidden" (.ref hd) (putF "owners" (.ref ww) (putF "letters" (.ref l) (putF "order" (.ref o) (putF "width" (.int (n : Nat)) []))))))) = H5 at p5 d5 g5 f5 o5 l5 w5 h5 ⊢
    refine fun uu hz6 => ⟨_, rfl, p, _, dx, _, rfl, (two_upd (O := .dK []) (I := .lst []) p5 hz6).2.2.2.2, T.cl_Editor, T.no_Editor_undone, (by show 6 < 1000; decide), ?_⟩
    obtain ⟨p6, u6, np6, g6, _⟩ := two_upd (O := .dK []) (I := .ins (cEd K) dx (putF "undone" (.ref uu) (putF "done" (.ref dd) (putF "hidden" (.ref hd) (putF "owners" (.ref ww) (putF "letters" (.ref l) (putF "order" (.ref o) (putF "width" (.int (n : Nat)) [])))))))) p5 hz6
    rw [eF_put] at p6
    have o6 := g6 o _ np1 o5
    have l6 := g6 l _ np2 l5
    have w6 := g6 ww _ np3 w5
    have h6 := g6 hd _ np4 h5
    have d6 := g6 dd _ np5 d5
    have olw : o ≠ l ∧ o ≠ ww ∧ l ≠ ww := ⟨ne_of_none o1 hz2, ne_of_none o2 hz3, ne_of_none l2 hz3⟩
    have hdu : hd ≠ dd ∧ hd ≠ uu ∧ dd ≠ uu := ⟨ne_of_none h4 hz5, ne_of_none h5 hz6, ne_of_none d5 hz6⟩
    have fr2 : ∀ b, H1 b = none → H b = none := fun b h => (f0 b (f1 b h).1).1
    have fr3 : ∀ b, H2 b = none → H b = none := fun b h => fr2 b (f2 b h).1
    have fr4 : ∀ b, H3 b = none → H b = none := fun b h => fr3 b (f3 b h).1
    have fr5 : ∀ b, H4 b = none → H b = none := fun b h => fr4 b (f4 b h).1
    have fr6 : ∀ b, H5 b = none → H b = none := fun b h => fr5 b (f5 b h).1
    refine k _ (fun b => b = p ∨ b = o ∨ b = l ∨ b = ww ∨ b = hd ∨ b = dd ∨ b = uu) (fun b o' nb h => g6 b o' nb (g5 b o' nb (g4 b o' nb (g3 b o' nb (g2 b o' nb (g1 b o' nb (g0 b o' nb h)))))))
      ⟨⟨dx, o, l, ww, hd, dd, uu, [], [], [], fun b => if b = o then some .order else if b = l then some .letters else if b = ww then some .owners else none⟩, ?_, fun _ => rfl, Ed.new_ok⟩ ?_
    · have back : ∀ b x, (if b = o then some Rl.order else if b = l then some .letters else if b = ww then some .owners else none) = some x → (b = o ∧ x = .order) ∨ (b = l ∧ x = .letters) ∨ (b = ww ∧ x = .owners) := fun b x h => by
        by_cases q1 : b = o
        · rw [if_pos q1] at h; exact .inl ⟨q1, (Option.some.inj h).symm⟩
        · rw [if_neg q1] at h
          by_cases q2 : b = l
          · rw [if_pos q2] at h; exact .inr (.inl ⟨q2, (Option.some.inj h).symm⟩)
          · rw [if_neg q2] at h
            by_cases q3 : b = ww
            · rw [if_pos q3] at h; exact .inr (.inr ⟨q3, (Option.some.inj h).symm⟩)
            · rw [if_neg q3] at h; cases h
      refine { ob := p6, ro := if_pos rfl, rl := ?_, rw := ?_, li := fun a x h => ?_, fi := fun a x h => ?_, inj := fun a b x ha hb => ?_, hh := h6, dh := d6, uh := u6, n1 := hdu.1, n2 := hdu.2.1, n3 := hdu.2.2,
               fe := .inl rfl, f1 := by simp, f2 := by simp, f3 := by simp, al := fun b hb => ?_, kh := fun _ => rfl, kd := fun u => .inr ⟨rfl, rfl, fun a h => ?_⟩, ku := fun u => .inr ⟨rfl, rfl, fun a h => ?_⟩, z1 := Nat.le_refl _, z2 := Nat.le_refl _, z3 := Nat.le_refl _, z4 := fun a x h => ?_, zc := by decide }
      · show (if l = o then some Rl.order else if l = l then some .letters else if l = ww then some .owners else none) = some .letters
        rw [if_neg olw.1.symm, if_pos rfl]
      · show (if ww = o then some Rl.order else if ww = l then some .letters else if ww = ww then some .owners else none) = some .owners
        rw [if_neg olw.2.1.symm, if_neg olw.2.2.symm, if_pos rfl]
      · rcases back a x h with ⟨q, q'⟩ | ⟨q, q'⟩ | ⟨q, q'⟩ <;> subst q q'
        · exact o6
        · exact l6
        · exact w6
      · rcases back a x h with ⟨q, q'⟩ | ⟨q, q'⟩ | ⟨q, q'⟩ <;> subst q <;> simp
      · rcases back a x ha with ⟨q, q'⟩ | ⟨q, q'⟩ | ⟨q, q'⟩ <;> rcases back b x hb with ⟨z, z'⟩ | ⟨z, z'⟩ | ⟨z, z'⟩ <;> first | (rw [q'] at z'; cases z'; done) | (rw [q, z])
      · rcases hb with q | q | q | q | q | q | q <;> subst q
        · exact ⟨_, p6⟩
        · exact ⟨_, o6⟩
        · exact ⟨_, l6⟩
        · exact ⟨_, w6⟩
        · exact ⟨_, h6⟩
        · exact ⟨_, d6⟩
        · exact ⟨_, u6⟩
      · rcases back a _ h with ⟨_, q⟩ | ⟨_, q⟩ | ⟨_, q⟩ <;> cases q
      · rcases back a _ h with ⟨_, q⟩ | ⟨_, q⟩ | ⟨_, q⟩ <;> cases q
      · rcases back a x h with ⟨_, q⟩ | ⟨_, q⟩ | ⟨_, q⟩ <;> subst q <;> exact Nat.le_refl _
    · rintro b (q | q | q | q | q | q | q)
      · exact .inl q
      · subst q; exact .inr (f0 _ hz).1
      · subst q; exact .inr (fr2 _ hz2)
      · subst q; exact .inr (fr3 _ hz3)
      · subst q; exact .inr (fr4 _ hz4)
      · subst q; exact .inr (fr5 _ hz5)
      · subst q; exact .inr (fr6 _ hz6)
end
end K54
namespace K54
section
variable {U : Type} [DecidableEq U] [Inhabited U]
theorem shown_cut (l : List Nat) (k n : Nat) (p : Nat → Bool) : ((l.take k ++ n :: l.drop k).filter p).length = (l.filter p).length + (if p n = true then 1 else 0) := by
  rw [← List.countP_eq_length_filter, ← List.countP_eq_length_filter]
  exact countP_ins l k n
theorem Ed.Ok.len_ins {S : Ed U} (K : S.Ok) (u : U) (pos : Nat) (l : Int) : (S.ins u pos l).shown.length = S.shown.length + 1 := by
  have e := shown_cut S.order (S.place pos) S.letters.length (fun i => !S.hid i)
  rw [K.hn _ (Nat.le_refl _)] at e
  exact e
theorem Ed.Ok.len_undo {S : Ed U} (K : S.Ok) {u : U} (h : S.done u ≠ []) : (S.undo u).shown.length + 1 = S.shown.length := by
  obtain ⟨h1, h2, h3⟩ := K.dn u _ (Ed.top_mem h)
  have e := countP_hide (p := fun i => !S.hid i) (q := fun i => !setAt S.hid (S.top u) true i) K.nd ((K.mem _).mpr h1) (by simp [h2]) (by simp [setAt_same]) (fun i hi => by rw [setAt_ne hi])
  rw [List.countP_eq_length_filter, List.countP_eq_length_filter] at e
  exact e.symm
theorem Ed.Ok.len_redo {S : Ed U} (K : S.Ok) {u : U} (h : S.undone u ≠ []) : (S.redo u).shown.length = S.shown.length + 1 := by
  obtain ⟨h1, h2, h3⟩ := K.un u _ (Ed.utop_mem h)
  have e := countP_hide (q := fun i => !S.hid i) (p := fun i => !setAt S.hid (S.utop u) false i) K.nd ((K.mem _).mpr h1) (by simp [setAt_same]) (by simp [h2]) (fun i hi => by rw [setAt_ne hi])
  rw [List.countP_eq_length_filter, List.countP_eq_length_filter] at e
  exact e
theorem Ed.Ok.count {S : Ed U} (K : S.Ok) (u : U) : S.auth.count u = (S.done u).length := by
  rw [← K.ct u]
  unfold Ed.auth Ed.shown
  rw [List.count, List.countP_map, List.countP_filter]
  refine List.countP_congr fun i _ => ?_
  simp [Function.comp, and_comm]
/-! ### undone one after the other -/
def Ed.undoN (u : U) : Nat → Ed U → Ed U
  | 0, S => S
  | k + 1, S => (Ed.undoN u k S).undo u
theorem Ed.undoN_done {S : Ed U} (u : U) : ∀ k, ((Ed.undoN u k S).done u).length = (S.done u).length - k
  | 0 => rfl
  | k + 1 => by
    show (setAt (Ed.undoN u k S).done u _ u).length = _
    rw [setAt_same, List.length_dropLast, Ed.undoN_done u k]
    omega
theorem Ed.undoN_ne {S : Ed U} {u : U} {k : Nat} (h : k < (S.done u).length) : (Ed.undoN u k S).done u ≠ [] := fun e => by
  have q := Ed.undoN_done (S := S) u k
  rw [e] at q
  simp at q
  omega
theorem Ed.undoN_ok {S : Ed U} (K : S.Ok) {u : U} : ∀ k, k ≤ (S.done u).length → (Ed.undoN u k S).Ok
  | 0, _ => K
  | k + 1, h => (Ed.undoN_ok K k (Nat.le_of_succ_le h)).undo (Ed.undoN_ne h)
theorem Ed.undoN_other {S : Ed U} {u v : U} (h : v ≠ u) : ∀ k, (Ed.undoN u k S).done v = S.done v
  | 0 => rfl
  | k + 1 => by
    show setAt (Ed.undoN u k S).done u _ v = _
    rw [setAt_ne h]
    exact Ed.undoN_other h k
theorem Ed.undoN_own {S : Ed U} {u : U} : ∀ k, (Ed.undoN u k S).owners = S.owners ∧ (Ed.undoN u k S).letters = S.letters
  | 0 => ⟨rfl, rfl⟩
  | k + 1 => Ed.undoN_own k
theorem Ed.undoN_back {S : Ed U} (K : S.Ok) {u : U} {k : Nat} (h : k < (S.done u).length) : (Ed.undoN u (k + 1) S).undone u ≠ [] ∧ (Ed.undoN u (k + 1) S).redo u = Ed.undoN u k S := by
  refine ⟨?_, Ed.redo_undo (Ed.undoN_ok K k (Nat.le_of_lt h)) (Ed.undoN_ne h)⟩
  show setAt (Ed.undoN u k S).undone u _ u ≠ []
  rw [setAt_same]
  simp
/-- the first i users' actions undone -/
def Ed.sq (S : Ed U) (us : List U) : Nat → Ed U
  | 0 => S
  | i + 1 => match us[i]? with
    | some u => Ed.undoN u (S.done u).length (Ed.sq S us i)
    | none => Ed.sq S us i
theorem Ed.sq_own {S : Ed U} {us : List U} : ∀ i, (Ed.sq S us i).owners = S.owners ∧ (Ed.sq S us i).letters = S.letters
  | 0 => ⟨rfl, rfl⟩
  | i + 1 => by
    unfold Ed.sq
    cases us[i]? with
    | none => exact Ed.sq_own i
    | some u => exact ⟨(Ed.undoN_own _).1.trans (Ed.sq_own i).1, (Ed.undoN_own _).2.trans (Ed.sq_own i).2⟩
/-- a user that has not come yet has all; one that has come has none -/
theorem Ed.sq_done {S : Ed U} {us : List U} (nd : us.Nodup) : ∀ i, (∀ v, (∀ j, j < i → us[j]? ≠ some v) → (Ed.sq S us i).done v = S.done v) ∧ ∀ j v, j < i → us[j]? = some v → (Ed.sq S us i).done v = []
  | 0 => ⟨fun _ _ => rfl, fun j _ h => absurd h (Nat.not_lt_zero j)⟩
  | i + 1 => by
    obtain ⟨h1, h2⟩ := Ed.sq_done (S := S) nd i
    unfold Ed.sq
    cases e : us[i]? with
    | none =>
      refine ⟨fun v hv => h1 v fun j hj => hv j (Nat.lt_succ_of_lt hj), fun j v hj q => ?_⟩
      rcases Nat.lt_succ_iff_lt_or_eq.mp hj with z | z
      · exact h2 j v z q
      · rw [z, e] at q; cases q
    | some u =>
      have hu : (Ed.sq S us i).done u = S.done u := h1 u fun j hj q => by
        have a := (List.getElem?_eq_some_iff.mp q)
        have b := (List.getElem?_eq_some_iff.mp e)
        have w := (List.getElem_inj nd (h₀ := a.1) (h₁ := b.1)).mp (a.2.trans b.2.symm)
        omega
      refine ⟨fun v hv => ?_, fun j v hj q => ?_⟩
      · have ne : v ≠ u := fun z => hv i (Nat.lt_succ_self i) (z ▸ e)
        show (Ed.undoN u _ _).done v = _
        rw [Ed.undoN_other ne]
        exact h1 v fun j hj => hv j (Nat.lt_succ_of_lt hj)
      · show (Ed.undoN u _ _).done v = _
        rcases Nat.lt_succ_iff_lt_or_eq.mp hj with z | z
        · have ne : v ≠ u := fun w => by
            subst w
            have a := (List.getElem?_eq_some_iff.mp q)
            have b := (List.getElem?_eq_some_iff.mp e)
            have w := (List.getElem_inj nd (h₀ := a.1) (h₁ := b.1)).mp (a.2.trans b.2.symm)
            omega
          rw [Ed.undoN_other ne]
          exact h2 j v z q
        · subst z
          rw [e] at q
          cases q
          refine List.eq_nil_of_length_eq_zero ?_
          rw [Ed.undoN_done, hu]
          omega
theorem Ed.sq_at {S : Ed U} {us : List U} (nd : us.Nodup) {i : Nat} {u : U} (e : us[i]? = some u) : Ed.sq S us (i + 1) = Ed.undoN u (S.done u).length (Ed.sq S us i) ∧ (Ed.sq S us i).done u = S.done u := by
  refine ⟨by rw [Ed.sq, e], (Ed.sq_done nd i).1 u fun j hj q => ?_⟩
  have a := (List.getElem?_eq_some_iff.mp q)
  have b := (List.getElem?_eq_some_iff.mp e)
  have w := (List.getElem_inj nd (h₀ := a.1) (h₁ := b.1)).mp (a.2.trans b.2.symm)
  omega
theorem Ed.sq_ok {S : Ed U} (K : S.Ok) {us : List U} (nd : us.Nodup) : ∀ i, (Ed.sq S us i).Ok
  | 0 => K
  | i + 1 => by
    cases e : us[i]? with
    | none => rw [Ed.sq, e]; exact Ed.sq_ok K nd i
    | some u =>
      obtain ⟨h1, h2⟩ := Ed.sq_at (S := S) nd e
      rw [h1]
      exact Ed.undoN_ok (Ed.sq_ok K nd i) _ (by rw [h2]; exact Nat.le_refl _)
theorem Ed.sq_end {S : Ed U} (K : S.Ok) {us : List U} (nd : us.Nodup) (h : ∀ x ∈ S.owners, x ∈ us) : (Ed.sq S us us.length).shown = [] := by
  have K2 := Ed.sq_ok K nd us.length
  cases e : (Ed.sq S us us.length).shown with
  | nil => rfl
  | cons a r =>
    exfalso
    have ha : a ∈ (Ed.sq S us us.length).shown := by rw [e]; exact List.mem_cons_self
    obtain ⟨m1, m2⟩ := List.mem_filter.mp ha
    have hlt : a < (Ed.sq S us us.length).owners.length := by rw [K2.ol]; exact (K2.mem a).mp m1
    have ow : (Ed.sq S us us.length).own a ∈ us := by
      refine h _ ?_
      rw [← (Ed.sq_own (S := S) (us := us) us.length).1]
      unfold Ed.own
      rw [List.getD_eq_getElem?_getD, List.getElem?_eq_getElem hlt]
      exact List.getElem_mem hlt
    obtain ⟨j, hj⟩ := List.getElem?_of_mem ow
    have jl := (List.getElem?_eq_some_iff.mp hj).1
    have c := K2.ct ((Ed.sq S us us.length).own a)
    rw [(Ed.sq_done nd us.length).2 j _ jl hj, List.length_nil, List.countP_eq_zero] at c
    have q := c a m1
    simp at q m2
    rw [m2] at q
    cases q
end
end K54
namespace K54
open PySem PySem.Spec PyProof.Rows L2
/-! ### the law's pools -/
def PoolAt (H : Hp) (p : Addr) : Prop := ∃ a b : Int, H p = some (.lst [.int a, .int b]) ∧ 0 ≤ a ∧ 0 ≤ b ∧ b < 2147483648
theorem PoolAt.same {H H' : Hp} {p : Addr} (s : Same H H') (h : PoolAt H p) : PoolAt H' p := let ⟨a, b, e, q⟩ := h; ⟨a, b, s _ _ e, q⟩
section
variable {P : Program} {w : World} {K : PySem.W.Frag} {mg : Str → Option Value} {ex : PySem.W.Frag → Bool} {base : Heap}
def spPool (K : PySem.W.Frag) : Sp := fun vs H Q _ => ∃ (a : Addr) (ns : List Int) (k : Nat), vs = [.ref a, .int (k : Nat)] ∧ SqL K H a (ns.map V.int) ∧ k ≤ 1000 ∧ ∀ p H', Same H H' → H p = none → PoolAt H' p → Q (.ref p) H'
theorem ok_pool (T : Top K mg ex) : FnOk P w K mg base CX0 1 (He.fAd K a_law_pool) (fdOf K a_law_pool) ["_law_script", "_law_k"] (spPool K) := by
  refine fok T.f_law_pool sc_law_pool (fun vs H Q E h => ?_) (fun cdv A outer s H vs Q E hr h => ?_)
  · obtain ⟨_, _, _, rfl, _⟩ := h
    rfl
  · obtain ⟨a, ns, k, rfl, ha, hk, kk⟩ := h
    refine ⟨_, pss_cons (ps_set (i := 2) sc_law_pool.nd rfl (Or.inl rfl) pe_int) <|
      C8.pss_cut (ps_if (pt_cmpR op_lt (pv 1) (pe_callB call_len_seq (by rfl) T.z_len PySem.boot_len (pa_cons (pv 0) pa_nil)) (nomark _))
        (pss_one (ps_set (i := 2) sc_law_pool.nd rfl (Or.inl rfl) (pe_callB call_abs (by rfl) T.z_abs boot_abs (pa_cons (pe_ix ix_list (pv 0) (pv 1) (fun _ _ => rfl)) pa_nil)))) pss_nil) <|
      pss_cons (ps_set (i := 3) sc_law_pool.nd rfl (Or.inl rfl) (pe_op op_mod (pe_op op_mul (pe_op op_add (pe_op op_add (pe_op op_add (pe_op op_mod (pv 2) pe_int) (pe_op op_mul (pe_op op_mul pe_int (pv 1)) (pv 1))) (pe_op op_mul pe_int (pv 1))) pe_int) pe_int) pe_int)) <|
      pss_one (ps_ret (pe_lst (pa_cons (pe_op op_mul (pv 2) (pe_callTy call_int1 (by rfl) T.z_int boot_int (pa_cons (pe_cmpR op_ge (pv 2) (pe_op op_pow pe_int pe_int) (nomark _)) pa_nil))) (pa_cons (pe_op op_mod (pe_op op_mul (pv 3) (pv 3)) pe_int) pa_nil)))), ?_⟩
    refine ⟨fun σ H' => H' = H ∧ ∃ cell : Int, 0 ≤ cell ∧ σ = [some (.ref a), some (.int (k : Nat)), some (.int cell), none], ⟨_, rfl, _, rfl, a, _, rfl, .inl ha, _, _, rfl, rfl, _, rfl, ite2 (fun z => ?_) (fun z => ⟨rfl, 0, Int.le_refl _, rfl⟩)⟩, ?_⟩
    · have hlt : k < ns.length := by have := of_decide_eq_true z; rw [List.length_map] at this; omega
      refine ⟨_, rfl, _, rfl, a, _, _, _, rfl, rfl, ha, atI_nat (ints_get (List.getElem?_eq_getElem hlt)), _, rfl, ?_⟩
      exact ⟨rfl, _, by split <;> omega, rfl⟩
    rintro σ H' ⟨rfl, cell, c0, rfl⟩
    have m0 : 0 ≤ cell % 2147483629 ∧ cell % 2147483629 < 2147483629 := ⟨by omega, by omega⟩
    refine ⟨_, rfl, _, _, rfl, rfl, (show (0 : Int) < 2147483629 by decide), _, rfl, _, _, rfl, rfl, .inl ⟨by decide, by decide⟩, _, rfl, _, _, rfl, rfl, .inr ⟨by omega, by omega⟩, _, _, rfl, rfl, _, rfl, _, _, rfl, rfl, .inl ⟨by decide, by decide⟩, _, _, rfl, rfl, _, _, rfl, rfl, _, _, rfl, rfl, .inr ⟨by decide, by decide⟩, _, _, rfl, rfl, (show (0 : Int) < 2147483647 by decide), ?_⟩
    have m1 : ∀ x : Int, 0 ≤ x % 2147483647 ∧ x % 2147483647 < 2147483647 := fun x => ⟨by omega, by omega⟩
    generalize (cell % 2147483629 + 7919 * ((k : Nat) : Int) * ((k : Nat) : Int) + 31 * ((k : Nat) : Int) + 17) * 48271 = mx
    obtain ⟨q0, q1⟩ := m1 mx
    generalize mx % 2147483647 = my at q0 q1
    refine ⟨_, rfl, _, rfl, _, _, rfl, rfl, ⟨by decide, by decide, by decide⟩, _, _, rfl, rfl, .inr ⟨_, rfl, ?_⟩⟩
    have e1 : ∀ b : Bool, 0 ≤ (if b = true then (1 : Int) else 0) ∧ (if b = true then (1 : Int) else 0) ≤ 1 := fun b => by cases b <;> decide
    obtain ⟨g0, g1⟩ := e1 (decide (10 ^ (18 : Int).toNat ≤ cell))
    generalize (if decide (10 ^ (18 : Int).toNat ≤ cell) = true then (1 : Int) else 0) = g at g0 g1 ⊢
    refine ⟨_, _, rfl, rfl, .inr ⟨by omega, by omega⟩, _, rfl, _, rfl, _, _, rfl, rfl, .inl ⟨by omega, by omega⟩, _, _, rfl, rfl, (show (0 : Int) < 2147483629 by decide), (by show 2 ≤ sizeLine; decide), fun q hq => ?_⟩
    refine kk q _ (same_new (Same.refl _) hq) hq ⟨_, _, upd_same, Int.mul_nonneg c0 g0, by omega, by omega⟩
def spTake : Sp := fun vs H Q _ => ∃ (p : Addr) (n : Int), vs = [.ref p, .int n] ∧ PoolAt H p ∧ 0 < n ∧ n ≤ 1000 ∧ ∀ (v : Int) o', 0 ≤ v → v < n → (∃ a b : Int, o' = .lst [.int a, .int b] ∧ 0 ≤ a ∧ 0 ≤ b ∧ b < 2147483648) → Q (.int v) (upd H p o')
theorem ok_take (T : Top K mg ex) : FnOk P w K mg base CX0 1 (He.fAd K a_law_take) (fdOf K a_law_take) ["_law_pool_here", "_law_count"] spTake := by
  refine fok T.f_law_take sc_law_take (fun vs H Q E h => ?_) (fun cdv A outer s H vs Q E hr h => ?_)
  · obtain ⟨_, _, rfl, _⟩ := h
    rfl
  · obtain ⟨p, n, rfl, ⟨a, b, hp, a0, b0, b1⟩, n0, n1, k⟩ := h
    refine ⟨_, pss_cons (ps_if (pt_cmpR op_gt (pe_ix ix_list (pv 0) pe_int (fun _ _ => rfl)) pe_int (nomark _))
        (pss_cons (ps_set (i := 2) sc_law_take.nd rfl (Or.inl rfl) (pe_op op_mod (pe_ix ix_list (pv 0) pe_int (fun _ _ => rfl)) (pv 1))) <|
         pss_cons (ps_asg (pe_op op_fdiv (pe_ix ix_list (pv 0) pe_int (fun _ _ => rfl)) (pv 1)) (pg_sub (pv 0) pe_int set_list)) <|
         pss_one (ps_ret (pv 2))) pss_nil) <|
      pss_cons (ps_asg (pe_op op_mod (pe_op op_add (pe_op op_mul (pe_ix ix_list (pv 0) pe_int (fun _ _ => rfl)) pe_int) pe_int) pe_int) (pg_sub (pv 0) pe_int set_list)) <|
      pss_one (ps_ret (pe_op op_mod (pe_op op_fdiv (pe_op op_mod (pe_op op_mul (pe_ix ix_list (pv 0) pe_int (fun _ _ => rfl)) (pe_ix ix_list (pv 0) pe_int (fun _ _ => rfl))) pe_int) pe_int) (pv 1))), ?_⟩
    refine ⟨_, rfl, p, _, 0, _, rfl, rfl, .of hp, rfl, _, _, rfl, rfl, _, rfl, ite2 (fun z => ?_) (fun z => ?_)⟩
    · refine ⟨_, rfl, p, _, 0, _, rfl, rfl, .of hp, rfl, _, rfl, _, _, rfl, rfl, n0, ?_⟩
      refine ⟨_, rfl, p, _, 0, _, rfl, rfl, .of hp, rfl, _, rfl, _, _, rfl, rfl, ⟨n0, by omega⟩, _, rfl, p, _, 0, 0, rfl, rfl, hp, rfl, ?_⟩
      refine ⟨_, rfl, k _ _ (Int.emod_nonneg _ (by omega)) (Int.emod_lt_of_pos _ n0) ⟨a / n, b, rfl, Int.ediv_nonneg a0 (by omega), b0, b1⟩⟩
    · refine ⟨_, rfl, p, _, 1, _, rfl, rfl, .of hp, rfl, _, _, rfl, rfl, .inr ⟨by decide, by decide⟩, _, _, rfl, rfl, _, _, rfl, rfl, (show (0 : Int) < 2147483647 by decide), _, rfl, p, _, 1, 1, rfl, rfl, hp, rfl, ?_⟩
      have m1 : ∀ x : Int, 0 ≤ x % 2147483647 ∧ x % 2147483647 < 2147483647 := fun x => ⟨by omega, by omega⟩
      obtain ⟨q0, q1⟩ := m1 (b * 48271 + 12345)
      refine ⟨_, rfl, p, _, 1, _, rfl, rfl, .of upd_same, rfl, _, rfl, p, _, 1, _, rfl, rfl, .of upd_same, rfl, _, _, rfl, rfl, .inl ⟨by omega, by omega⟩, _, _, rfl, rfl, (show (0 : Int) < 2147483629 by decide), _, _, rfl, rfl, ⟨by decide, by decide⟩, _, rfl, _, _, rfl, rfl, n0, ?_⟩
      exact k _ _ (Int.emod_nonneg _ (by omega)) (Int.emod_lt_of_pos _ n0) ⟨a, _, rfl, a0, q0, Int.lt_of_lt_of_le q1 (by decide)⟩
end
end K54
namespace K54
open PySem PySem.Spec PyProof.Rows L2
theorem idL_len (n : Nat) : (idL n).length = 2 * n := by
  unfold idL
  rw [List.length_append, List.length_map, List.length_map, List.length_range]
  omega
theorem at_rng {n : Nat} {U : List Int} (d : PartOk n U) {p e : Int} (h : at? U p = some e) : 0 ≤ e ∧ e < 2 * n := by
  unfold at? at h
  split at h
  · exact d.rng e (List.mem_of_getElem? h)
  · cases h
section
variable {P : Program} {w : World} {K : PySem.W.Frag} {mg : Str → Option Value} {ex : PySem.W.Frag → Bool} {base : Heap}
def spLId : Sp := fun vs H Q _ => ∃ n : Nat, vs = [.int (n : Nat)] ∧ n ≤ 16 ∧ ∀ t H', Same H H' → H' t = some (.tup ((idL n).map V.int)) → Q (.ref t) H'
theorem ok_lid (T : Top K mg ex) : FnOk P w K mg base CX0 1 (He.fAd K a_law_identity) (fdOf K a_law_identity) ["_law_width"] spLId := by
  refine fok T.f_law_identity sc_law_identity (fun vs H Q E h => ?_) (fun cdv A outer s H vs Q E hr h => ?_)
  · obtain ⟨_, rfl, _⟩ := h
    rfl
  · obtain ⟨n, rfl, hn, k⟩ := h
    refine ⟨_, pss_one (ps_ret (pe_callTy call_tuple_of (by rfl) T.z_tuple boot_tuple (pa_cons (pe_op op_cat (pe_listRg rfl (by rfl) T.z_list (prg_2 (by rfl) T.z_range (pv 0) (pe_op op_mul pe_int (pv 0)))) (pe_listRg rfl (by rfl) T.z_list (prg_1 (by rfl) T.z_range (pv 0)))) pa_nil))), ?_⟩
    refine ⟨_, rfl, _, rfl, _, _, rfl, rfl, .inl ⟨by decide, by decide⟩, _, _, rfl, rfl, RgOk.of_le (by omega) (by omega) (by omega) (by omega), fun q hq => ?_⟩
    refine ⟨_, rfl, _, rfl, RgOk.of_le (by omega) (by omega) (by omega) (by omega), fun q2 hq2 => ?_⟩
    have ne : q ≠ q2 := ne_of_none upd_same hq2
    refine ⟨q, q2, _, _, rfl, rfl, (by rw [upd_ne ne]; exact upd_same), upd_same, ?_, fun q3 hq3 => ?_⟩
    · rw [rgV_length, rgV_length]
      exact line_of (by omega)
    · have s3 := same_new (same_new (same_new (Same.refl H) hq) hq2) hq3 (o := .lst (rgV (n : Nat) (2 * (n : Nat)) ++ rgV 0 (n : Nat)))
      refine ⟨q3, _, rfl, .inl ⟨.of upd_same, fun t ht => ?_⟩⟩
      refine k t _ (same_new s3 ht) ?_
      rw [upd_same]
      unfold rgV idL
      rw [List.map_append, List.map_map, List.map_map]
      have e1 : (2 * (n : Int) - (n : Int)).toNat = n := by omega
      have e2 : ((n : Int) - 0).toNat = n := by omega
      rw [e1, e2]
      congr 3
      refine List.map_congr_left fun i _ => ?_
      show V.int (0 + (i : Nat)) = V.int (i : Int)
      rw [Int.zero_add]
def TupAt (H : Hp) (a : Addr) (n : Nat) (U : List Int) : Prop := H a = some (.tup (U.map V.int)) ∧ PartOk n U
theorem TupAt.same {H H' : Hp} {a : Addr} {n : Nat} {U : List Int} (s : Same H H') (h : TupAt H a n U) : TupAt H' a n U := ⟨s _ _ h.1, h.2⟩
def spLPath : Sp := fun vs H Q _ => ∃ (u l : Addr) (n : Nat) (U L : List Int) (p : Int) (b : Bool) (r : Option Int × List Int), vs = [.ref u, .ref l, .int p, .bl b] ∧ TupAt H u n U ∧ TupAt H l n L ∧ pathM (2 * n + 2) n U L p b [] = some r ∧
  ∀ t q H', Same H H' → H q = none → H' q = some (.lst (r.2.map V.int)) → H' t = some (.tup [optV r.1, .ref q]) → Q (.ref t) H'
theorem ok_lpath (T : Top K mg ex) : FnOk P w K mg base CX0 1 (He.fAd K a_law_path) (fdOf K a_law_path) ["_law_upper", "_law_lower", "_law_start", "_law_is_upper"] spLPath := by
  refine fok T.f_law_path sc_law_path (fun vs H Q E h => ?_) (fun cdv A outer s H vs Q E hr h => ?_)
  · obtain ⟨_, _, _, _, _, _, _, _, rfl, _⟩ := h
    rfl
  · obtain ⟨u, l, n, U, L, p0, b0, r, rfl, dU, dL, hm, k⟩ := h
    have n1 := dU.2.n1
    have n16 := dU.2.n16
    refine ⟨_, pss_cons (ps_par3 (i := 4) (j := 5) (l := 6) rfl sc_law_path.nd rfl rfl rfl (by decide) (by decide) (by decide) rfl rfl rfl (pa_cons (pe_op op_fdiv (pe_callB call_len_seq (by rfl) T.z_len PySem.boot_len (pa_cons (pv 0) pa_nil)) pe_int) (pa_cons (pv 2) (pa_cons (pe_lst pa_nil) pa_nil))) (by rfl)) <|
      pss_cons (ps_for PassesOwn.never rfl (pi_range1 (by rfl) T.z_range (pa_cons (pe_op op_add (pe_op op_mul pe_int (pv 4)) pe_int) pa_nil)) (pg_name (i := 7) sc_law_path.nd rfl (Or.inl rfl))
        (pss_cons (ps_set (i := 8) sc_law_path.nd rfl (Or.inl rfl) (pe_ifExp (pt_val (pv 3)) (pe_ix ix_tup (pv 0) (pv 5) (fun _ _ => rfl)) (pe_ix ix_tup (pv 1) (pv 5) (fun _ _ => rfl)))) <|
        pss_cons (ps_if (pt_cmpR op_eq (pe_cmpR op_lt (pv 8) (pv 4) (nomark _)) (pv 3) (nomark _)) (pss_one (ps_ret (pe_tup (pa_cons (pv 8) (pa_cons (pv 6) pa_nil))))) pss_nil) <|
        pss_cons (ps_set (i := 9) sc_law_path.nd rfl (Or.inl rfl) (pe_op op_mod (pv 8) (pv 4))) <|
        pss_cons (ps_if (pt_cmpR op_in_seq (pv 9) (pv 6) (by rfl)) (pss_one (ps_ret (pe_tup (pa_cons pe_non (pa_cons (pv 6) pa_nil))))) pss_nil) <|
        pss_cons (ps_expr (pe_bm PySem.F.plainAttrs_list PySem.F.slot_list_append PySem.F.type_list_append mt_append (pv 6) (pa_cons (pv 9) pa_nil))) <|
        pss_cons (ps_set (i := 3) sc_law_path.nd rfl (Or.inl rfl) (pe_not (pv 3))) <|
        pss_one (ps_set (i := 5) sc_law_path.nd rfl (Or.inl rfl) (pe_ifExp (pt_val (pv 3)) (pe_op op_add (pv 9) (pv 4)) (pv 9))))) <|
      pss_one (ps_ret (pe_tup (pa_cons pe_non (pa_cons (pv 6) pa_nil)))), ?_⟩
    have lenU : (((U.map V.int).length : Nat) : Int) / 2 = (n : Int) := by rw [List.length_map, dU.2.len]; omega
    refine ⟨_, rfl, u, _, rfl, .inr (.of dU.1), _, _, rfl, rfl, ⟨by decide, by decide⟩, _, rfl, Nat.zero_le _, fun q hq => ⟨_, _, _, rfl, ?_⟩⟩
    show tSeq _ _ _ [some (.ref u), some (.ref l), some (.int p0), some (.bl b0), some (.int ((((U.map V.int).length : Nat) : Int) / 2)), some (.int p0), some (.ref q), none, none, none] _
    rw [lenU]
    refine ⟨_, rfl, _, _, rfl, rfl, .inl ⟨by decide, by decide⟩, _, _, rfl, rfl, _, rfl, by omega, by omega, ?_⟩
    have en : (2 * ((n : Nat) : Int) + 2).toNat = 2 * n + 2 := by omega
    refine for_range (lo := 0) (n := (2 * ((n : Nat) : Int) + 2).toNat) (fun i σ H2 => ∃ (p : Int) (b : Bool) (passed : List Int) (v7 v8 v9 : Option V), σ = [some (.ref u), some (.ref l), some (.int p0), some (.bl b), some (.int (n : Nat)), some (.int p), some (.ref q), v7, v8, v9] ∧ Same H H2 ∧ H2 q = some (.lst (passed.map V.int)) ∧
      pathM (2 * n + 2 - i) n U L p b passed = some r ∧ passed.length ≤ i)
      ⟨p0, b0, [], none, none, none, rfl, same_new (Same.refl _) hq, upd_same, hm, Nat.le_refl _⟩ ?_ ?_
    · rintro i σ H2 hi ⟨p, b, passed, v7, v8, v9, rfl, s2, hq2, hpm, hle⟩
      rw [en] at hi
      obtain ⟨m, em⟩ : ∃ m, 2 * n + 2 - i = m + 1 := ⟨2 * n + 1 - i, by omega⟩
      have em2 : 2 * n + 2 - (i + 1) = m := by omega
      rw [em] at hpm
      rw [em2]
      unfold pathM at hpm
      have dU2 := dU.same s2
      have dL2 := dL.same s2
      cases he : at? (if b then U else L) p with
      | none => rw [he] at hpm; cases hpm
      | some e =>
        rw [he] at hpm
        simp only at hpm
        have ret : ∀ (o : Option Int), some (o, passed) = some r → ∀ t, H2 t = none → Q (.ref t) (upd H2 t (.tup [optV o, .ref q])) := fun o e t ht => by
          cases e
          exact k t q _ (same_new s2 ht) hq (by rw [upd_ne (ne_of_none hq2 ht)]; exact hq2) upd_same
        refine ⟨_, rfl, _, rfl, ?_⟩
        cases b with
        | false =>
          obtain ⟨e0, e1⟩ := at_rng dL.2 he
          refine iteF ⟨_, rfl, _, rfl, l, _, _, _, rfl, rfl, .of dL2.1, at_ix he, ?_⟩
          refine ⟨_, rfl, _, rfl, _, _, rfl, rfl, _, rfl, rfl, _, rfl, ?_⟩
          show ite (decide (V.bl (decide (e < (n : Int))) = V.bl false) = true) _ _
          rw [dec_bl]
          cases hc : (decide (e < (n : Int)) == false) with
          | true =>
            rw [hc, if_pos rfl] at hpm
            refine iteT ⟨_, rfl, _, rfl, (by show 2 ≤ sizeLine; decide), fun t ht => ret (some e) hpm t ht⟩
          | false =>
            rw [hc, if_neg Bool.false_ne_true] at hpm
            have elt : e < n := by simpa using hc
            have eM : e % ((n : Nat) : Int) = e := Int.emod_eq_of_lt e0 elt
            refine iteF ⟨_, rfl, _, rfl, _, _, rfl, rfl, (show (0 : Int) < (n : Nat) by omega), ?_⟩
            refine ⟨_, rfl, _, rfl, q, _, rfl, .inl (.of hq2), rfl, flat_ints _, _, rfl, ?_⟩
            show ite (inV (.int (e % ((n : Nat) : Int))) (passed.map V.int) = true) _ _
            rw [eM, inV_ints]
            have hpm' : (if passed.contains (e) = true then some (none, passed) else pathM m n U L (e + (n : Int)) true (passed ++ [e])) = some r := hpm
            cases hk : passed.contains (e) with
            | true =>
              rw [hk, if_pos rfl] at hpm'
              exact iteT ⟨_, rfl, (by show 2 ≤ sizeLine; decide), fun t ht => ret none hpm' t ht⟩
            | false =>
              rw [hk, if_neg Bool.false_ne_true] at hpm'
              refine iteF ⟨_, rfl, .inl ⟨rfl, _, .of hq2⟩, _, rfl, q, _, _, rfl, rfl, hq2, line_lt (by rw [List.length_map]; omega), ?_⟩
              refine ⟨_, rfl, _, rfl, ?_⟩
              refine ⟨_, rfl, _, rfl, iteT ?_⟩
              refine ⟨_, rfl, _, rfl, _, _, rfl, rfl, ?_⟩
              refine ⟨e + (n : Int), true, passed ++ [e], some (.int (0 + (i : Nat))), some (.int e), some (.int (e % ((n : Nat) : Int))), ?_, fun b o e => ?_, by rw [upd_same, List.map_append]; show some (HO.lst (_ ++ [V.int (e % ((n : Nat) : Int))])) = _; rw [eM]; rfl, hpm', by rw [List.length_append, List.length_singleton]; omega⟩
              · show ([some (V.ref u), some (.ref l), some (.int p0), some (.bl true), some (.int (n : Nat)), some (.int (e % ((n : Nat) : Int) + (n : Nat))), some (.ref q), some (.int (0 + (i : Nat))), some (.int e), some (.int (e % ((n : Nat) : Int)))] : L2.St) = _
                rw [eM]
              · rw [upd_ne (ne_of_none e hq)]
                exact s2 b o e
        | true =>
          obtain ⟨e0, e1⟩ := at_rng dU.2 he
          refine iteT ⟨_, rfl, _, rfl, u, _, _, _, rfl, rfl, .of dU2.1, at_ix he, ?_⟩
          refine ⟨_, rfl, _, rfl, _, _, rfl, rfl, _, rfl, rfl, _, rfl, ?_⟩
          show ite (decide (V.bl (decide (e < (n : Int))) = V.bl true) = true) _ _
          rw [dec_bl]
          cases hc : (decide (e < (n : Int)) == true) with
          | true =>
            rw [hc, if_pos rfl] at hpm
            refine iteT ⟨_, rfl, _, rfl, (by show 2 ≤ sizeLine; decide), fun t ht => ret (some e) hpm t ht⟩
          | false =>
            rw [hc, if_neg Bool.false_ne_true] at hpm
            have elt : ¬ e < n := by simpa using hc
            have eM : e % ((n : Nat) : Int) = e - n := by
              rw [← Int.sub_emod_right, Int.emod_eq_of_lt (by omega) (by omega)]
            refine iteF ⟨_, rfl, _, rfl, _, _, rfl, rfl, (show (0 : Int) < (n : Nat) by omega), ?_⟩
            refine ⟨_, rfl, _, rfl, q, _, rfl, .inl (.of hq2), rfl, flat_ints _, _, rfl, ?_⟩
            show ite (inV (.int (e % ((n : Nat) : Int))) (passed.map V.int) = true) _ _
            rw [eM, inV_ints]
            have hpm' : (if passed.contains (e - (n : Int)) = true then some (none, passed) else pathM m n U L (e - (n : Int)) false (passed ++ [e - (n : Int)])) = some r := hpm
            cases hk : passed.contains (e - (n : Int)) with
            | true =>
              rw [hk, if_pos rfl] at hpm'
              exact iteT ⟨_, rfl, (by show 2 ≤ sizeLine; decide), fun t ht => ret none hpm' t ht⟩
            | false =>
              rw [hk, if_neg Bool.false_ne_true] at hpm'
              refine iteF ⟨_, rfl, .inl ⟨rfl, _, .of hq2⟩, _, rfl, q, _, _, rfl, rfl, hq2, line_lt (by rw [List.length_map]; omega), ?_⟩
              refine ⟨_, rfl, _, rfl, ?_⟩
              refine ⟨_, rfl, _, rfl, iteF ?_⟩
              refine ⟨_, rfl, ?_⟩
              refine ⟨e - (n : Int), false, passed ++ [e - (n : Int)], some (.int (0 + (i : Nat))), some (.int e), some (.int (e % ((n : Nat) : Int))), ?_, fun b o e => ?_, by rw [upd_same, List.map_append]; show some (HO.lst (_ ++ [V.int (e % ((n : Nat) : Int))])) = _; rw [eM]; rfl, hpm', by rw [List.length_append, List.length_singleton]; omega⟩
              · show ([some (V.ref u), some (.ref l), some (.int p0), some (.bl false), some (.int (n : Nat)), some (.int (e % ((n : Nat) : Int))), some (.ref q), some (.int (0 + (i : Nat))), some (.int e), some (.int (e % ((n : Nat) : Int)))] : L2.St) = _
                rw [eM]
              · rw [upd_ne (ne_of_none e hq)]
                exact s2 b o e
    · rintro σ H2 ⟨p, b, passed, v7, v8, v9, rfl, s2, hq2, hpm, hle⟩
      rw [en, Nat.sub_self] at hpm
      cases hpm
end
end K54
namespace K54
open PySem PySem.Spec PyProof.Rows L2
section
variable {P : Program} {w : World} {K : PySem.W.Frag} {mg : Str → Option Value} {ex : PySem.W.Frag → Bool} {base : Heap}
def spLStack : Sp := fun vs H Q _ => ∃ (u l : Addr) (n : Nat) (U L R : List Int) (k : Nat), vs = [.ref u, .ref l] ∧ TupAt H u n U ∧ TupAt H l n L ∧ lawStackM n U L = some (R, k) ∧
  ∀ t a H', Same H H' → H' a = some (.tup (R.map V.int)) → H' t = some (.tup [.ref a, .int (k : Nat)]) → Q (.ref t) H'
theorem ok_lstack (T : Top K mg ex) : FnOk P w K mg base CX0 2 (He.fAd K a_law_stack) (fdOf K a_law_stack) ["_law_upper", "_law_lower"] spLStack := by
  refine fok T.f_law_stack sc_law_stack (fun vs H Q E h => ?_) (fun cdv A outer s H vs Q E hr h => ?_)
  · obtain ⟨_, _, _, _, _, _, _, rfl, _⟩ := h
    rfl
  · obtain ⟨u, l, n, U, L, R, kl, rfl, dU, dL, hm, k⟩ := h
    have n16 := dU.2.n16
    unfold lawStackM at hm
    cases ha : foldO (lst1 n U L) (List.range (2 * n)) ([], []) with
    | none => rw [ha] at hm; cases hm
    | some fa =>
    rw [ha] at hm
    simp only at hm
    cases hb : foldO (st2 n U L) (List.range n) (fa.2, 0) with
    | none => rw [hb] at hm; cases hm
    | some fb =>
    rw [hb] at hm
    cases hm
    refine ⟨_, pss_cons (ps_asg (pe_tup (pa_cons (pe_op op_fdiv (pe_callB call_len_seq (by rfl) T.z_len PySem.boot_len (pa_cons (pv 0) pa_nil)) pe_int) (pa_cons (pe_lst pa_nil) (pa_cons (pe_lst pa_nil) (pa_cons pe_int pa_nil)))))
        (pg_tup rfl (pgs_cons (pg_name (i := 2) sc_law_stack.nd rfl (Or.inl rfl)) (pgs_cons (pg_name (i := 3) sc_law_stack.nd rfl (Or.inl rfl)) (pgs_cons (pg_name (i := 4) sc_law_stack.nd rfl (Or.inl rfl)) (pgs_cons (pg_name (i := 5) sc_law_stack.nd rfl (Or.inl rfl)) pgs_nil)))))) <|
      pss_cons (ps_for PassesOwn.never rfl (pi_range1 (by rfl) T.z_range (pa_cons (pe_op op_mul pe_int (pv 2)) pa_nil)) (pg_name (i := 6) sc_law_stack.nd rfl (Or.inl rfl))
        (pss_cons (ps_asg (pe_call (ok_lpath T) hr (by rfl) T.g_law_path T.f_law_path.kp T.b_law_path .nil pass0 (pa_cons (pv 0) (pa_cons (pv 1) (pa_cons (pv 6) (pa_cons (pe_cmpR op_lt (pv 6) (pv 2) (nomark _)) pa_nil)))))
            (pg_tup rfl (pgs_cons (pg_name (i := 7) sc_law_stack.nd rfl (Or.inl rfl)) (pgs_cons (pg_name (i := 8) sc_law_stack.nd rfl (Or.inl rfl)) pgs_nil)))) <|
        pss_cons (ps_expr (pe_bm PySem.F.plainAttrs_list PySem.F.slot_list_append PySem.F.type_list_append mt_append (pv 3) (pa_cons (pv 7) pa_nil))) <|
        pss_one (ps_set (i := 4) sc_law_stack.nd rfl (Or.inl rfl) (pe_op op_cat (pv 4) (pv 8))))) <|
      pss_cons (ps_for PassesOwn.never rfl (pi_range1 (by rfl) T.z_range (pa_cons (pv 2) pa_nil)) (pg_name (i := 9) sc_law_stack.nd rfl (Or.inl rfl))
        (pss_one (ps_if (pt_cmpR op_notIn_seq (pv 9) (pv 4) (by rfl))
          (pss_cons (ps_set (i := 4) sc_law_stack.nd rfl (Or.inl rfl) (pe_op op_cat (pv 4) (pe_ix ix_tup (pe_call (ok_lpath T) hr (by rfl) T.g_law_path T.f_law_path.kp T.b_law_path .nil pass0
              (pa_cons (pv 0) (pa_cons (pv 1) (pa_cons (pv 9) (pa_cons pe_bl pa_nil))))) pe_int (fun _ _ => rfl)))) <|
          pss_one (ps_set (i := 5) sc_law_stack.nd rfl (Or.inl rfl) (pe_op op_add (pv 5) pe_int))) pss_nil))) <|
      pss_one (ps_ret (pe_tup (pa_cons (pe_callTy call_tuple_of (by rfl) T.z_tuple boot_tuple (pa_cons (pv 3) pa_nil)) (pa_cons (pv 5) pa_nil)))), ?_⟩
    have lenU : (((U.map V.int).length : Nat) : Int) / 2 = (n : Int) := by rw [List.length_map, dU.2.len]; omega
    refine ⟨_, rfl, u, _, rfl, .inr (.of dU.1), _, _, rfl, rfl, ⟨by decide, by decide⟩, Nat.zero_le _, fun pR hR => ⟨Nat.zero_le _, fun pS hS => ⟨(by show 4 ≤ sizeLine; decide), fun tt htt => ?_⟩⟩⟩
    refine ⟨tt, _, rfl, .of upd_same, rfl, _, _, rfl, _, _, rfl, _, _, rfl, _, _, rfl, rfl, ?_⟩
    show tSeq _ _ _ [some (.ref u), some (.ref l), some (.int ((((U.map V.int).length : Nat) : Int) / 2)), some (.ref pR), some (.ref pS), some (.int 0), none, none, none, none] _
    have nRS : pR ≠ pS := ne_of_none upd_same hS
    have fR : H pR = none := hR
    have fS : H pS = none := Same.free (same_new (Same.refl _) hR) hS
    have e1 : upd (upd H pR (.lst [])) pS (.lst []) pR = some (.lst []) := by rw [upd_ne nRS]; exact upd_same
    have s0 : Same H (upd (upd (upd H pR (.lst [])) pS (.lst [])) tt (.tup [.int ((((U.map V.int).length : Nat) : Int) / 2), .ref pR, .ref pS, .int 0])) := same_new (same_new (same_new (Same.refl _) hR) hS) htt
    have hR0 : upd (upd (upd H pR (.lst [])) pS (.lst [])) tt (.tup [.int ((((U.map V.int).length : Nat) : Int) / 2), .ref pR, .ref pS, .int 0]) pR = some (.lst []) := same_new (Same.refl _) htt _ _ e1
    have hS0 : upd (upd (upd H pR (.lst [])) pS (.lst [])) tt (.tup [.int ((((U.map V.int).length : Nat) : Int) / 2), .ref pR, .ref pS, .int 0]) pS = some (.lst []) := same_new (Same.refl _) htt _ _ upd_same
    generalize upd (upd (upd H pR (.lst [])) pS (.lst [])) tt (.tup [.int ((((U.map V.int).length : Nat) : Int) / 2), .ref pR, .ref pS, .int 0]) = H0 at s0 hR0 hS0 ⊢
    rw [lenU]
    refine ⟨_, rfl, _, _, rfl, rfl, .inl ⟨by omega, by omega⟩, _, rfl, by omega, by omega, ?_⟩
    have en : (2 * (n : Int)).toNat = 2 * n := by omega
    refine for_range (lo := 0) (n := (2 * ((n : Nat) : Int)).toNat) (fun i σ H2 => ∃ (cur : List Int × List Int) (sq : Addr) (v6 v7 v8 : Option V), σ = [some (.ref u), some (.ref l), some (.int (n : Nat)), some (.ref pR), some (.ref sq), some (.int 0), v6, v7, v8, none] ∧ Same H H2 ∧
      H2 pR = some (.lst (cur.1.map V.int)) ∧ H2 sq = some (.lst (cur.2.map V.int)) ∧ sq ≠ pR ∧ cur.1.length ≤ i ∧ cur.2.length ≤ 40 * i ∧ foldO (lst1 n U L) ((List.range (2 * n)).drop i) cur = some fa)
      ⟨([], []), pS, none, none, none, rfl, s0, hR0, hS0, nRS.symm, Nat.le_refl _, Nat.le_refl _, ha⟩ ?_ ?_
    · rintro i σ H2 hi ⟨cur, sq, v6, v7, v8, rfl, s2, hp, hq, nq, l1, l2, hfo⟩
      rw [en] at hi
      rw [range_drop hi] at hfo
      unfold foldO at hfo
      cases h1 : lst1 n U L cur i with
      | none => rw [h1] at hfo; cases hfo
      | some nxt =>
      rw [h1] at hfo
      simp only at hfo
      unfold lst1 at h1
      split at h1
      case h_2 => cases h1
      rename_i e ps hpm
      cases h1
      have lps : ps.length ≤ 40 := by
        have q : ps.length ≤ 0 + (2 * n + 2) := path_le _ _ _ _ _ _ _ _ hpm
        omega
      have ei : (0 : Int) + (i : Nat) = (i : Int) := Int.zero_add _
      refine ⟨_, rfl, _, rfl, _, rfl, _, rfl, _, rfl, _, _, rfl, rfl, u, l, n, U, L, (i : Int), decide ((i : Int) < (n : Int)), (some e, ps), ?_, dU.same s2, dL.same s2, hpm, fun t q H3 s3 hq3 hq4 ht => ?_⟩
      · show [V.ref u, .ref l, .int (0 + (i : Nat)), .bl (decide ((0 + (i : Nat) : Int) < (n : Int)))] = _
        rw [ei]
      have hp3 := s3 _ _ hp
      refine ⟨t, _, rfl, .of ht, rfl, _, _, rfl, _, _, rfl, rfl, ?_⟩
      refine ⟨_, rfl, .inl ⟨rfl, _, .of hp3⟩, _, rfl, pR, _, _, rfl, rfl, hp3, line_lt (by rw [List.length_map]; omega), ?_⟩
      have eR : cur.1.map V.int ++ [optV (some e)] = (cur.1 ++ [e]).map V.int := by rw [List.map_append]; rfl
      have nqR : q ≠ pR := (ne_of_none hp hq3).symm
      have hs4 : upd H3 pR (.lst (cur.1.map V.int ++ [optV (some e)])) sq = some (.lst (cur.2.map V.int)) := by rw [upd_ne nq]; exact s3 _ _ hq
      have hq5 : upd H3 pR (.lst (cur.1.map V.int ++ [optV (some e)])) q = some (.lst (ps.map V.int)) := by rw [upd_ne nqR]; exact hq4
      refine ⟨_, rfl, _, rfl, sq, q, _, _, rfl, rfl, hs4, hq5, line_of (by rw [List.length_map, List.length_map]; omega), fun z hz => ?_⟩
      have hzR : pR ≠ z := ne_of_none upd_same hz
      have hz3 : H3 z = none := by
        rw [upd_ne hzR.symm] at hz
        exact hz
      refine ⟨(cur.1 ++ [e], cur.2 ++ ps), z, _, _, _, rfl, fun b o w => ?_, ?_, ?_, hzR.symm, ?_, ?_, hfo⟩
      · have w3 := s3 _ _ (s2 _ _ w)
        rw [upd_ne (ne_of_none w3 hz3), upd_ne (ne_of_none w fR)]
        exact w3
      · rw [upd_ne hzR, upd_same, eR]
      · rw [upd_same, List.map_append]
      · show (cur.1 ++ [e]).length ≤ _
        rw [List.length_append, List.length_singleton]; omega
      · show (cur.2 ++ ps).length ≤ _
        rw [List.length_append]; omega
    rintro σ H2 ⟨cur, sq, v6, v7, v8, rfl, s2, hp, hq, nq, l1, l2, hfo⟩
    have ecur : cur = fa := by
      rw [en] at hfo
      have e : (List.range (2 * n)).drop (2 * n) = [] := List.drop_eq_nil_of_le (by simp)
      rw [e] at hfo
      exact Option.some.inj hfo
    subst ecur
    refine ⟨_, rfl, _, rfl, by omega, by omega, ?_⟩
    have en2 : ((n : Nat) : Int).toNat = n := Int.toNat_natCast n
    refine for_range (lo := 0) (n := ((n : Nat) : Int).toNat) (fun i σ H3 => ∃ (c2 : List Int × Nat) (sq : Addr) (v9 : Option V), σ = [some (.ref u), some (.ref l), some (.int (n : Nat)), some (.ref pR), some (.ref sq), some (.int (c2.2 : Nat)), v6, v7, v8, v9] ∧ Same H H3 ∧
      H3 pR = some (.lst (cur.1.map V.int)) ∧ H3 sq = some (.lst (c2.1.map V.int)) ∧ c2.1.length ≤ 2000 + 40 * i ∧ foldO (st2 n U L) ((List.range n).drop i) c2 = some fb)
      ⟨(cur.2, 0), sq, none, rfl, s2, hp, hq, by simp only; omega, hb⟩ ?_ ?_
    · rintro i σ H3 hi ⟨c2, sq, v9, rfl, s3, hp3, hq3, l3, hfo3⟩
      rw [en2] at hi
      rw [range_drop hi] at hfo3
      unfold foldO at hfo3
      cases h3 : st2 n U L c2 i with
      | none => rw [h3] at hfo3; cases hfo3
      | some nxt =>
      rw [h3] at hfo3
      simp only at hfo3
      unfold st2 at h3
      have ei : (0 : Int) + (i : Nat) = (i : Int) := Int.zero_add _
      refine ⟨_, rfl, _, rfl, sq, _, rfl, .inl (.of hq3), rfl, flat_ints _, _, rfl, ?_⟩
      show ite ((!inV (.int (0 + (i : Nat))) (c2.1.map V.int)) = true) _ _
      rw [ei, inV_ints]
      cases hk : c2.1.contains (i : Int) with
      | true =>
        rw [hk, if_pos rfl] at h3
        cases h3
        exact iteF ⟨c2, sq, _, rfl, s3, hp3, hq3, by omega, hfo3⟩
      | false =>
        rw [hk, if_neg Bool.false_ne_true] at h3
        cases hpm : pathM (2 * n + 2) n U L (i : Int) false [] with
        | none => rw [hpm] at h3; cases h3
        | some r =>
        rw [hpm] at h3
        cases h3
        have lps : r.2.length ≤ 40 := by
          have q : r.2.length ≤ 0 + (2 * n + 2) := path_le _ _ _ _ _ _ _ _ hpm
          omega
        refine iteT ⟨_, rfl, _, rfl, _, rfl, _, rfl, u, l, n, U, L, (i : Int), false, r, rfl, dU.same s3, dL.same s3, hpm, fun t q H4 s4 hq4 hq5 ht => ?_⟩
        refine ⟨t, _, 1, _, rfl, rfl, .of ht, rfl, ?_⟩
        refine ⟨sq, q, _, _, rfl, rfl, s4 _ _ hq3, hq5, line_of (by rw [List.length_map, List.length_map]; omega), fun z hz => ?_⟩
        refine ⟨_, rfl, _, _, rfl, rfl, ?_⟩
        refine ⟨(c2.1 ++ r.2, c2.2 + 1), z, _, rfl, same_new (s3.trans s4) hz, same_new s4 hz _ _ hp3, ?_, ?_, hfo3⟩
        · rw [upd_same, List.map_append]
        · show (c2.1 ++ r.2).length ≤ _
          rw [List.length_append]
          omega
    · rintro σ H3 ⟨c2, sq, v9, rfl, s3, hp3, hq3, l3, hfo3⟩
      have ec2 : c2 = fb := by
        rw [en2] at hfo3
        have e : (List.range n).drop n = [] := List.drop_eq_nil_of_le (by simp)
        rw [e] at hfo3
        exact Option.some.inj hfo3
      subst ec2
      refine ⟨_, rfl, pR, _, rfl, .inl ⟨.of hp3, fun t ht => ?_⟩⟩
      refine ⟨_, rfl, (by show 2 ≤ sizeLine; decide), fun t2 ht2 => ?_⟩
      exact k t2 t _ (same_new (same_new s3 ht) ht2) (same_new (Same.refl _) ht2 _ _ upd_same) upd_same
end
end K54
namespace K54
open PySem PySem.Spec PyProof.Rows L2
theorem chk_step {n : Nat} {D G : List (List Int)} (h : chk n D G = true) (hG : chkG n G = true) {x : Int} (x0 : 0 ≤ x) (x1 : x + 2 ≤ (n : Int)) {U : List Int} (hU : U ∈ D) :
    ∃ r, lawStackM n U (genLM n x.toNat) = some r ∧ r.1 ∈ D ∧ okP n (genLM n x.toNat) = true ∧ okP n r.1 = true := by
  unfold chk at h
  unfold chkG at hG
  simp only [Bool.and_eq_true, beq_iff_eq, List.all_eq_true] at h hG
  obtain ⟨_, _, _, hg1, hg, hs⟩ := h
  have hxn : x.toNat < n - 1 := by omega
  have m1 : genU n x ∈ G := by
    rw [← hg1]
    exact List.mem_map.mpr ⟨x.toNat, List.mem_range.mpr hxn, rfl⟩
  have m2 : genLM n x.toNat = genU n x := by
    have e := hG.trans hg1.symm
    have e1 := congrArg (fun l => l[x.toNat]?) e
    simp only [List.getElem?_map, List.getElem?_range hxn, Option.map_some] at e1
    exact Option.some.inj e1
  have c := (hs U hU).2 _ m1
  unfold chk1 at c
  cases c1 : stackM n U (genU n x) with
  | none => rw [c1] at c; cases c
  | some r =>
    cases c2 : lawStackM n U (genU n x) with
    | none => rw [c1, c2] at c; cases c
    | some q =>
      rw [c1, c2] at c
      simp only [Bool.and_eq_true, beq_iff_eq] at c
      obtain ⟨c3, c4, c5⟩ := c
      have hm : q.1 ∈ D := by rw [← c4]; simpa using c3
      rw [m2]
      exact ⟨q, c2, hm, hg _ m1, (hs _ hm).1⟩
section
variable {P : Program} {w : World} {K : PySem.W.Frag} {mg : Str → Option Value} {ex : PySem.W.Frag → Bool} {base : Heap}
def spLGen : Sp := fun vs H Q _ => ∃ n l : Nat, vs = [.int (n : Nat), .int (l : Nat)] ∧ l + 2 ≤ n ∧ n ≤ 16 ∧ ∀ t H', Same H H' → H' t = some (.tup ((genLM n l).map V.int)) → Q (.ref t) H'
theorem ok_lgen (T : Top K mg ex) : FnOk P w K mg base CX0 2 (He.fAd K a_law_generator) (fdOf K a_law_generator) ["_law_width", "_law_letter"] spLGen := by
  refine fok T.f_law_generator sc_law_generator (fun vs H Q E h => ?_) (fun cdv A outer s H vs Q E hr h => ?_)
  · obtain ⟨_, _, rfl, _⟩ := h
    rfl
  · obtain ⟨n, l, rfl, h1, hn, k⟩ := h
    refine ⟨_, pss_cons (ps_set (i := 2) sc_law_generator.nd rfl (Or.inl rfl) (pe_callTy call_list_of (by rfl) T.z_list boot_list (pa_cons (pe_call (ok_lid T) hr (by rfl) T.g_law_identity T.f_law_identity.kp T.b_law_identity .nil pass0 (pa_cons (pv 0) pa_nil)) pa_nil))) <|
      pss_cons (ps_for PassesOwn.never rfl (pi_list (pe_lst (pa_cons (pv 1) (pa_cons (pe_op op_add (pv 0) (pv 1)) pa_nil)))) (pg_name (i := 3) sc_law_generator.nd rfl (Or.inl rfl))
        (pss_one (ps_asg (pe_tup (pa_cons (pe_op op_add (pv 3) pe_int) (pa_cons (pv 3) pa_nil))) (pg_tup rfl (pgs_cons (pg_sub (pv 2) (pv 3) set_list) (pgs_cons (pg_sub (pv 2) (pe_op op_add (pv 3) pe_int) set_list) pgs_nil)))))) <|
      pss_one (ps_ret (pe_callTy call_tuple_of (by rfl) T.z_tuple boot_tuple (pa_cons (pv 2) pa_nil))), ?_⟩
    refine ⟨_, rfl, n, rfl, hn, fun t0 H0 s0 h0 => ?_⟩
    refine ⟨t0, _, rfl, .inr (.of h0), fun q hq => ?_⟩
    have fq : H q = none := Same.free s0 hq
    have s1 := same_new s0 hq (o := .lst ((idL n).map V.int))
    have q1 : upd H0 q (.lst ((idL n).map V.int)) q = some (.lst ((idL n).map V.int)) := upd_same
    generalize upd H0 q (.lst ((idL n).map V.int)) = H1 at s1 q1 ⊢
    refine ⟨_, rfl, _, rfl, _, rfl, _, _, rfl, rfl, (by show 2 ≤ sizeLine; decide), fun z hz => ?_⟩
    have nzq : q ≠ z := ne_of_none q1 hz
    have fz : H z = none := Same.free s1 hz
    have lenI := idL_len n
    refine ⟨z, rfl, ⟨_, .of upd_same⟩, for_list (K := K) (a := z) (xs := [.int (l : Nat), .int ((n : Nat) + (l : Nat))]) (fun i σ H2 => ∃ v3, σ = [some (.int (n : Nat)), some (.int (l : Nat)), some (.ref q), v3] ∧ Same H H2 ∧ H2 z = some (.lst [.int (l : Nat), .int ((n : Nat) + (l : Nat))]) ∧
      H2 q = some (.lst (((match i with | 0 => idL n | 1 => ((idL n).set l ((l : Int) + 1)).set (l + 1) (l : Int) | _ => genLM n l)).map V.int)))
      ⟨none, rfl, same_new s1 hz, upd_same, by rw [upd_ne nzq]; exact q1⟩ (fun i σ H2 _ ⟨_, _, _, e, _⟩ => .of e) ?_ ?_⟩
    · rintro i y σ H2 hi ⟨v3, rfl, s2, hz2, hq2⟩
      obtain ⟨p, X, lenX, hp, hy, hX, hnext⟩ : ∃ (p : Nat) (X : List Int), X.length = 2 * n ∧ p + 1 < 2 * n ∧ y = .int (p : Nat) ∧ H2 q = some (.lst (X.map V.int)) ∧ (match i + 1 with | 0 => idL n | 1 => ((idL n).set l ((l : Int) + 1)).set (l + 1) (l : Int) | _ => genLM n l) = (X.set p ((p : Int) + 1)).set (p + 1) (p : Int) := by
        match i, hi, hq2 with
        | 0, hi, hq2 => exact ⟨l, idL n, lenI, by omega, (Option.some.inj hi).symm, hq2, rfl⟩
        | 1, hi, hq2 => exact ⟨n + l, ((idL n).set l ((l : Int) + 1)).set (l + 1) (l : Int), by rw [List.length_set, List.length_set, lenI], by omega, by rw [← Option.some.inj hi]; rfl, hq2, by
            show genLM n l = _
            unfold genLM
            rw [show ((n + l : Nat) : Int) = (n : Int) + l from by omega]⟩
        | (j + 2), hi, _ => simp at hi
      subst hy
      have lX : (X.map V.int).length = 2 * n := by rw [List.length_map, lenX]
      refine ⟨_, rfl, _, _, rfl, rfl, _, rfl, (by show 2 ≤ sizeLine; decide), fun t2 ht2 => ?_⟩
      have nqt : q ≠ t2 := ne_of_none hX ht2
      have nzt : z ≠ t2 := ne_of_none hz2 ht2
      refine ⟨t2, _, rfl, .of upd_same, rfl, _, _, rfl, _, rfl, _, rfl, q, _, _, _, rfl, rfl, by rw [upd_ne nqt]; exact hX, ixN_ok (by omega) (by rw [lX]; omega), ?_⟩
      refine ⟨_, _, rfl, _, rfl, _, rfl, _, _, rfl, rfl, q, _, _, _, rfl, rfl, upd_same, ixN_ok (by omega) (by rw [List.length_set, lX]; omega), rfl, ?_⟩
      refine ⟨_, rfl, fun b o w => ?_, ?_, ?_⟩
      · rw [upd_ne (ne_of_none w fq), upd_ne (ne_of_none w fq), upd_ne (ne_of_none (s2 _ _ w) ht2)]
        exact s2 _ _ w
      · rw [upd_ne nzq.symm, upd_ne nzq.symm, upd_ne nzt]
        exact hz2
      · rw [upd_same, hnext]
        have e1 : ((p : Nat) : Int).toNat = p := Int.toNat_natCast p
        have e2 : (((p : Nat) : Int) + 1).toNat = p + 1 := by omega
        show some (HO.lst (((X.map V.int).set ((p : Nat) : Int).toNat (.int ((p : Nat) + 1))).set (((p : Nat) : Int) + 1).toNat (.int (p : Nat)))) = _
        rw [e1, e2, List.map_set, List.map_set]
    · rintro σ H2 ⟨v3, rfl, s2, hz2, hq2⟩
      have hq3 : H2 q = some (.lst ((genLM n l).map V.int)) := hq2
      refine ⟨_, rfl, q, _, rfl, .inl ⟨.of hq3, fun t ht => k t _ (same_new s2 ht) upd_same⟩⟩
def spLVal : Sp := fun vs H Q _ => ∃ (n : Nat) (p : Addr) (ls : List Int) (R : List Int) (k : Nat), vs = [.int (n : Nat), .ref p] ∧ H p = some (.lst (ls.map V.int)) ∧ 2 ≤ n ∧ n ≤ 6 ∧ (∀ x ∈ ls, 0 ≤ x ∧ x + 2 ≤ (n : Int)) ∧ lawVal n ls = some (R, k) ∧
  ∀ t a H', Same H H' → H' a = some (.tup (R.map V.int)) → H' t = some (.tup [.ref a, .int (k : Nat)]) → Q (.ref t) H'
theorem ok_lval (T : Top K mg ex) : FnOk P w K mg base CX0 3 (He.fAd K a_law_value) (fdOf K a_law_value) ["_law_width", "_law_letters"] spLVal := by
  refine fok T.f_law_value sc_law_value (fun vs H Q E h => ?_) (fun cdv A outer s H vs Q E hr h => ?_)
  · obtain ⟨_, _, _, _, _, rfl, _⟩ := h
    rfl
  · obtain ⟨n, p, ls, R, kl, rfl, hp, n1, n2, hx, hv, k⟩ := h
    obtain ⟨D, G, hc, hG⟩ := chk_all n1 n2
    have hc0 := hc
    unfold chk at hc0
    simp only [Bool.and_eq_true, beq_iff_eq, List.all_eq_true] at hc0
    obtain ⟨hid1, hm, hid, _, _, hs⟩ := hc0
    have hidD : idL n ∈ D := by rw [← hid]; simpa using hm
    refine ⟨_, pss_cons (ps_par (i := 2) (j := 3) rfl sc_law_value.nd rfl rfl (by decide) rfl rfl (pa_cons (pe_call (ok_lid T) (hr.mono (by decide)) (by rfl) T.g_law_identity T.f_law_identity.kp T.b_law_identity .nil pass0 (pa_cons (pv 0) pa_nil)) (pa_cons pe_int pa_nil)) (by rfl)) <|
      pss_cons (ps_for PassesOwn.never rfl (pi_list (pv 1)) (pg_name (i := 4) sc_law_value.nd rfl (Or.inl rfl))
        (pss_cons (ps_asg (pe_call (ok_lstack T) hr (by rfl) T.g_law_stack T.f_law_stack.kp T.b_law_stack .nil pass0 (pa_cons (pv 2) (pa_cons (pe_call (ok_lgen T) hr (by rfl) T.g_law_generator T.f_law_generator.kp T.b_law_generator .nil pass0 (pa_cons (pv 0) (pa_cons (pv 4) pa_nil))) pa_nil)))
            (pg_tup rfl (pgs_cons (pg_name (i := 2) sc_law_value.nd rfl (Or.inl rfl)) (pgs_cons (pg_name (i := 5) sc_law_value.nd rfl (Or.inl rfl)) pgs_nil)))) <|
        pss_one (ps_set (i := 3) sc_law_value.nd rfl (Or.inl rfl) (pe_op op_add (pv 3) (pv 5))))) <|
      pss_one (ps_ret (pe_tup (pa_cons (pv 2) (pa_cons (pv 3) pa_nil)))), ?_⟩
    refine ⟨_, rfl, n, rfl, by omega, fun t0 H0 s0 h0 => ⟨_, _, rfl, ?_⟩⟩
    refine ⟨_, rfl, p, rfl, ⟨_, .of (s0 _ _ hp)⟩, for_list (K := K) (a := p) (xs := ls.map V.int) (fun i σ H4 => ∃ (v4 v5 : Option V) (a : Addr) (cur : List Int × Nat), σ = [some (.int (n : Nat)), some (.ref p), some (.ref a), some (.int (cur.2 : Nat)), v4, v5] ∧ Same H H4 ∧ H4 a = some (.tup (cur.1.map V.int)) ∧ cur.1 ∈ D ∧ foldO (lawStep n) (ls.drop i) cur = some (R, kl))
      ⟨none, none, t0, (_, 0), rfl, s0, h0, hidD, hv⟩ (fun i σ H4 _ ⟨_, _, _, _, _, s4, _⟩ => .of (s4 _ _ hp)) ?_ ?_⟩
    · rintro i y σ H4 hi ⟨v4, v5, a, cur, rfl, s4, ha, hD, hf⟩
      obtain ⟨x, hx', rfl⟩ := ints_at hi
      obtain ⟨x0, x1⟩ := hx x (List.mem_of_getElem? hx')
      have ed : ls.drop i = x :: ls.drop (i + 1) := by
        have q := (List.getElem?_eq_some_iff.mp hx').1
        rw [List.drop_eq_getElem_cons q]
        congr 1
        exact (List.getElem?_eq_some_iff.mp hx').2
      obtain ⟨r, hr1, hr2, ok1, ok2⟩ := chk_step hc hG x0 x1 hD
      rw [ed] at hf
      unfold foldO lawStep at hf
      rw [hr1] at hf
      simp only at hf
      have ex' : x = ((x.toNat : Nat) : Int) := by omega
      refine ⟨_, rfl, _, rfl, _, rfl, n, x.toNat, ?_, by omega, by omega, fun tg H5 s5 h5 => ?_⟩
      · show [V.int (n : Nat), .int x] = _
        rw [← ex']
      refine ⟨a, tg, n, cur.1, genLM n x.toNat, r.1, r.2, rfl, ⟨s5 _ _ ha, okP_ok (hs _ hD).1⟩, ⟨h5, okP_ok ok1⟩, hr1, fun t a5 H6 s6 h6 ht => ?_⟩
      refine ⟨t, _, rfl, .of ht, rfl, _, _, rfl, _, _, rfl, rfl, ?_⟩
      refine ⟨_, rfl, _, rfl, _, _, rfl, rfl, ?_⟩
      exact ⟨_, _, a5, (r.1, cur.2 + r.2), rfl, s4.trans (s5.trans s6), h6, hr2, hf⟩
    · rintro σ H4 ⟨v4, v5, a, cur, rfl, s4, ha, hD, hf⟩
      rw [List.length_map, List.drop_length] at hf
      cases hf
      refine ⟨_, rfl, _, rfl, (by show 2 ≤ sizeLine; decide), fun t ht => k t a _ (same_new s4 ht) (same_new (Same.refl _) ht _ _ ha) upd_same⟩
end
end K54
namespace K54
open PySem PySem.Spec PyProof.Rows L2
/-! ### the law's model on the heap -/
inductive Ml
  | order
  | letters
  | owners
  | shown
  deriving DecidableEq
def kn : Ml → Str
  | .order => "order"
  | .letters => "letters"
  | .owners => "owners"
  | .shown => "shown"
theorem kn_inj {x y : Ml} (h : x ≠ y) : kn x ≠ kn y := by
  cases x <;> cases y <;> first | exact absurd rfl h | decide
theorem kn_ne (x : Ml) : kn x ≠ ("width" : Str) ∧ kn x ≠ ("done" : Str) ∧ kn x ≠ ("undone" : Str) := by
  cases x <;> decide
structure MdA where
  ad : Ml → Addr
  d : Addr
  u : Addr
  mk_ : List (Key × V)
  dk : List (Key × V)
  uk : List (Key × V)
def shL (S : Ed Str) : List V := (List.range S.letters.length).map fun i => V.bl (!S.hid i)
def mct (S : Ed Str) : Ml → List V
  | .order => S.order.map nV
  | .letters => S.letters.map V.int
  | .owners => S.owners.map V.str
  | .shown => shL S
structure MdW (K : PySem.W.Frag) (H : Hp) (m : Addr) (n : Nat) (ct : Ml → List V) (df uf : Str → List Nat) (G : Addr → Prop) (c : Nat) (A : MdA) : Prop where
  hm : H m = some (.dK A.mk_)
  kn : valV A.mk_ (.inr "width") = some (.int (n : Nat))
  kv : ∀ x, valV A.mk_ (.inr (K54.kn x)) = some (.ref (A.ad x)) ∧ H (A.ad x) = some (.lst (ct x)) ∧ G (A.ad x)
  kd : valV A.mk_ (.inr "done") = some (.ref A.d)
  ku : valV A.mk_ (.inr "undone") = some (.ref A.u)
  hd : H A.d = some (.dK A.dk)
  hu : H A.u = some (.dK A.uk)
  n1 : m ≠ A.d
  n2 : m ≠ A.u
  n3 : A.d ≠ A.u
  vd : ∀ v, (∃ a, valV A.dk (.inr v) = some (.ref a) ∧ H a = some (.lst ((df v).map nV)) ∧ G a) ∨ (valV A.dk (.inr v) = none ∧ df v = [])
  vu : ∀ v, (∃ a, valV A.uk (.inr v) = some (.ref a) ∧ H a = some (.lst ((uf v).map nV)) ∧ G a) ∨ (valV A.uk (.inr v) = none ∧ uf v = [])
  gm : G m
  gd : G A.d
  gu : G A.u
  al : ∀ b, G b → ∃ o, H b = some o
  z0 : A.mk_.length ≤ c + 20
  z1 : A.dk.length ≤ c
  z2 : A.uk.length ≤ c
  z3 : ∀ x, (ct x).length ≤ c
  z5 : ∀ v, (df v).length ≤ c
  z6 : ∀ v, (uf v).length ≤ c
  zc : c ≤ 50000
def ModAt (K : PySem.W.Frag) (H : Hp) (m : Addr) (n : Nat) (S : Ed Str) (G : Addr → Prop) (c : Nat) : Prop := (∃ A, MdW K H m n (mct S) S.done S.undone G c A) ∧ S.Ok
section
variable {K : PySem.W.Frag} {H H' : Hp} {m : Addr} {n : Nat} {ct : Ml → List V} {df uf : Str → List Nat} {G : Addr → Prop} {c : Nat} {A : MdA}
theorem MdW.same (E : MdW K H m n ct df uf G c A) (s : ∀ b o, G b → H b = some o → H' b = some o) : MdW K H' m n ct df uf G c A :=
  { E with
    hm := s _ _ E.gm E.hm
    kv := fun x => let ⟨a, b, c⟩ := E.kv x; ⟨a, s _ _ c b, c⟩
    hd := s _ _ E.gd E.hd
    hu := s _ _ E.gu E.hu
    vd := fun v => (E.vd v).imp (fun ⟨a, q1, q2, q3⟩ => ⟨a, q1, s _ _ q3 q2, q3⟩) id
    vu := fun v => (E.vu v).imp (fun ⟨a, q1, q2, q3⟩ => ⟨a, q1, s _ _ q3 q2, q3⟩) id
    al := fun b h => let ⟨o, q⟩ := E.al b h; ⟨o, s _ _ h q⟩ }
theorem MdW.add (E : MdW K H m n ct df uf G c A) {z : Addr} {o : HO} (hz : H z = some o) : MdW K H m n ct df uf (addF G z) c A :=
  { E with
    kv := fun x => let ⟨a, b, c⟩ := E.kv x; ⟨a, b, .inl c⟩
    vd := fun v => (E.vd v).imp (fun ⟨a, q1, q2, q3⟩ => ⟨a, q1, q2, .inl q3⟩) id
    vu := fun v => (E.vu v).imp (fun ⟨a, q1, q2, q3⟩ => ⟨a, q1, q2, .inl q3⟩) id
    gm := .inl E.gm
    gd := .inl E.gd
    gu := .inl E.gu
    al := fun b h => h.elim (E.al b) fun q => q ▸ ⟨o, hz⟩ }
theorem lst_ne {b d : Addr} {xs : List V} {kvs : List (Key × V)} (h1 : H b = some (.lst xs)) (h2 : H d = some (.dK kvs)) : b ≠ d := fun q => by rw [q, h2] at h1; cases h1
/-- a list of the model is another one -/
theorem MdW.putM (E : MdW K H m n ct df uf G c A) (x : Ml) {z : Addr} {ys : List V} (hz : H z = some (.lst ys)) (gz : G z) (hl : ys.length ≤ c + 1) (hc : c + 1 ≤ 50000) :
    MdW K (upd H m (.dK (putK A.mk_ (.inr (K54.kn x)) (.ref z)))) m n (setAt ct x ys) df uf G (c + 1) { A with mk_ := putK A.mk_ (.inr (K54.kn x)) (.ref z), ad := setAt A.ad x z } := by
  obtain ⟨w1, w2, w3⟩ := kn_ne x
  have go : ∀ {b : Addr} {o : HO}, H b = some o → b ≠ m → upd H m (.dK (putK A.mk_ (.inr (K54.kn x)) (.ref z))) b = some o := fun q nb => by rw [upd_ne nb]; exact q
  have kk : ∀ y : Str, K54.kn x ≠ y → valV (putK A.mk_ (.inr (K54.kn x)) (.ref z)) (.inr y) = valV A.mk_ (.inr y) := fun y q => by rw [valV_put, if_neg (fun e => q (Sum.inr.inj e).symm)]
  refine { E with hm := upd_same, kn := (kk _ w1).trans E.kn, kv := fun y => ?_, kd := (kk _ w2).trans E.kd, ku := (kk _ w3).trans E.ku, hd := go E.hd E.n1.symm, hu := go E.hu E.n2.symm, vd := fun v => (E.vd v).imp (fun ⟨a, q1, q2, q3⟩ => ⟨a, q1, go q2 (lst_ne q2 E.hm), q3⟩) id, vu := fun v => (E.vu v).imp (fun ⟨a, q1, q2, q3⟩ => ⟨a, q1, go q2 (lst_ne q2 E.hm), q3⟩) id, al := fun b hb => ?_, z0 := ?_, z1 := Nat.le_succ_of_le E.z1, z2 := Nat.le_succ_of_le E.z2, z3 := fun y => ?_, z5 := fun v => Nat.le_succ_of_le (E.z5 v), z6 := fun v => Nat.le_succ_of_le (E.z6 v), zc := hc }
  · show valV (putK A.mk_ (.inr (K54.kn x)) (.ref z)) (.inr (K54.kn y)) = some (.ref (setAt A.ad x z y)) ∧ upd H m (.dK (putK A.mk_ (.inr (K54.kn x)) (.ref z))) (setAt A.ad x z y) = some (.lst (setAt ct x ys y)) ∧ G (setAt A.ad x z y)
    by_cases q : y = x
    · subst q
      rw [setAt_same, setAt_same, valV_put, if_pos rfl]
      exact ⟨rfl, go hz (lst_ne hz E.hm), gz⟩
    · rw [setAt_ne q, setAt_ne q, kk _ (fun e => kn_inj q e.symm)]
      obtain ⟨a, b, c⟩ := E.kv y
      exact ⟨a, go b (lst_ne b E.hm), c⟩
  · by_cases q : b = m
    · subst q; exact ⟨_, upd_same⟩
    · rw [upd_ne q]; exact E.al b hb
  · have := putK_len A.mk_ (.inr (K54.kn x)) (.ref z)
    have := E.z0
    show (putK A.mk_ (.inr (K54.kn x)) (.ref z)).length ≤ c + 1 + 20
    omega
  · by_cases q : y = x
    · subst q; rw [setAt_same]; exact hl
    · rw [setAt_ne q]; exact Nat.le_succ_of_le (E.z3 y)
/-- a user's done actions are another list -/
theorem MdW.putD (E : MdW K H m n ct df uf G c A) (u : Str) {z : Addr} {l : List Nat} (hz : H z = some (.lst (l.map nV))) (gz : G z) (hl : l.length ≤ c + 1) (hc : c + 1 ≤ 50000) :
    MdW K (upd H A.d (.dK (putK A.dk (.inr u) (.ref z)))) m n ct (setAt df u l) uf G (c + 1) { A with dk := putK A.dk (.inr u) (.ref z) } := by
  have go : ∀ {b : Addr} {o : HO}, H b = some o → b ≠ A.d → upd H A.d (.dK (putK A.dk (.inr u) (.ref z))) b = some o := fun q nb => by rw [upd_ne nb]; exact q
  refine { E with hm := go E.hm E.n1, kv := fun y => let ⟨a, b, c⟩ := E.kv y; ⟨a, go b (lst_ne b E.hd), c⟩, hd := upd_same, hu := go E.hu E.n3.symm, vd := fun v => ?_, vu := fun v => (E.vu v).imp (fun ⟨a, q1, q2, q3⟩ => ⟨a, q1, go q2 (lst_ne q2 E.hd), q3⟩) id, al := fun b hb => ?_, z0 := by have := E.z0; show A.mk_.length ≤ _; omega, z1 := ?_, z2 := Nat.le_succ_of_le E.z2, z3 := fun y => Nat.le_succ_of_le (E.z3 y), z5 := fun v => ?_, z6 := fun v => Nat.le_succ_of_le (E.z6 v), zc := hc }
  · show (∃ a, valV (putK A.dk (.inr u) (.ref z)) (.inr v) = some (.ref a) ∧ _ ∧ G a) ∨ (valV (putK A.dk (.inr u) (.ref z)) (.inr v) = none ∧ setAt df u l v = [])
    rw [valV_put]
    by_cases q : v = u
    · subst q
      rw [if_pos rfl, setAt_same]
      exact .inl ⟨z, rfl, go hz (lst_ne hz E.hd), gz⟩
    · rw [if_neg (fun e => q (Sum.inr.inj e)), setAt_ne q]
      exact (E.vd v).imp (fun ⟨a, q1, q2, q3⟩ => ⟨a, q1, go q2 (lst_ne q2 E.hd), q3⟩) id
  · by_cases q : b = A.d
    · subst q; exact ⟨_, upd_same⟩
    · rw [upd_ne q]; exact E.al b hb
  · have := putK_len A.dk (.inr u) (.ref z)
    have := E.z1
    show (putK A.dk (.inr u) (.ref z)).length ≤ c + 1
    omega
  · by_cases q : v = u
    · subst q; rw [setAt_same]; exact hl
    · rw [setAt_ne q]; exact Nat.le_succ_of_le (E.z5 v)
theorem MdW.putU (E : MdW K H m n ct df uf G c A) (u : Str) {z : Addr} {l : List Nat} (hz : H z = some (.lst (l.map nV))) (gz : G z) (hl : l.length ≤ c + 1) (hc : c + 1 ≤ 50000) :
    MdW K (upd H A.u (.dK (putK A.uk (.inr u) (.ref z)))) m n ct df (setAt uf u l) G (c + 1) { A with uk := putK A.uk (.inr u) (.ref z) } := by
  have go : ∀ {b : Addr} {o : HO}, H b = some o → b ≠ A.u → upd H A.u (.dK (putK A.uk (.inr u) (.ref z))) b = some o := fun q nb => by rw [upd_ne nb]; exact q
  refine { E with hm := go E.hm E.n2, kv := fun y => let ⟨a, b, c⟩ := E.kv y; ⟨a, go b (lst_ne b E.hu), c⟩, hd := go E.hd E.n3, hu := upd_same, vu := fun v => ?_, vd := fun v => (E.vd v).imp (fun ⟨a, q1, q2, q3⟩ => ⟨a, q1, go q2 (lst_ne q2 E.hu), q3⟩) id, al := fun b hb => ?_, z0 := by have := E.z0; show A.mk_.length ≤ _; omega, z2 := ?_, z1 := Nat.le_succ_of_le E.z1, z3 := fun y => Nat.le_succ_of_le (E.z3 y), z6 := fun v => ?_, z5 := fun v => Nat.le_succ_of_le (E.z5 v), zc := hc }
  · show (∃ a, valV (putK A.uk (.inr u) (.ref z)) (.inr v) = some (.ref a) ∧ _ ∧ G a) ∨ (valV (putK A.uk (.inr u) (.ref z)) (.inr v) = none ∧ setAt uf u l v = [])
    rw [valV_put]
    by_cases q : v = u
    · subst q
      rw [if_pos rfl, setAt_same]
      exact .inl ⟨z, rfl, go hz (lst_ne hz E.hu), gz⟩
    · rw [if_neg (fun e => q (Sum.inr.inj e)), setAt_ne q]
      exact (E.vu v).imp (fun ⟨a, q1, q2, q3⟩ => ⟨a, q1, go q2 (lst_ne q2 E.hu), q3⟩) id
  · by_cases q : b = A.u
    · subst q; exact ⟨_, upd_same⟩
    · rw [upd_ne q]; exact E.al b hb
  · have := putK_len A.uk (.inr u) (.ref z)
    have := E.z2
    show (putK A.uk (.inr u) (.ref z)).length ≤ c + 1
    omega
  · by_cases q : v = u
    · subst q; rw [setAt_same]; exact hl
    · rw [setAt_ne q]; exact Nat.le_succ_of_le (E.z6 v)
theorem MdW.up (E : MdW K H m n ct df uf G c A) {c' : Nat} (h : c ≤ c') (h' : c' ≤ 50000) : MdW K H m n ct df uf G c' A :=
  { E with z0 := by have := E.z0; omega, z1 := Nat.le_trans E.z1 h, z2 := Nat.le_trans E.z2 h, z3 := fun x => Nat.le_trans (E.z3 x) h, z5 := fun v => Nat.le_trans (E.z5 v) h, z6 := fun v => Nat.le_trans (E.z6 v) h, zc := h' }
end
theorem ModAt.same' {K : PySem.W.Frag} {H H' : Hp} {m : Addr} {n : Nat} {S : Ed Str} {G : Addr → Prop} {c : Nat} (E : ModAt K H m n S G c) (s : ∀ b o, G b → H b = some o → H' b = some o) : ModAt K H' m n S G c :=
  let ⟨⟨A, q⟩, o⟩ := E; ⟨⟨A, q.same s⟩, o⟩
theorem ModAt.same {K : PySem.W.Frag} {H H' : Hp} {m : Addr} {n : Nat} {S : Ed Str} {G : Addr → Prop} {c : Nat} (E : ModAt K H m n S G c) (s : Same H H') : ModAt K H' m n S G c := E.same' fun b o _ h => s b o h
theorem dg {H : Hp} {a : Addr} {kvs : List (Key × V)} {x : Str} {v : V} (e : H a = some (.dK kvs)) (h : valV kvs (.inr x) = some v) : DGet H a (.str x) (some v) := by
  have g := DGet.k (k := Sum.inr x) e
  rw [h] at g
  exact g
theorem shL_at {S : Ed Str} {i : Nat} (h : i < S.letters.length) : (shL S)[i]? = some (V.bl (!S.hid i)) := by
  unfold shL
  rw [List.getElem?_map, List.getElem?_range h]
  rfl
section
variable {P : Program} {w : World} {K : PySem.W.Frag} {mg : Str → Option Value} {ex : PySem.W.Frag → Bool} {base : Heap}
def spMShown (K : PySem.W.Frag) : Sp := fun vs H Q _ => ∃ (m : Addr) (n : Nat) (S : Ed Str) (G : Addr → Prop) (c : Nat), vs = [.ref m] ∧ ModAt K H m n S G c ∧ ∀ r H', Same H H' → H r = none → H' r = some (.lst (S.shown.map nV)) → Q (.ref r) H'
theorem ok_mshown (T : Top K mg ex) : FnOk P w K mg base CX0 1 (He.fAd K a_law_shown) (fdOf K a_law_shown) ["_law_model"] (spMShown K) := by
  refine fok T.f_law_shown sc_law_shown (fun vs H Q E h => ?_) (fun cdv A outer s H vs Q E hr h => ?_)
  · obtain ⟨_, _, _, _, _, rfl, _⟩ := h
    rfl
  · obtain ⟨m, n, S, G, c, rfl, ⟨⟨B, he⟩, hok⟩, k⟩ := h
    have hu := hu_of hr
    refine ⟨_, pss_one (ps_ret (pe_lc (own := [("_law_number", 1)]) (g := gName 1) rfl sc_law_shown.nd (pi_list (pe_dget hu (pv 0) pe_str (fun _ _ => rfl))) (blkOk_by (own := [("_law_number", 1)]) (N := ["_law_model", "_law_number"]) (sc := defScope s_law_shown) (by decide +kernel))
          (fun _ _ _ _ _ => pg_name (i := 1) sc_law_shown.nd rfl (Or.inl rfl))
          (fun _ _ _ _ _ => pts_one (pt_val (pe_ix (ixl_K K) (pe_dget hu (pv 0) pe_str (fun _ _ => rfl)) (pv 1) (fun _ _ => rfl))))
          (fun _ _ _ _ _ => pv 1))), ?_⟩
    have zl : S.order.length ≤ c := by have q : (S.order.map nV).length ≤ c := he.z3 .order; rwa [List.length_map] at q
    have zc := he.zc
    refine ⟨_, rfl, m, _, rfl, dg he.hm (he.kv .order).1, B.ad .order, rfl, ⟨_, .of (he.kv .order).2.1⟩, fun D hD => ?_⟩
    refine lc_go walk_list (by show (S.order.map nV).length ≤ _; rw [List.length_map]; omega) (fun i => match S.order[i]? with
      | some a => if (!S.hid a) = true then some (nV a) else none
      | none => none) hD (fun H2 s2 => .of (s2 _ _ (he.kv .order).2.1)) ?_ ?_
    · rintro i x H2 H3 Kt Kf hi s2 ⟨rfl, hx⟩ kt kf
      obtain ⟨a, ha, rfl⟩ := map_at hx
      have he2 := he.same fun b o _ h => s2 b o h
      have al : a < S.letters.length := (hok.mem a).mp (List.mem_of_getElem? ha)
      refine ⟨rfl, _, rfl, m, _, rfl, dg he2.hm (he2.kv .shown).1, _, rfl, B.ad .shown, _, _, _, rfl, rfl, .of (he2.kv .shown).2.1, atI_nat (shL_at al), _, rfl, ?_⟩
      rw [ha] at kt kf
      cases hh : S.hid a with
      | true => exact iteF (kf _ (by simp [hh]) (Same.refl _))
      | false => exact iteT ⟨_, rfl, kt _ _ (by simp [hh]) (Same.refl _)⟩
    · intro H2 s2 hD2
      refine k D _ s2 hD ?_
      rw [hD2]
      congr 2
      have e1 : (mct S .order).length = S.order.length := by show (S.order.map nV).length = _; rw [List.length_map]
      rw [e1]
      refine fm_filter S.order _ (fun i => !S.hid i) nV fun i x hx => ?_
      rw [hx]
def spMWord (K : PySem.W.Frag) : Sp := fun vs H Q _ => ∃ (m : Addr) (n : Nat) (S : Ed Str) (G : Addr → Prop) (c : Nat), vs = [.ref m] ∧ ModAt K H m n S G c ∧ ∀ r H', Same H H' → H r = none → H' r = some (.lst (S.word.map V.int)) → Q (.ref r) H'
theorem ok_mword (T : Top K mg ex) : FnOk P w K mg base CX0 2 (He.fAd K a_law_word) (fdOf K a_law_word) ["_law_model"] (spMWord K) := by
  refine fok T.f_law_word sc_law_word (fun vs H Q E h => ?_) (fun cdv A outer s H vs Q E hr h => ?_)
  · obtain ⟨_, _, _, _, _, rfl, _⟩ := h
    rfl
  · obtain ⟨m, n, S, G, c, rfl, ⟨⟨B, he⟩, hok⟩, k⟩ := h
    have hu := hu_of hr
    refine ⟨_, pss_one (ps_ret (pe_lc (own := [("_law_number", 1)]) (g := gName 1) (tt := tYes) rfl sc_law_word.nd (pi_list (pe_call (ok_mshown T) hr (by rfl) T.g_law_shown T.f_law_shown.kp T.b_law_shown .nil pass0 (pa_cons (pv 0) pa_nil))) (blkOk_by (own := [("_law_number", 1)]) (N := ["_law_model", "_law_number"]) (sc := defScope s_law_word) (by decide +kernel))
          (fun _ _ _ _ _ => pg_name (i := 1) sc_law_word.nd rfl (Or.inl rfl)) (fun _ _ _ _ _ => pts_nil)
          (fun _ _ _ _ _ => pe_ix (ixl_K K) (pe_dget hu (pv 0) pe_str (fun _ _ => rfl)) (pv 1) (fun _ _ => rfl)))), ?_⟩
    have zl : S.order.length ≤ c := by have q : (S.order.map nV).length ≤ c := he.z3 .order; rwa [List.length_map] at q
    have zs := shown_len S
    have zc := he.zc
    refine ⟨_, rfl, m, n, S, G, c, rfl, ⟨⟨B, he⟩, hok⟩, fun r H1 s1 hr0 hr1 => ?_⟩
    refine ⟨r, rfl, ⟨_, .of hr1⟩, fun D hD => lc_goY walk_list (by rw [List.length_map]; omega) (fun i => match S.shown[i]? with
      | some a => .int (S.letters.getD a 0)
      | none => .non) hD (fun H2 s2 => .of (s2 _ _ hr1)) ?_ ?_⟩
    · rintro i x H2 H3 Kt hi s2 ⟨rfl, hx⟩ kt
      obtain ⟨a, ha, rfl⟩ := map_at hx
      have he2 := he.same fun b o _ h => (s1.trans s2) b o h
      have al := shown_lt hok (List.mem_of_getElem? ha)
      refine ⟨rfl, _, rfl, m, _, rfl, dg he2.hm (he2.kv .letters).1, _, rfl, B.ad .letters, _, _, _, rfl, rfl, .of (he2.kv .letters).2.1, atI_nat (ints_get (List.getElem?_eq_getElem al)), ?_⟩
      rw [ha] at kt
      have eg : S.letters.getD a 0 = S.letters[a] := by rw [List.getD_eq_getElem?_getD, List.getElem?_eq_getElem al]; rfl
      rw [← eg]
      exact kt _ (Same.refl _)
    · intro H2 s2 hD2
      refine k D _ (s1.trans s2) (Same.free s1 hD) ?_
      rw [hD2, List.length_map]
      congr 2
      unfold Ed.word
      rw [List.map_map]
      refine fm_map _ _ _ fun i x hx => ?_
      rw [hx]
      rfl
def spMAuth (K : PySem.W.Frag) : Sp := fun vs H Q _ => ∃ (m : Addr) (n : Nat) (S : Ed Str) (G : Addr → Prop) (c : Nat), vs = [.ref m] ∧ ModAt K H m n S G c ∧ ∀ r H', Same H H' → H r = none → H' r = some (.lst (S.auth.map V.str)) → Q (.ref r) H'
theorem ok_mauth (T : Top K mg ex) : FnOk P w K mg base CX0 2 (He.fAd K a_law_authors) (fdOf K a_law_authors) ["_law_model"] (spMAuth K) := by
  refine fok T.f_law_authors sc_law_authors (fun vs H Q E h => ?_) (fun cdv A outer s H vs Q E hr h => ?_)
  · obtain ⟨_, _, _, _, _, rfl, _⟩ := h
    rfl
  · obtain ⟨m, n, S, G, c, rfl, ⟨⟨B, he⟩, hok⟩, k⟩ := h
    have hu := hu_of hr
    refine ⟨_, pss_one (ps_ret (pe_lc (own := [("_law_number", 1)]) (g := gName 1) (tt := tYes) rfl sc_law_authors.nd (pi_list (pe_call (ok_mshown T) hr (by rfl) T.g_law_shown T.f_law_shown.kp T.b_law_shown .nil pass0 (pa_cons (pv 0) pa_nil))) (blkOk_by (own := [("_law_number", 1)]) (N := ["_law_model", "_law_number"]) (sc := defScope s_law_authors) (by decide +kernel))
          (fun _ _ _ _ _ => pg_name (i := 1) sc_law_authors.nd rfl (Or.inl rfl)) (fun _ _ _ _ _ => pts_nil)
          (fun _ _ _ _ _ => pe_ix (ixl_K K) (pe_dget hu (pv 0) pe_str (fun _ _ => rfl)) (pv 1) (fun _ _ => rfl)))), ?_⟩
    have zl : S.order.length ≤ c := by have q : (S.order.map nV).length ≤ c := he.z3 .order; rwa [List.length_map] at q
    have zs := shown_len S
    have zc := he.zc
    refine ⟨_, rfl, m, n, S, G, c, rfl, ⟨⟨B, he⟩, hok⟩, fun r H1 s1 hr0 hr1 => ?_⟩
    refine ⟨r, rfl, ⟨_, .of hr1⟩, fun D hD => lc_goY walk_list (by rw [List.length_map]; omega) (fun i => match S.shown[i]? with
      | some a => .str (S.own a)
      | none => .non) hD (fun H2 s2 => .of (s2 _ _ hr1)) ?_ ?_⟩
    · rintro i x H2 H3 Kt hi s2 ⟨rfl, hx⟩ kt
      obtain ⟨a, ha, rfl⟩ := map_at hx
      have he2 := he.same fun b o _ h => (s1.trans s2) b o h
      have al : a < S.owners.length := by rw [hok.ol]; exact shown_lt hok (List.mem_of_getElem? ha)
      have eq : (S.owners.map V.str)[a]? = some (.str (S.own a)) := by
        rw [List.getElem?_map, List.getElem?_eq_getElem al]
        unfold Ed.own
        rw [List.getD_eq_getElem?_getD, List.getElem?_eq_getElem al]
        rfl
      refine ⟨rfl, _, rfl, m, _, rfl, dg he2.hm (he2.kv .owners).1, _, rfl, B.ad .owners, _, _, _, rfl, rfl, .of (he2.kv .owners).2.1, atI_nat eq, ?_⟩
      rw [ha] at kt
      exact kt _ (Same.refl _)
    · intro H2 s2 hD2
      refine k D _ (s1.trans s2) (Same.free s1 hD) ?_
      rw [hD2, List.length_map]
      congr 2
      unfold Ed.auth
      rw [List.map_map]
      refine fm_map _ _ _ fun i x hx => ?_
      rw [hx]
      rfl
end
end K54
namespace K54
open PySem PySem.Spec PyProof.Rows L2
structure MSt (K : PySem.W.Frag) (H : Hp) (m : Addr) (n : Nat) (G : Addr → Prop) (H1 : Hp) (ct : Ml → List V) (df uf : Str → List Nat) (G1 : Addr → Prop) (c : Nat) (A : MdA) : Prop where
  md : MdW K H1 m n ct df uf G1 c A
  off : Off G H H1
  gr : Grow G G1 H
section
variable {K : PySem.W.Frag} {H H1 H2 : Hp} {m : Addr} {n : Nat} {G G1 : Addr → Prop} {ct : Ml → List V} {df uf : Str → List Nat} {c : Nat} {A : MdA}
theorem MSt.start (E : MdW K H m n ct df uf G c A) : MSt K H m n G H ct df uf G c A := ⟨E, fun _ _ _ h => h, fun _ h => h, fun _ h => .inl h⟩
theorem MSt.same (s : MSt K H m n G H1 ct df uf G1 c A) (t : Same H1 H2) : MSt K H m n G H2 ct df uf G1 c A := ⟨s.md.same fun b o _ h => t b o h, fun b o nf h => t _ _ (s.off b o nf h), s.gr⟩
theorem MSt.free (s : MSt K H m n G H1 ct df uf G1 c A) {z : Addr} (hz : H1 z = none) : H z = none := by
  cases q : H z with
  | none => rfl
  | some o =>
    by_cases f : G z
    · obtain ⟨o2, q2⟩ := s.md.al z (s.gr.1 z f)
      rw [hz] at q2; cases q2
    · rw [s.off z o f q] at hz; cases hz
theorem MSt.offU (s : MSt K H m n G H1 ct df uf G1 c A) {z : Addr} (hz : G1 z) (o1 : HO) : Off G H (upd H1 z o1) := fun b o nf h => by
  rw [upd_ne (fun q => ?_)]
  · exact s.off b o nf h
  · subst q
    rcases s.gr.2 b hz with q | q
    · exact nf q
    · rw [h] at q; cases q
/-- a new list, taken in -/
theorem MSt.add (s : MSt K H m n G H1 ct df uf G1 c A) {z : Addr} (hz : H1 z = none) (o : HO) : MSt K H m n G (upd H1 z o) ct df uf (addF G1 z) c A := by
  have s2 := s.same (same_new (Same.refl _) hz (o := o))
  exact ⟨s2.md.add (o := o) upd_same, s2.off, fun b h => .inl (s2.gr.1 b h), fun b h => h.elim (s2.gr.2 b) fun q => .inr (q ▸ s.free hz)⟩
theorem MSt.putM (s : MSt K H m n G H1 ct df uf G1 c A) (x : Ml) {z : Addr} {ys : List V} (hz : H1 z = some (.lst ys)) (gz : G1 z) (hl : ys.length ≤ c + 1) (hc : c + 1 ≤ 50000) :
    MSt K H m n G (upd H1 m (.dK (putK A.mk_ (.inr (K54.kn x)) (.ref z)))) (setAt ct x ys) df uf G1 (c + 1) { A with mk_ := putK A.mk_ (.inr (K54.kn x)) (.ref z), ad := setAt A.ad x z } := ⟨s.md.putM x hz gz hl hc, s.offU s.md.gm _, s.gr⟩
theorem MSt.putD (s : MSt K H m n G H1 ct df uf G1 c A) (u : Str) {z : Addr} {l : List Nat} (hz : H1 z = some (.lst (l.map nV))) (gz : G1 z) (hl : l.length ≤ c + 1) (hc : c + 1 ≤ 50000) :
    MSt K H m n G (upd H1 A.d (.dK (putK A.dk (.inr u) (.ref z)))) ct (setAt df u l) uf G1 (c + 1) { A with dk := putK A.dk (.inr u) (.ref z) } := ⟨s.md.putD u hz gz hl hc, s.offU s.md.gd _, s.gr⟩
theorem MSt.putU (s : MSt K H m n G H1 ct df uf G1 c A) (u : Str) {z : Addr} {l : List Nat} (hz : H1 z = some (.lst (l.map nV))) (gz : G1 z) (hl : l.length ≤ c + 1) (hc : c + 1 ≤ 50000) :
    MSt K H m n G (upd H1 A.u (.dK (putK A.uk (.inr u) (.ref z)))) ct df (setAt uf u l) G1 (c + 1) { A with uk := putK A.uk (.inr u) (.ref z) } := ⟨s.md.putU u hz gz hl hc, s.offU s.md.gu _, s.gr⟩
end
def ctIns (S : Ed Str) (u : Str) (pos : Nat) (l : Int) : Nat → Ml → List V
  | 0 => setAt (mct S) .order ((S.order.take (S.place pos) ++ S.letters.length :: S.order.drop (S.place pos)).map nV)
  | 1 => setAt (setAt (mct S) .order ((S.order.take (S.place pos) ++ S.letters.length :: S.order.drop (S.place pos)).map nV)) .letters (S.letters.map V.int ++ [.int l])
  | 2 => setAt (setAt (setAt (mct S) .order ((S.order.take (S.place pos) ++ S.letters.length :: S.order.drop (S.place pos)).map nV)) .letters (S.letters.map V.int ++ [.int l])) .owners (S.owners.map V.str ++ [.str u])
  | _ => setAt (setAt (setAt (setAt (mct S) .order ((S.order.take (S.place pos) ++ S.letters.length :: S.order.drop (S.place pos)).map nV)) .letters (S.letters.map V.int ++ [.int l])) .owners (S.owners.map V.str ++ [.str u])) .shown (shL S ++ [.bl true])
theorem ctIns_3 {S : Ed Str} (hok : S.Ok) (u : Str) (pos : Nat) (l : Int) : ctIns S u pos l 3 = mct (S.ins u pos l) := by
  funext x
  cases x with
  | order => rfl
  | letters => show S.letters.map V.int ++ [.int l] = (S.letters ++ [l]).map V.int; rw [List.map_append]; rfl
  | owners => show S.owners.map V.str ++ [.str u] = (S.owners ++ [u]).map V.str; rw [List.map_append]; rfl
  | shown =>
    show shL S ++ [.bl true] = (List.range (S.letters ++ [l]).length).map fun i => V.bl (!S.hid i)
    rw [List.length_append, List.length_singleton, List.range_succ, List.map_append]
    show shL S ++ [.bl true] = shL S ++ [V.bl (!S.hid S.letters.length)]
    rw [hok.hn _ (Nat.le_refl _)]
    rfl
section
variable {P : Program} {w : World} {K : PySem.W.Frag} {mg : Str → Option Value} {ex : PySem.W.Frag → Bool} {base : Heap}
def spMIns (K : PySem.W.Frag) : Sp := fun vs H Q _ => ∃ (m : Addr) (n : Nat) (S : Ed Str) (G : Addr → Prop) (c : Nat) (u : Str) (pos : Nat) (l : Int), vs = [.ref m, .str u, .int (pos : Nat), .int l] ∧ ModAt K H m n S G c ∧ pos ≤ S.shown.length ∧ c + 6 ≤ 50000 ∧
  ∀ H' G', Off G H H' → Grow G G' H → ModAt K H' m n (S.ins u pos l) G' (c + 6) → Q .non H'
theorem ok_mins (T : Top K mg ex) : FnOk P w K mg base CX0 2 (He.fAd K a_law_insert) (fdOf K a_law_insert) ["_law_model", "_law_user", "_law_pos", "_law_letter"] (spMIns K) := by
  refine fok T.f_law_insert sc_law_insert (fun vs H Q E h => ?_) (fun cdv A outer s H vs Q E hr h => ?_)
  · obtain ⟨_, _, _, _, _, _, _, _, rfl, _⟩ := h
    rfl
  · obtain ⟨m, n, S, G, c, u, pos, l, rfl, ⟨⟨B, he⟩, hok⟩, hp, hc, k⟩ := h
    have hu := hu_of hr
    refine ⟨_, pss_cons (ps_par (i := 4) (j := 5) rfl sc_law_insert.nd rfl rfl (by decide) rfl rfl (pa_cons (pe_call (ok_mshown T) hr (by rfl) T.g_law_shown T.f_law_shown.kp T.b_law_shown .nil pass0 (pa_cons (pv 0) pa_nil))
          (pa_cons (pe_callB call_len_seq (by rfl) T.z_len PySem.boot_len (pa_cons (pe_dget hu (pv 0) pe_str (fun _ _ => rfl)) pa_nil)) pa_nil)) (by rfl)) <|
      C8.pss_cut (ps_set (i := 6) sc_law_insert.nd rfl (Or.inl rfl) (pe_ifExp (pt_cmpR op_lt (pv 2) (pe_callB call_len_seq (by rfl) T.z_len PySem.boot_len (pa_cons (pv 4) pa_nil)) (nomark _))
        (pe_bm PySem.F.plainAttrs_list PySem.F.slot_list_index PySem.F.type_list_index mt_index (pe_dget hu (pv 0) pe_str (fun _ _ => rfl)) (pa_cons (pe_ix ix_list (pv 4) (pv 2) (fun _ _ => rfl)) pa_nil))
        (pe_callB call_len_seq (by rfl) T.z_len PySem.boot_len (pa_cons (pe_dget hu (pv 0) pe_str (fun _ _ => rfl)) pa_nil)))) <|
      pss_cons (ps_dput hu (pv 0) pe_str (pe_op op_cat (pe_op op_cat (pe_slice sl_list (pe_dget hu (pv 0) pe_str (fun _ _ => rfl)) po_none (po_some (pv 6))) (pe_lst (pa_cons (pv 5) pa_nil))) (pe_slice sl_list (pe_dget hu (pv 0) pe_str (fun _ _ => rfl)) (po_some (pv 6)) po_none)) rfl) <|
      pss_cons (ps_for PassesOwn.never rfl (pi_list (pe_lst (pa_cons (pe_tup (pa_cons pe_str (pa_cons (pv 3) pa_nil))) (pa_cons (pe_tup (pa_cons pe_str (pa_cons (pv 1) pa_nil))) (pa_cons (pe_tup (pa_cons pe_str (pa_cons pe_bl pa_nil))) pa_nil)))))
          (pg_tup rfl (pgs_cons (pg_name (i := 7) sc_law_insert.nd rfl (Or.inl rfl)) (pgs_cons (pg_name (i := 8) sc_law_insert.nd rfl (Or.inl rfl)) pgs_nil)))
        (pss_one (ps_dput hu (pv 0) (pv 7) (pe_op op_cat (pe_dget hu (pv 0) (pv 7) (fun _ _ => rfl)) (pe_lst (pa_cons (pv 8) pa_nil))) rfl))) <|
      pss_cons (ps_dput hu (pe_dget hu (pv 0) pe_str (fun _ _ => rfl)) (pv 1) (pe_op op_cat (pe_dget2 hu (pe_dget hu (pv 0) pe_str (fun _ _ => rfl)) (pv 1) (pe_lst pa_nil) ⟨by rfl, by rfl, by rfl, by rfl⟩) (pe_lst (pa_cons (pv 5) pa_nil))) rfl) <|
      pss_one (ps_dput hu (pe_dget hu (pv 0) pe_str (fun _ _ => rfl)) (pv 1) (pe_lst pa_nil) rfl), ?_⟩
    refine ⟨_, rfl, m, n, S, G, c, rfl, ⟨⟨B, he⟩, hok⟩, fun r H1 s1 hr0 hr1 => ?_⟩
    have p1 := (MSt.start he).same s1
    refine ⟨_, rfl, m, _, rfl, dg p1.md.hm (p1.md.kv .letters).1, B.ad .letters, _, rfl, .inl (.of (p1.md.kv .letters).2.1), _, _, rfl, ?_⟩
    have eo : (mct S .order).length = S.order.length := by show (S.order.map nV).length = _; rw [List.length_map]
    have el : (mct S .letters).length = S.letters.length := by show (S.letters.map V.int).length = _; rw [List.length_map]
    have ew : (mct S .owners).length = S.owners.length := by show (S.owners.map V.str).length = _; rw [List.length_map]
    have es : (mct S .shown).length = S.letters.length := by show (shL S).length = _; unfold shL; rw [List.length_map, List.length_range]
    have zo := he.z3 .order
    have zl := he.z3 .letters
    have zw := he.z3 .owners
    have zs := he.z3 .shown
    have pl : S.place pos ≤ S.order.length := by
      unfold Ed.place
      split
      · exact List.idxOf_le_length
      · exact Nat.le_refl _
    have ho1 : H1 (B.ad .order) = some (.lst (S.order.map nV)) := (p1.md.kv .order).2.1
    refine ⟨fun σ H2 => H2 = H1 ∧ σ = [some (.ref m), some (.str u), some (.int (pos : Nat)), some (.int l), some (.ref r), some (.int (S.letters.length : Nat)), some (.int (S.place pos : Nat)), none, none], ?_, ?_⟩
    · refine ⟨_, rfl, _, rfl, r, _, rfl, .inl (.of hr1), _, _, rfl, rfl, _, rfl, ?_⟩
      have step : ∀ {b : Bool} {A1 A2 : Prop}, (b = true → A1) → (b = false → A2) → (if b = true then A1 else A2) := fun {b A1 A2} h1 h2 => by
        cases b with
        | true => exact h1 rfl
        | false => exact h2 rfl
      refine step (fun z => ?_) (fun z => ?_)
      · have hlt : pos < S.shown.length := by have := of_decide_eq_true z; rw [List.length_map] at this; omega
        have ha0 : S.shown[pos]? = some S.shown[pos] := List.getElem?_eq_getElem hlt
        have mem0 : S.shown[pos] ∈ S.order := (List.mem_filter.mp (List.getElem_mem hlt)).1
        obtain ⟨i1, i2⟩ := idx_first S.shown[pos] S.order mem0
        have epl : S.place pos = S.order.idxOf S.shown[pos] := by
          unfold Ed.place
          rw [if_pos hlt, List.getD_eq_getElem?_getD, ha0]
          rfl
        refine ⟨_, rfl, m, _, rfl, dg p1.md.hm (p1.md.kv .order).1, .inl ⟨rfl, _, .of ho1⟩, _, rfl, _, rfl, r, _, _, _, rfl, rfl, .of hr1, atI_nat (by rw [List.getElem?_map, ha0]; rfl), ?_⟩
        refine ⟨B.ad .order, _, nV S.shown[pos], S.order.idxOf S.shown[pos], nV S.shown[pos], rfl, rfl, .of ho1, rfl, flat_nats _, by rw [List.getElem?_map, i1]; rfl, by rw [eqV_nat]; simp, fun m z' hm hz => ?_, rfl, ?_⟩
        · obtain ⟨z0, hz0, rfl⟩ := map_at hz
          rw [eqV_nat]
          exact decide_eq_false (i2 m z0 hm hz0)
        · rw [el, epl]
          rfl
      · have hge : ¬ pos < S.shown.length := by have := of_decide_eq_false z; rw [List.length_map] at this; omega
        have epl : S.place pos = S.order.length := by
          unfold Ed.place
          rw [if_neg hge]
        refine ⟨_, rfl, m, _, rfl, dg p1.md.hm (p1.md.kv .order).1, B.ad .order, _, rfl, .inl (.of ho1), rfl, ?_⟩
        rw [el, epl, List.length_map]
        rfl
    rintro σ H2' ⟨e2, rfl⟩
    rw [e2]
    -- model["order"] = ..
    have lenO : (S.order.map nV).length = S.order.length := List.length_map _
    refine ⟨_, rfl, m, _, rfl, dg p1.md.hm (p1.md.kv .order).1, _, rfl, _, rfl, _, _, rfl, .of ho1, fun q1 f1 => ?_⟩
    rw [cut_take _ (by rw [lenO]; exact pl)]
    have p2 := p1.same (same_new (Same.refl _) f1 (o := .lst ((S.order.map nV).take (S.place pos))))
    have v1 : upd H1 q1 (.lst ((S.order.map nV).take (S.place pos))) q1 = some (.lst ((S.order.map nV).take (S.place pos))) := upd_same
    generalize upd H1 q1 (.lst ((S.order.map nV).take (S.place pos))) = H2 at p2 v1 ⊢
    refine ⟨_, rfl, (by show 1 ≤ sizeLine; decide), fun q2 f2 => ?_⟩
    have n12 : q1 ≠ q2 := ne_of_none v1 f2
    have len1 : ((S.order.map nV).take (S.place pos)).length ≤ 50000 := by rw [List.length_take, lenO]; omega
    refine ⟨q1, q2, _, _, rfl, rfl, (by rw [upd_ne n12]; exact v1), upd_same, line_of (by show _ + 1 ≤ _; omega), fun q3 f3 => ?_⟩
    have p3 := (p2.same (same_new (Same.refl _) f2 (o := .lst [.int (S.letters.length : Nat)]))).same (same_new (Same.refl _) f3 (o := .lst ((S.order.map nV).take (S.place pos) ++ [.int (S.letters.length : Nat)])))
    have v3 : upd (upd H2 q2 (.lst [.int (S.letters.length : Nat)])) q3 (.lst ((S.order.map nV).take (S.place pos) ++ [.int (S.letters.length : Nat)])) q3 = some (.lst ((S.order.map nV).take (S.place pos) ++ [.int (S.letters.length : Nat)])) := upd_same
    generalize upd (upd H2 q2 (.lst [.int (S.letters.length : Nat)])) q3 (.lst ((S.order.map nV).take (S.place pos) ++ [.int (S.letters.length : Nat)])) = H3 at p3 v3 ⊢
    have ho3 : H3 (B.ad .order) = some (.lst (S.order.map nV)) := (p3.md.kv .order).2.1
    refine ⟨_, rfl, m, _, rfl, dg p3.md.hm (p3.md.kv .order).1, _, rfl, _, rfl, _, _, rfl, .of ho3, fun q4 f4 => ?_⟩
    rw [cut_drop _ (by rw [lenO]; exact pl)]
    have n34 : q3 ≠ q4 := ne_of_none v3 f4
    refine ⟨q3, q4, _, _, rfl, rfl, (by rw [upd_ne n34]; exact v3), upd_same, line_of (by rw [List.length_append, List.length_drop, lenO]; show _ + 1 + _ ≤ _; omega), fun q5 f5 => ?_⟩
    have p4 := (p3.same (same_new (Same.refl _) f4 (o := .lst ((S.order.map nV).drop (S.place pos)))))
    have e5 : (S.order.map nV).take (S.place pos) ++ [V.int (S.letters.length : Nat)] ++ (S.order.map nV).drop (S.place pos) = (S.order.take (S.place pos) ++ S.letters.length :: S.order.drop (S.place pos)).map nV := by
      rw [List.map_append, List.map_cons, List.map_take, List.map_drop, List.append_assoc]
      rfl
    rw [e5]
    generalize upd H3 q4 (.lst ((S.order.map nV).drop (S.place pos))) = H4 at p4 f5 ⊢
    have p5 := p4.add f5 (.lst ((S.order.take (S.place pos) ++ S.letters.length :: S.order.drop (S.place pos)).map nV))
    have v5 : upd H4 q5 (.lst ((S.order.take (S.place pos) ++ S.letters.length :: S.order.drop (S.place pos)).map nV)) q5 = some (.lst ((S.order.take (S.place pos) ++ S.letters.length :: S.order.drop (S.place pos)).map nV)) := upd_same
    generalize upd H4 q5 (.lst ((S.order.take (S.place pos) ++ S.letters.length :: S.order.drop (S.place pos)).map nV)) = H5 at p5 v5 ⊢
    have p6 := p5.putM .order v5 (.inr rfl) (by rw [List.length_map, List.length_append, List.length_cons, List.length_take, List.length_drop]; omega) (by omega)
    have z0 := p5.md.z0
    refine ⟨_, rfl, m, _, rfl, DPut.k (k := Sum.inr ("order" : Str)) p5.md.hm (line_lt (by omega)), ?_⟩
    generalize eB6 : ({ B with mk_ := putK B.mk_ (.inr (K54.kn .order)) (.ref q5), ad := setAt B.ad .order q5 } : MdA) = B6 at p6
    have eh6 : upd H5 m (.dK (putK B.mk_ (.inr "order") (.ref q5))) = upd H5 m (.dK (putK B.mk_ (.inr (K54.kn .order)) (.ref q5))) := rfl
    rw [eh6]
    generalize upd H5 m (.dK (putK B.mk_ (.inr (K54.kn .order)) (.ref q5))) = H6 at p6 ⊢
    -- the loop
    refine ⟨_, rfl, (by show 2 ≤ sizeLine; decide), fun t1 g1 => ?_⟩
    refine ⟨_, rfl, (by show 2 ≤ sizeLine; decide), fun t2 g2 => ⟨(by show 2 ≤ sizeLine; decide), fun t3 g3 => ⟨(by show 3 ≤ sizeLine; decide), fun zz g4 => ?_⟩⟩⟩
    have p7 := (((p6.same (same_new (Same.refl _) g1 (o := .tup [.str "letters", .int l]))).same (same_new (Same.refl _) g2 (o := .tup [.str "owners", .str u]))).same (same_new (Same.refl _) g3 (o := .tup [.str "shown", .bl true]))).same (same_new (Same.refl _) g4 (o := .lst [.ref t1, .ref t2, .ref t3]))
    have w1 : upd (upd (upd (upd H6 t1 (.tup [.str "letters", .int l])) t2 (.tup [.str "owners", .str u])) t3 (.tup [.str "shown", .bl true])) zz (.lst [.ref t1, .ref t2, .ref t3]) t1 = some (.tup [.str "letters", .int l]) :=
      same_new (same_new (same_new (Same.refl _) g2) g3) g4 _ _ upd_same
    have w2 : upd (upd (upd (upd H6 t1 (.tup [.str "letters", .int l])) t2 (.tup [.str "owners", .str u])) t3 (.tup [.str "shown", .bl true])) zz (.lst [.ref t1, .ref t2, .ref t3]) t2 = some (.tup [.str "owners", .str u]) :=
      same_new (same_new (Same.refl _) g3) g4 _ _ upd_same
    have w3 : upd (upd (upd (upd H6 t1 (.tup [.str "letters", .int l])) t2 (.tup [.str "owners", .str u])) t3 (.tup [.str "shown", .bl true])) zz (.lst [.ref t1, .ref t2, .ref t3]) t3 = some (.tup [.str "shown", .bl true]) :=
      same_new (Same.refl _) g4 _ _ upd_same
    have w4 : upd (upd (upd (upd H6 t1 (.tup [.str "letters", .int l])) t2 (.tup [.str "owners", .str u])) t3 (.tup [.str "shown", .bl true])) zz (.lst [.ref t1, .ref t2, .ref t3]) zz = some (.lst [.ref t1, .ref t2, .ref t3]) := upd_same
    generalize upd (upd (upd (upd H6 t1 (.tup [.str "letters", .int l])) t2 (.tup [.str "owners", .str u])) t3 (.tup [.str "shown", .bl true])) zz (.lst [.ref t1, .ref t2, .ref t3]) = H7 at p7 w1 w2 w3 w4 ⊢
    refine ⟨zz, rfl, ⟨_, .of w4⟩, for_list (K := K) (a := zz) (xs := [.ref t1, .ref t2, .ref t3]) (fun i σ H8 => ∃ (v7 v8 : Option V) (A8 : MdA) (G8 : Addr → Prop), σ = [some (.ref m), some (.str u), some (.int (pos : Nat)), some (.int l), some (.ref r), some (.int (S.letters.length : Nat)), some (.int (S.place pos : Nat)), v7, v8] ∧
      MSt K H m n G H8 (ctIns S u pos l i) S.done S.undone G8 (c + 1 + i) A8 ∧ H8 t1 = some (.tup [.str "letters", .int l]) ∧ H8 t2 = some (.tup [.str "owners", .str u]) ∧ H8 t3 = some (.tup [.str "shown", .bl true]) ∧ H8 zz = some (.lst [.ref t1, .ref t2, .ref t3]))
      ⟨none, none, _, _, rfl, p7, w1, w2, w3, w4⟩ (fun i σ H2 _ ⟨_, _, _, _, _, _, _, _, _, e⟩ => .of e) ?_ ?_⟩
    · rintro i y σ H8 hi ⟨v7, v8, A8, G8, rfl, p8, y1, y2, y3, y4⟩
      have hi3 : i < 3 := (List.getElem?_eq_some_iff.mp hi).1
      obtain ⟨x, item, t, hy, ht, hct, hlen⟩ : ∃ (x : Ml) (item : V) (t : Addr), y = .ref t ∧ H8 t = some (.tup [.str (K54.kn x), item]) ∧ ctIns S u pos l (i + 1) = setAt (ctIns S u pos l i) x (ctIns S u pos l i x ++ [item]) ∧ (ctIns S u pos l i x).length ≤ c := by
        match i, hi with
        | 0, hi => exact ⟨.letters, _, t1, (Option.some.inj hi).symm, y1, rfl, zl⟩
        | 1, hi => exact ⟨.owners, _, t2, (Option.some.inj hi).symm, y2, rfl, zw⟩
        | 2, hi => exact ⟨.shown, _, t3, (Option.some.inj hi).symm, y3, rfl, zs⟩
        | (j + 3), hi => simp at hi
      subst hy
      refine ⟨t, _, rfl, .of ht, rfl, _, _, rfl, _, _, rfl, rfl, ?_⟩
      have hx8 := p8.md.kv x
      refine ⟨_, rfl, _, rfl, m, _, rfl, dg p8.md.hm hx8.1, _, rfl, (by show 1 ≤ sizeLine; decide), fun b1 j1 => ?_⟩
      have nb : A8.ad x ≠ b1 := ne_of_none hx8.2.1 j1
      refine ⟨_, b1, _, _, rfl, rfl, (by rw [upd_ne nb]; exact hx8.2.1), upd_same, line_of (by show _ + 1 ≤ _; omega), fun b2 j2 => ?_⟩
      have p9 := p8.same (same_new (Same.refl _) j1 (o := .lst [item]))
      have s9 : Same H8 (upd H8 b1 (.lst [item])) := same_new (Same.refl _) j1
      generalize upd H8 b1 (.lst [item]) = H9 at p9 s9 j2 ⊢
      have p10 := p9.add j2 (.lst (ctIns S u pos l i x ++ [item]))
      have s10 : Same H9 (upd H9 b2 (.lst (ctIns S u pos l i x ++ [item]))) := same_new (Same.refl _) j2
      have v10 : upd H9 b2 (.lst (ctIns S u pos l i x ++ [item])) b2 = some (.lst (ctIns S u pos l i x ++ [item])) := upd_same
      generalize upd H9 b2 (.lst (ctIns S u pos l i x ++ [item])) = H10 at p10 s10 v10 ⊢
      have p11 := p10.putM x v10 (.inr rfl) (by rw [List.length_append, List.length_singleton]; omega) (by omega)
      have z10 := p10.md.z0
      refine ⟨_, rfl, _, rfl, m, _, rfl, DPut.k (k := Sum.inr (K54.kn x)) p10.md.hm (line_lt (by omega)), ?_⟩
      rw [← hct] at p11
      have nm : ∀ {b : Addr} {o : HO}, H8 b = some o → (∀ kvs, o ≠ .dK kvs) → upd H10 m (.dK (putK A8.mk_ (.inr (K54.kn x)) (.ref b2))) b = some o := fun {b o} q nd => by
        have q10 := s10 _ _ (s9 _ _ q)
        rw [upd_ne (fun e => ?_)]
        · exact q10
        · subst e
          have hm10 := p10.md.hm
          rw [q10] at hm10
          exact nd _ (Option.some.inj hm10)
      exact ⟨_, _, _, _, rfl, p11, nm y1 (by intro _ z; cases z), nm y2 (by intro _ z; cases z), nm y3 (by intro _ z; cases z), nm y4 (by intro _ z; cases z)⟩
    rintro σ H8 ⟨v7, v8, A8, G8, rfl, p8, _, _, _, _⟩
    have p8 : MSt K H m n G H8 (ctIns S u pos l 3) S.done S.undone G8 (c + 1 + 3) A8 := p8
    rw [ctIns_3 hok] at p8
    -- done
    refine ⟨_, rfl, m, _, rfl, dg p8.md.hm p8.md.kd, A8.d, rfl, .inl ⟨_, .inl p8.md.hd⟩, _, rfl, Nat.zero_le _, fun b1 j1 => ?_⟩
    have p9 := p8.same (same_new (Same.refl _) j1 (o := .lst []))
    refine ⟨_, DGet.k (k := Sum.inr u) p9.md.hd, ?_⟩
    obtain ⟨a, ea, ha⟩ : ∃ a, (valV A8.dk (.inr u)).getD (.ref b1) = .ref a ∧ upd H8 b1 (.lst []) a = some (.lst ((S.done u).map nV)) := by
      rcases p9.md.vd u with ⟨a, q1, q2, _⟩ | ⟨q1, q2⟩
      · exact ⟨a, by rw [q1]; rfl, q2⟩
      · refine ⟨b1, by rw [q1]; rfl, ?_⟩
        rw [q2]
        exact upd_same
    rw [ea]
    generalize upd H8 b1 (.lst []) = H9 at p9 ha ⊢
    have zd := p9.md.z5 u
    refine ⟨_, rfl, (by show 1 ≤ sizeLine; decide), fun b2 j2 => ?_⟩
    have p10 := p9.same (same_new (Same.refl _) j2 (o := .lst [.int (S.letters.length : Nat)]))
    have nb : a ≠ b2 := ne_of_none ha j2
    refine ⟨a, b2, _, _, rfl, rfl, (by rw [upd_ne nb]; exact ha), upd_same, line_of (by rw [List.length_map]; show _ + 1 ≤ _; omega), fun b3 j3 => ?_⟩
    have e6 : (S.done u).map nV ++ [V.int (S.letters.length : Nat)] = (S.done u ++ [S.letters.length]).map nV := by rw [List.map_append]; rfl
    rw [e6]
    generalize upd H9 b2 (.lst [.int (S.letters.length : Nat)]) = H10 at p10 j3 ⊢
    have p11 := p10.add j3 (.lst ((S.done u ++ [S.letters.length]).map nV))
    have v11 : upd H10 b3 (.lst ((S.done u ++ [S.letters.length]).map nV)) b3 = some (.lst ((S.done u ++ [S.letters.length]).map nV)) := upd_same
    generalize upd H10 b3 (.lst ((S.done u ++ [S.letters.length]).map nV)) = H11 at p11 v11 ⊢
    have z11 := p11.md.z1
    refine ⟨_, rfl, m, _, rfl, dg p11.md.hm p11.md.kd, _, rfl, A8.d, _, rfl, DPut.k (k := Sum.inr u) p11.md.hd (line_lt (by omega)), ?_⟩
    have p12 := p11.putD u v11 (.inr rfl) (by rw [List.length_append, List.length_singleton]; omega) (by omega)
    generalize upd H11 A8.d (.dK (putK A8.dk (.inr u) (.ref b3))) = H12 at p12 ⊢
    refine ⟨Nat.zero_le _, fun b4 j4 => ?_⟩
    have p13 := p12.add j4 (.lst [])
    have v13 : upd H12 b4 (.lst []) b4 = some (.lst (([] : List Nat).map nV)) := upd_same
    generalize upd H12 b4 (.lst []) = H13 at p13 v13 ⊢
    have z13 := p13.md.z2
    refine ⟨_, rfl, m, _, rfl, dg p13.md.hm p13.md.ku, _, rfl, A8.u, _, rfl, DPut.k (k := Sum.inr u) p13.md.hu (line_lt (by omega)), ?_⟩
    have p14 := p13.putU u v13 (.inr rfl) (Nat.zero_le _) (by omega)
    exact k _ _ p14.off p14.gr ⟨⟨_, p14.md⟩, hok.ins u pos l⟩
end
end K54
namespace K54
open PySem PySem.Spec PyProof.Rows L2
theorem sh_turn (S : Ed Str) {a : Nat} (b : Bool) (h : a < S.letters.length) (f : Nat → Bool) (fa : f a = !b) (fo : ∀ i, i ≠ a → f i = S.hid i) :
    (shL S).take a ++ [V.bl b] ++ (shL S).drop (a + 1) = (List.range S.letters.length).map fun i => V.bl (!f i) := by
  have hl : a < (shL S).length := by unfold shL; rw [List.length_map, List.length_range]; exact h
  have e : (shL S).take a ++ [V.bl b] ++ (shL S).drop (a + 1) = (shL S).set a (V.bl b) := by
    rw [List.set_eq_take_append_cons_drop, if_pos hl, List.append_assoc]
    rfl
  rw [e]
  apply List.ext_getElem?
  intro i
  rw [List.getElem?_set]
  by_cases q : a = i
  · subst q
    rw [if_pos rfl, if_pos hl, List.getElem?_map, List.getElem?_range h, Option.map_some, fa, Bool.not_not]
  · rw [if_neg q]
    by_cases hi : i < S.letters.length
    · rw [shL_at hi, List.getElem?_map, List.getElem?_range hi, Option.map_some, fo i (fun z => q z.symm)]
    · rw [List.getElem?_eq_none (by unfold shL; rw [List.length_map, List.length_range]; omega), List.getElem?_eq_none (by rw [List.length_map, List.length_range]; omega)]
theorem at_last_nat {l : List Nat} (h : l ≠ []) : atI (l.map nV) (-1) = some (nV (l.getLastD 0)) := by
  have e := split_last h 0
  have e2 : l.map nV = l.dropLast.map nV ++ [nV (l.getLastD 0)] := by
    conv => lhs; rw [e]
    rw [List.map_append]
    rfl
  rw [e2]
  exact atI_last _ _
abbrev nV2 (l : List Nat) : Int := ((l.getLastD 0 : Nat) : Int)
theorem mct_undo {S : Ed Str} (hok : S.Ok) {u : Str} (h : S.done u ≠ []) : setAt (mct S) .shown ((shL S).take (S.top u) ++ [V.bl false] ++ (shL S).drop (S.top u + 1)) = mct (S.undo u) := by
  funext x
  cases x with
  | order => rfl
  | letters => rfl
  | owners => rfl
  | shown =>
    rw [setAt_same]
    exact sh_turn S false (hok.dn u _ (Ed.top_mem h)).1 (S.undo u).hid (by show setAt S.hid (S.top u) true (S.top u) = _; rw [setAt_same]; rfl) fun i hi => by show setAt S.hid (S.top u) true i = _; rw [setAt_ne hi]
theorem mct_redo {S : Ed Str} (hok : S.Ok) {u : Str} (h : S.undone u ≠ []) : setAt (mct S) .shown ((shL S).take (S.utop u) ++ [V.bl true] ++ (shL S).drop (S.utop u + 1)) = mct (S.redo u) := by
  funext x
  cases x with
  | order => rfl
  | letters => rfl
  | owners => rfl
  | shown =>
    rw [setAt_same]
    exact sh_turn S true (hok.un u _ (Ed.utop_mem h)).1 (S.redo u).hid (by show setAt S.hid (S.utop u) false (S.utop u) = _; rw [setAt_same]; rfl) fun i hi => by show setAt S.hid (S.utop u) false i = _; rw [setAt_ne hi]
section
variable {P : Program} {w : World} {K : PySem.W.Frag} {mg : Str → Option Value} {ex : PySem.W.Frag → Bool} {base : Heap}
def spMTurn (K : PySem.W.Frag) : Sp := fun vs H Q _ => ∃ (m : Addr) (n : Nat) (S : Ed Str) (G : Addr → Prop) (c : Nat) (u : Str), ModAt K H m n S G c ∧ c + 6 ≤ 50000 ∧
  ((vs = [.ref m, .str u, .str "done", .str "undone", .bl false] ∧ S.done u ≠ [] ∧ ∀ H' G', Off G H H' → Grow G G' H → ModAt K H' m n (S.undo u) G' (c + 6) → Q .non H') ∨
   (vs = [.ref m, .str u, .str "undone", .str "done", .bl true] ∧ S.undone u ≠ [] ∧ ∀ H' G', Off G H H' → Grow G G' H → ModAt K H' m n (S.redo u) G' (c + 6) → Q .non H'))
theorem ok_mturn (T : Top K mg ex) : FnOk P w K mg base CX0 1 (He.fAd K a_law_turn) (fdOf K a_law_turn) ["_law_model", "_law_user", "_law_source", "_law_target", "_law_is_shown"] (spMTurn K) := by
  refine fok T.f_law_turn sc_law_turn (fun vs H Q E h => ?_) (fun cdv A outer s H vs Q E hr h => ?_)
  · obtain ⟨_, _, _, _, _, _, _, _, ⟨rfl, _⟩ | ⟨rfl, _⟩⟩ := h <;> rfl
  · obtain ⟨m, n, S, G, c, u, ⟨⟨B, he⟩, hok⟩, hc, h⟩ := h
    have hu := hu_of hr
    refine ⟨_, pss_cons (ps_set (i := 5) sc_law_turn.nd rfl (Or.inl rfl) (pe_ix ix_list (pe_dget hu (pe_dget hu (pv 0) (pv 2) (fun _ _ => rfl)) (pv 1) (fun _ _ => rfl)) (pe_un un_neg pe_int) (fun _ _ => rfl))) <|
      pss_cons (ps_dput hu (pe_dget hu (pv 0) (pv 2) (fun _ _ => rfl)) (pv 1) (pe_slice sl_list (pe_dget hu (pe_dget hu (pv 0) (pv 2) (fun _ _ => rfl)) (pv 1) (fun _ _ => rfl)) po_none (po_some (pe_un un_neg pe_int))) rfl) <|
      pss_cons (ps_dput hu (pe_dget hu (pv 0) (pv 3) (fun _ _ => rfl)) (pv 1) (pe_op op_cat (pe_dget2 hu (pe_dget hu (pv 0) (pv 3) (fun _ _ => rfl)) (pv 1) (pe_lst pa_nil) ⟨by rfl, by rfl, by rfl, by rfl⟩) (pe_lst (pa_cons (pv 5) pa_nil))) rfl) <|
      pss_one (ps_dput hu (pv 0) pe_str (pe_op op_cat (pe_op op_cat (pe_slice sl_list (pe_dget hu (pv 0) pe_str (fun _ _ => rfl)) po_none (po_some (pv 5))) (pe_lst (pa_cons (pv 4) pa_nil))) (pe_slice sl_list (pe_dget hu (pv 0) pe_str (fun _ _ => rfl)) (po_some (pe_op op_add (pv 5) pe_int)) po_none)) rfl), ?_⟩
    have p1 := MSt.start he
    rcases h with ⟨rfl, hd, k⟩ | ⟨rfl, hd, k⟩
    · obtain ⟨a1, k1, h1, _⟩ : ∃ a, valV B.dk (.inr u) = some (.ref a) ∧ H a = some (.lst ((S.done u).map nV)) ∧ G a := by
        rcases he.vd u with q | ⟨_, q⟩
        · exact q
        · exact absurd q hd
      have al := (hok.dn u _ (Ed.top_mem hd)).1
      refine ⟨_, rfl, _, rfl, m, _, rfl, dg p1.md.hm p1.md.kd, _, rfl, B.d, _, rfl, dg p1.md.hd k1, _, rfl, a1, _, _, _, rfl, rfl, .of h1, at_last_nat hd, ?_⟩
      refine ⟨_, rfl, _, rfl, m, _, rfl, dg p1.md.hm p1.md.kd, _, rfl, B.d, _, rfl, dg p1.md.hd k1, _, rfl, _, rfl, a1, _, rfl, .of h1, fun b1 j1 => ?_⟩
      have e1 : cutV ((S.done u).map nV) none (some (-1)) = (S.done u).dropLast.map nV := by rw [cut_last, List.map_dropLast]
      have e1' : upd H b1 (.lst (cutV ((S.done u).map nV) none (some (-1)))) = upd H b1 (.lst ((S.done u).dropLast.map nV)) := by rw [e1]
      refine e1' ▸ ?_
      have p2 := p1.add j1 (.lst ((S.done u).dropLast.map nV))
      have v2 : upd H b1 (.lst ((S.done u).dropLast.map nV)) b1 = some (.lst ((S.done u).dropLast.map nV)) := upd_same
      generalize upd H b1 (.lst ((S.done u).dropLast.map nV)) = H2 at p2 v2 ⊢
      have z2 := p2.md.z1
      refine ⟨_, rfl, _, rfl, m, _, rfl, dg p2.md.hm p2.md.kd, _, rfl, B.d, _, rfl, DPut.k (k := Sum.inr u) p2.md.hd (line_lt (by omega)), ?_⟩
      have p3 := p2.putD u v2 (.inr rfl) (by have := p1.md.z5 u; rw [List.length_dropLast]; omega) (by omega)
      have ku3 := p3.md.ku
      have hu3 := p3.md.hu
      generalize upd H2 B.d (.dK (putK B.dk (.inr u) (.ref b1))) = H3 at p3 hu3 ⊢
      -- the other list
      refine ⟨_, rfl, _, rfl, m, _, rfl, dg p3.md.hm p3.md.ku, B.u, rfl, .inl ⟨_, .inl p3.md.hu⟩, _, rfl, Nat.zero_le _, fun b2 j2 => ?_⟩
      have p4 := p3.same (same_new (Same.refl _) j2 (o := .lst []))
      refine ⟨_, DGet.k (k := Sum.inr u) p4.md.hu, ?_⟩
      obtain ⟨a, ea, ha⟩ : ∃ a, (valV B.uk (.inr u)).getD (.ref b2) = .ref a ∧ upd H3 b2 (.lst []) a = some (.lst ((S.undone u).map nV)) := by
        rcases p4.md.vu u with ⟨a, q1, q2, _⟩ | ⟨q1, q2⟩
        · exact ⟨a, by rw [q1]; rfl, q2⟩
        · refine ⟨b2, by rw [q1]; rfl, ?_⟩
          rw [q2]
          exact upd_same
      rw [ea]
      generalize upd H3 b2 (.lst []) = H4 at p4 ha ⊢
      have zd := p4.md.z6 u
      refine ⟨_, rfl, (by show 1 ≤ sizeLine; decide), fun b3 j3 => ?_⟩
      have p5 := p4.same (same_new (Same.refl _) j3 (o := .lst [nV (S.top u)]))
      have nb : a ≠ b3 := ne_of_none ha j3
      refine ⟨a, b3, _, _, rfl, rfl, (by rw [upd_ne nb]; exact ha), upd_same, line_of (by rw [List.length_map]; show _ + 1 ≤ _; omega), fun b4 j4 => ?_⟩
      have e6 : (S.undone u).map nV ++ [nV ((S.done u).getLastD 0)] = (S.undone u ++ [S.top u]).map nV := by rw [List.map_append]; rfl
      have e6' : upd (upd H4 b3 (.lst [nV (S.top u)])) b4 (.lst ((S.undone u).map nV ++ [nV ((S.done u).getLastD 0)])) = upd (upd H4 b3 (.lst [nV (S.top u)])) b4 (.lst ((S.undone u ++ [S.top u]).map nV)) := by rw [e6]
      refine e6' ▸ ?_
      have j4' : upd H4 b3 (.lst [nV (S.top u)]) b4 = none := j4
      generalize upd H4 b3 (.lst [nV (S.top u)]) = H5 at p5 j4' ⊢
      have p6 := p5.add j4' (.lst ((S.undone u ++ [S.top u]).map nV))
      have v6 : upd H5 b4 (.lst ((S.undone u ++ [S.top u]).map nV)) b4 = some (.lst ((S.undone u ++ [S.top u]).map nV)) := upd_same
      generalize upd H5 b4 (.lst ((S.undone u ++ [S.top u]).map nV)) = H6 at p6 v6 ⊢
      have z6 := p6.md.z2
      refine ⟨_, rfl, _, rfl, m, _, rfl, dg p6.md.hm p6.md.ku, _, rfl, B.u, _, rfl, DPut.k (k := Sum.inr u) p6.md.hu (line_lt (by omega)), ?_⟩
      have p7 := p6.putU u v6 (.inr rfl) (by rw [List.length_append, List.length_singleton]; omega) (by omega)
      generalize upd H6 B.u (.dK (putK B.uk (.inr u) (.ref b4))) = H7 at p7 ⊢
      -- shown
      have hs7 := p7.md.kv .shown
      have h7 : H7 (B.ad .shown) = some (.lst (shL S)) := hs7.2.1
      have lenS : (shL S).length = S.letters.length := by unfold shL; rw [List.length_map, List.length_range]
      have zs : (shL S).length ≤ c := he.z3 .shown
      have ks7 : valV B.mk_ (.inr ("shown" : Str)) = some (.ref (B.ad .shown)) := hs7.1
      refine ⟨_, rfl, m, _, rfl, dg p7.md.hm ks7, _, rfl, _, rfl, B.ad .shown, _, rfl, .of h7, fun b5 j5 => ?_⟩
      have e7 : cutV (shL S) none (some (nV2 (S.done u))) = (shL S).take (S.top u) := cut_take (shL S) (i := S.top u) (by rw [lenS]; omega)
      refine (congrArg (fun xs => upd H7 b5 (.lst xs)) e7) ▸ ?_
      have p8 := p7.same (same_new (Same.refl _) j5 (o := .lst ((shL S).take (S.top u))))
      have v8 : upd H7 b5 (.lst ((shL S).take (S.top u))) b5 = some (.lst ((shL S).take (S.top u))) := upd_same
      generalize upd H7 b5 (.lst ((shL S).take (S.top u))) = H8 at p8 v8 ⊢
      refine ⟨_, rfl, (by show 1 ≤ sizeLine; decide), fun b6 j6 => ?_⟩
      have n56 : b5 ≠ b6 := ne_of_none v8 j6
      refine ⟨b5, b6, _, _, rfl, rfl, (by rw [upd_ne n56]; exact v8), upd_same, line_of (by rw [List.length_take]; show _ + 1 ≤ _; omega), fun b7 j7 => ?_⟩
      have p9 := (p8.same (same_new (Same.refl _) j6 (o := .lst [.bl false]))).same (same_new (Same.refl _) j7 (o := .lst ((shL S).take (S.top u) ++ [.bl false])))
      have v9 : upd (upd H8 b6 (.lst [.bl false])) b7 (.lst ((shL S).take (S.top u) ++ [.bl false])) b7 = some (.lst ((shL S).take (S.top u) ++ [.bl false])) := upd_same
      generalize upd (upd H8 b6 (.lst [.bl false])) b7 (.lst ((shL S).take (S.top u) ++ [.bl false])) = H9 at p9 v9 ⊢
      have h9 : H9 (B.ad .shown) = some (.lst (shL S)) := (p9.md.kv .shown).2.1
      refine ⟨_, rfl, m, _, rfl, dg p9.md.hm ks7, _, rfl, _, _, rfl, rfl, _, rfl, B.ad .shown, _, rfl, .of h9, fun b8 j8 => ?_⟩
      have e9 : cutV (shL S) (some (nV2 (S.done u) + 1)) none = (shL S).drop (S.top u + 1) := by
        have q := cut_drop (shL S) (i := S.top u + 1) (by rw [lenS]; omega)
        rw [← q]
        rfl
      refine (congrArg (fun xs => upd H9 b8 (.lst xs)) e9) ▸ ?_
      have n78 : b7 ≠ b8 := ne_of_none v9 j8
      refine ⟨b7, b8, _, _, rfl, rfl, (by rw [upd_ne n78]; exact v9), upd_same, line_of (by rw [List.length_append, List.length_take, List.length_drop]; show _ + 1 + _ ≤ _; omega), fun b9 j9 => ?_⟩
      have p10 := p9.same (same_new (Same.refl _) j8 (o := .lst ((shL S).drop (S.top u + 1))))
      have j9' : upd H9 b8 (.lst ((shL S).drop (S.top u + 1))) b9 = none := j9
      generalize upd H9 b8 (.lst ((shL S).drop (S.top u + 1))) = H10 at p10 j9' ⊢
      have p11 := p10.add j9' (.lst ((shL S).take (S.top u) ++ [.bl false] ++ (shL S).drop (S.top u + 1)))
      have v11 : upd H10 b9 (.lst ((shL S).take (S.top u) ++ [.bl false] ++ (shL S).drop (S.top u + 1))) b9 = some (.lst ((shL S).take (S.top u) ++ [.bl false] ++ (shL S).drop (S.top u + 1))) := upd_same
      generalize upd H10 b9 (.lst ((shL S).take (S.top u) ++ [.bl false] ++ (shL S).drop (S.top u + 1))) = H11 at p11 v11 ⊢
      have z11 := p11.md.z0
      refine ⟨_, rfl, m, _, rfl, DPut.k (k := Sum.inr ("shown" : Str)) p11.md.hm (line_lt (by omega)), ?_⟩
      have p12 := p11.putM .shown v11 (.inr rfl) (by rw [List.length_append, List.length_append, List.length_take, List.length_drop]; show _ + 1 + _ ≤ _; omega) (by omega)
      have md := p12.md
      rw [mct_undo hok hd] at md
      exact k _ _ p12.off p12.gr ⟨⟨_, md.up (by omega) (by omega)⟩, hok.undo hd⟩
    · obtain ⟨a1, k1, h1, _⟩ : ∃ a, valV B.uk (.inr u) = some (.ref a) ∧ H a = some (.lst ((S.undone u).map nV)) ∧ G a := by
        rcases he.vu u with q | ⟨_, q⟩
        · exact q
        · exact absurd q hd
      have al := (hok.un u _ (Ed.utop_mem hd)).1
      refine ⟨_, rfl, _, rfl, m, _, rfl, dg p1.md.hm p1.md.ku, _, rfl, B.u, _, rfl, dg p1.md.hu k1, _, rfl, a1, _, _, _, rfl, rfl, .of h1, at_last_nat hd, ?_⟩
      refine ⟨_, rfl, _, rfl, m, _, rfl, dg p1.md.hm p1.md.ku, _, rfl, B.u, _, rfl, dg p1.md.hu k1, _, rfl, _, rfl, a1, _, rfl, .of h1, fun b1 j1 => ?_⟩
      have e1 : cutV ((S.undone u).map nV) none (some (-1)) = (S.undone u).dropLast.map nV := by rw [cut_last, List.map_dropLast]
      have e1' : upd H b1 (.lst (cutV ((S.undone u).map nV) none (some (-1)))) = upd H b1 (.lst ((S.undone u).dropLast.map nV)) := by rw [e1]
      refine e1' ▸ ?_
      have p2 := p1.add j1 (.lst ((S.undone u).dropLast.map nV))
      have v2 : upd H b1 (.lst ((S.undone u).dropLast.map nV)) b1 = some (.lst ((S.undone u).dropLast.map nV)) := upd_same
      generalize upd H b1 (.lst ((S.undone u).dropLast.map nV)) = H2 at p2 v2 ⊢
      have z2 := p2.md.z2
      refine ⟨_, rfl, _, rfl, m, _, rfl, dg p2.md.hm p2.md.ku, _, rfl, B.u, _, rfl, DPut.k (k := Sum.inr u) p2.md.hu (line_lt (by omega)), ?_⟩
      have p3 := p2.putU u v2 (.inr rfl) (by have := p1.md.z6 u; rw [List.length_dropLast]; omega) (by omega)
      have ku3 := p3.md.kd
      have hu3 := p3.md.hd
      generalize upd H2 B.u (.dK (putK B.uk (.inr u) (.ref b1))) = H3 at p3 hu3 ⊢
      -- the other list
      refine ⟨_, rfl, _, rfl, m, _, rfl, dg p3.md.hm p3.md.kd, B.d, rfl, .inl ⟨_, .inl p3.md.hd⟩, _, rfl, Nat.zero_le _, fun b2 j2 => ?_⟩
      have p4 := p3.same (same_new (Same.refl _) j2 (o := .lst []))
      refine ⟨_, DGet.k (k := Sum.inr u) p4.md.hd, ?_⟩
      obtain ⟨a, ea, ha⟩ : ∃ a, (valV B.dk (.inr u)).getD (.ref b2) = .ref a ∧ upd H3 b2 (.lst []) a = some (.lst ((S.done u).map nV)) := by
        rcases p4.md.vd u with ⟨a, q1, q2, _⟩ | ⟨q1, q2⟩
        · exact ⟨a, by rw [q1]; rfl, q2⟩
        · refine ⟨b2, by rw [q1]; rfl, ?_⟩
          rw [q2]
          exact upd_same
      rw [ea]
      generalize upd H3 b2 (.lst []) = H4 at p4 ha ⊢
      have zd := p4.md.z5 u
      refine ⟨_, rfl, (by show 1 ≤ sizeLine; decide), fun b3 j3 => ?_⟩
      have p5 := p4.same (same_new (Same.refl _) j3 (o := .lst [nV (S.utop u)]))
      have nb : a ≠ b3 := ne_of_none ha j3
      refine ⟨a, b3, _, _, rfl, rfl, (by rw [upd_ne nb]; exact ha), upd_same, line_of (by rw [List.length_map]; show _ + 1 ≤ _; omega), fun b4 j4 => ?_⟩
      have e6 : (S.done u).map nV ++ [nV ((S.undone u).getLastD 0)] = (S.done u ++ [S.utop u]).map nV := by rw [List.map_append]; rfl
      have e6' : upd (upd H4 b3 (.lst [nV (S.utop u)])) b4 (.lst ((S.done u).map nV ++ [nV ((S.undone u).getLastD 0)])) = upd (upd H4 b3 (.lst [nV (S.utop u)])) b4 (.lst ((S.done u ++ [S.utop u]).map nV)) := by rw [e6]
      refine e6' ▸ ?_
      have j4' : upd H4 b3 (.lst [nV (S.utop u)]) b4 = none := j4
      generalize upd H4 b3 (.lst [nV (S.utop u)]) = H5 at p5 j4' ⊢
      have p6 := p5.add j4' (.lst ((S.done u ++ [S.utop u]).map nV))
      have v6 : upd H5 b4 (.lst ((S.done u ++ [S.utop u]).map nV)) b4 = some (.lst ((S.done u ++ [S.utop u]).map nV)) := upd_same
      generalize upd H5 b4 (.lst ((S.done u ++ [S.utop u]).map nV)) = H6 at p6 v6 ⊢
      have z6 := p6.md.z1
      refine ⟨_, rfl, _, rfl, m, _, rfl, dg p6.md.hm p6.md.kd, _, rfl, B.d, _, rfl, DPut.k (k := Sum.inr u) p6.md.hd (line_lt (by omega)), ?_⟩
      have p7 := p6.putD u v6 (.inr rfl) (by rw [List.length_append, List.length_singleton]; omega) (by omega)
      generalize upd H6 B.d (.dK (putK B.dk (.inr u) (.ref b4))) = H7 at p7 ⊢
      -- shown
      have hs7 := p7.md.kv .shown
      have h7 : H7 (B.ad .shown) = some (.lst (shL S)) := hs7.2.1
      have lenS : (shL S).length = S.letters.length := by unfold shL; rw [List.length_map, List.length_range]
      have zs : (shL S).length ≤ c := he.z3 .shown
      have ks7 : valV B.mk_ (.inr ("shown" : Str)) = some (.ref (B.ad .shown)) := hs7.1
      refine ⟨_, rfl, m, _, rfl, dg p7.md.hm ks7, _, rfl, _, rfl, B.ad .shown, _, rfl, .of h7, fun b5 j5 => ?_⟩
      have e7 : cutV (shL S) none (some (nV2 (S.undone u))) = (shL S).take (S.utop u) := cut_take (shL S) (i := S.utop u) (by rw [lenS]; omega)
      refine (congrArg (fun xs => upd H7 b5 (.lst xs)) e7) ▸ ?_
      have p8 := p7.same (same_new (Same.refl _) j5 (o := .lst ((shL S).take (S.utop u))))
      have v8 : upd H7 b5 (.lst ((shL S).take (S.utop u))) b5 = some (.lst ((shL S).take (S.utop u))) := upd_same
      generalize upd H7 b5 (.lst ((shL S).take (S.utop u))) = H8 at p8 v8 ⊢
      refine ⟨_, rfl, (by show 1 ≤ sizeLine; decide), fun b6 j6 => ?_⟩
      have n56 : b5 ≠ b6 := ne_of_none v8 j6
      refine ⟨b5, b6, _, _, rfl, rfl, (by rw [upd_ne n56]; exact v8), upd_same, line_of (by rw [List.length_take]; show _ + 1 ≤ _; omega), fun b7 j7 => ?_⟩
      have p9 := (p8.same (same_new (Same.refl _) j6 (o := .lst [.bl true]))).same (same_new (Same.refl _) j7 (o := .lst ((shL S).take (S.utop u) ++ [.bl true])))
      have v9 : upd (upd H8 b6 (.lst [.bl true])) b7 (.lst ((shL S).take (S.utop u) ++ [.bl true])) b7 = some (.lst ((shL S).take (S.utop u) ++ [.bl true])) := upd_same
      generalize upd (upd H8 b6 (.lst [.bl true])) b7 (.lst ((shL S).take (S.utop u) ++ [.bl true])) = H9 at p9 v9 ⊢
      have h9 : H9 (B.ad .shown) = some (.lst (shL S)) := (p9.md.kv .shown).2.1
      refine ⟨_, rfl, m, _, rfl, dg p9.md.hm ks7, _, rfl, _, _, rfl, rfl, _, rfl, B.ad .shown, _, rfl, .of h9, fun b8 j8 => ?_⟩
      have e9 : cutV (shL S) (some (nV2 (S.undone u) + 1)) none = (shL S).drop (S.utop u + 1) := by
        have q := cut_drop (shL S) (i := S.utop u + 1) (by rw [lenS]; omega)
        rw [← q]
        rfl
      refine (congrArg (fun xs => upd H9 b8 (.lst xs)) e9) ▸ ?_
      have n78 : b7 ≠ b8 := ne_of_none v9 j8
      refine ⟨b7, b8, _, _, rfl, rfl, (by rw [upd_ne n78]; exact v9), upd_same, line_of (by rw [List.length_append, List.length_take, List.length_drop]; show _ + 1 + _ ≤ _; omega), fun b9 j9 => ?_⟩
      have p10 := p9.same (same_new (Same.refl _) j8 (o := .lst ((shL S).drop (S.utop u + 1))))
      have j9' : upd H9 b8 (.lst ((shL S).drop (S.utop u + 1))) b9 = none := j9
      generalize upd H9 b8 (.lst ((shL S).drop (S.utop u + 1))) = H10 at p10 j9' ⊢
      have p11 := p10.add j9' (.lst ((shL S).take (S.utop u) ++ [.bl true] ++ (shL S).drop (S.utop u + 1)))
      have v11 : upd H10 b9 (.lst ((shL S).take (S.utop u) ++ [.bl true] ++ (shL S).drop (S.utop u + 1))) b9 = some (.lst ((shL S).take (S.utop u) ++ [.bl true] ++ (shL S).drop (S.utop u + 1))) := upd_same
      generalize upd H10 b9 (.lst ((shL S).take (S.utop u) ++ [.bl true] ++ (shL S).drop (S.utop u + 1))) = H11 at p11 v11 ⊢
      have z11 := p11.md.z0
      refine ⟨_, rfl, m, _, rfl, DPut.k (k := Sum.inr ("shown" : Str)) p11.md.hm (line_lt (by omega)), ?_⟩
      have p12 := p11.putM .shown v11 (.inr rfl) (by rw [List.length_append, List.length_append, List.length_take, List.length_drop]; show _ + 1 + _ ≤ _; omega) (by omega)
      have md := p12.md
      rw [mct_redo hok hd] at md
      exact k _ _ p12.off p12.gr ⟨⟨_, md.up (by omega) (by omega)⟩, hok.redo hd⟩
end
end K54
namespace K54
open PySem PySem.Spec PyProof.Rows L2
/-! ### actions -/
inductive Act
  | undo (u : Str)
  | redo (u : Str)
  | add (u : Str) (l : Int)
  | ins (u : Str) (pos : Nat) (l : Int)
def Act.v : Act → List V
  | .undo u => [.str "undo", .str u]
  | .redo u => [.str "redo", .str u]
  | .add u l => [.str "add", .str u, .int l]
  | .ins u pos l => [.str "insert", .str u, .int (pos : Nat), .int l]
def Act.Ok (n : Nat) (S : Ed Str) : Act → Prop
  | .undo u => u ∈ users
  | .redo u => u ∈ users
  | .add u l => u ∈ users ∧ 0 ≤ l ∧ l + 2 ≤ (n : Int)
  | .ins u pos l => u ∈ users ∧ pos ≤ S.shown.length ∧ 0 ≤ l ∧ l + 2 ≤ (n : Int)
def Act.go (S : Ed Str) : Act → Ed Str
  | .undo u => if S.done u = [] then S else S.undo u
  | .redo u => if S.undone u = [] then S else S.redo u
  | .add u l => S.ins u S.shown.length l
  | .ins u pos l => S.ins u pos l
def Act.out (S : Ed Str) : Act → Option (Str × Str)
  | .undo u => if S.done u = [] then some ("undo", u) else none
  | .redo u => if S.undone u = [] then some ("redo", u) else none
  | .add _ _ => none
  | .ins _ _ _ => none
def RetV (H : Hp) (v : V) : Option (Str × Str) → Prop
  | none => v = .non
  | some p => ∃ t, v = .ref t ∧ H t = some (.tup [.str p.1, .str p.2])
theorem ne_str {a b : Str} (h : a ≠ b) : decide (V.str a = V.str b) = false := decide_eq_false fun e => h (by injection e)
theorem eq_str (a : Str) : decide (V.str a = V.str a) = true := decide_eq_true rfl
theorem iteN {a b : Str} {A B : Prop} (h : a ≠ b) (q : B) : if decide (V.str a = V.str b) = true then A else B := by rw [ne_str h]; exact iteF q
theorem iteY {a : Str} {A B : Prop} (q : A) : if decide (V.str a = V.str a) = true then A else B := by rw [eq_str a]; exact iteT q
/-- o.m(e, ..), an error's wish by the slots -/
def tMethE (C : Addr) (m : Str) (sp : Sp) (E : L2.St → XK) (ta : TE) (t : TA) : TE := fun σ H Q => ta σ H fun x H1 => ∃ a dx fs, x = .ref a ∧ H1 a = some (.ins C dx fs) ∧ fs.lookup m = none ∧ t σ H1 fun vs H2 => sp (x :: vs) H2 Q (E σ)
theorem pe_methE {X : Cx} {CX : CXT} {k : Nat} {f C : Addr} {fd : FuncData} {ps : List Str} {sp : Sp} {E : L2.St → XK} {m : Str} {pos apos : Pos} {o e : Expr} {es : List Expr} {ta : TE} {t : TA} {pl : Sem Bool} (he : PE X o ta) (c : Cls X.K C) (hm : Meth X.K C m f)
    (F : FnOk X.prog X.w X.K X.mg X.base CX k f fd ps sp) (hr : Room k X.A) (hb : Binds X.K fd ps []) (hx : ∀ σ, PassesAt CX X σ (E σ)) (ha : PA X (e :: es) t)
    (hst : starEach (e :: es) X.env = (false, eval e X.env) :: starEach es X.env := by rfl) (hpl : (backTo pos (starEach es X.env)).any (·.1) = false := by rfl)
    (ht : eval (.Call (.Attribute o m apos) (e :: es) [] pos) X.env = (do
      let ov ← eval o X.env
      standAt apos.atName
      let (f, first) ← holding [ov] (getMethod ov m pl)
      callWith pos f first (backTo pos (starEach (e :: es) X.env)) (backToKw pos (keywordEach [] X.env))) := by rfl) :
    PE X (.Call (.Attribute o m apos) (e :: es) [] pos) (tMethE C m sp E ta t) := by
  refine ⟨fun pins s σ H Q I h => ?_⟩
  refine PySem.W.methodCall_KW (pl := pl) (thn (he.run pins s σ H _ I h) fun u s1 ⟨x, H1, I1, rx, a, dx, fs, ex, ea, l, q⟩ => ?_) ht
  subst ex
  obtain rfl : u = Value.ref a := rx
  refine getmeth_ok I1 ea c hm l ?_
  refine PySem.W.callWith_K (first := [.ref a]) (h₀ := X.base) I.ok.mod.kin hm.kp (thn (ha.run pos pins s1 σ H1 _ I1 q) fun us s2 ⟨vs, H2, I2, r, q2⟩ => ⟨I2.kIn, ?_⟩) hst hpl
  exact run_fnS (us := .ref a :: us) (vs := .ref a :: vs) F hr hb (hx σ) I2 (.cons rfl r) q2
theorem EdAt.up {K : PySem.W.Frag} {H : Hp} {e : Addr} {n : Nat} {S : Ed Str} {F : Addr → Prop} {c c' : Nat} (E : EdAt K H e n S F c) (h : c ≤ c') (h' : c' ≤ 50000) : EdAt K H e n S F c' := let ⟨A, q, b, o⟩ := E; ⟨A, q.up h h', b, o⟩
theorem ModAt.up {K : PySem.W.Frag} {H : Hp} {e : Addr} {n : Nat} {S : Ed Str} {F : Addr → Prop} {c c' : Nat} (E : ModAt K H e n S F c) (h : c ≤ c') (h' : c' ≤ 50000) : ModAt K H e n S F c' := let ⟨⟨A, q⟩, o⟩ := E; ⟨⟨A, q.up h h'⟩, o⟩
theorem EdAt.ok {K : PySem.W.Frag} {H : Hp} {e : Addr} {n : Nat} {S : Ed Str} {F : Addr → Prop} {c : Nat} (E : EdAt K H e n S F c) : S.Ok := let ⟨_, _, _, o⟩ := E; o
section
variable {P : Program} {w : World} {K : PySem.W.Frag} {mg : Str → Option Value} {ex : PySem.W.Frag → Bool} {base : Heap}
def spDo (K : PySem.W.Frag) : Sp := fun vs H Q _ => ∃ (b t : Addr) (n : Nat) (S : Ed Str) (F : Addr → Prop) (c : Nat) (a : Act), vs = [.ref b, .ref t] ∧ H t = some (.tup a.v) ∧ EdAt K H b n S F c ∧ a.Ok n S ∧ c + 6 ≤ 50000 ∧
  ∀ v H' F', Off F H H' → Grow F F' H → EdAt K H' b n (a.go S) F' (c + 6) → RetV H' v (a.out S) → Q v H'
theorem ok_do (T : Top K mg ex) (G : Ers K) : FnOk P w K mg base CX0 5 (He.fAd K a_law_do) (fdOf K a_law_do) ["_law_board", "_law_action_here"] (spDo K) := by
  refine fok T.f_law_do sc_law_do (fun vs H Q E h => ?_) (fun cdv A outer s H vs Q E hr h => ?_)
  · obtain ⟨_, _, _, _, _, _, _, rfl, _⟩ := h
    rfl
  · obtain ⟨b, t, n, S, F, c, a, rfl, ht, hE, hok, hc, k⟩ := h
    have GU : FnOk P w K mg base (L2.CX P w) 3 (He.ma K (cEd K) "undo") (fdOf K a_Editor_undo) ["self", "user"] (spUndo K) := ok_undo T G
    have GR : FnOk P w K mg base (L2.CX P w) 3 (He.ma K (cEd K) "redo") (fdOf K a_Editor_redo) ["self", "user"] (spRedo K) := ok_redo T G
    have GA : FnOk P w K mg base CX0 4 (He.ma K (cEd K) "add") (fdOf K a_Editor_add) ["self", "user", "letter"] (spAdd K) := ok_add T
    have GI : FnOk P w K mg base CX0 3 (He.ma K (cEd K) "insert") (fdOf K a_Editor_insert) ["self", "user", "position", "letter"] (spIns K) := ok_ins T
    refine ⟨_, pss_one (ps_tryas (i := 2) (Wout := fun _ _ _ _ => False) rfl rfl sc_law_do.nd rfl rfl takes0
      (fun W pn xe tk _ => pss_cons (ps_if (pt_cmpR op_eq (pe_ix (ixt_K K) (pv 1) pe_int (fun _ _ => rfl)) pe_str (nomark _))
          (pss_one (ps_ret (pe_meth (pv 0) T.cl_Editor T.me_Editor_add GA hr T.b_Editor_add .nil pass0 (pa_cons (pe_ix (ixt_K K) (pv 1) pe_int (fun _ _ => rfl)) (pa_cons (pe_ix (ixt_K K) (pv 1) pe_int (fun _ _ => rfl)) pa_nil))))) pss_nil) <|
        pss_cons (ps_if (pt_cmpR op_eq (pe_ix (ixt_K K) (pv 1) pe_int (fun _ _ => rfl)) pe_str (nomark _))
          (pss_one (ps_ret (pe_meth (pv 0) T.cl_Editor T.me_Editor_insert GI (hr.mono (by decide)) T.b_Editor_insert .nil pass0 (pa_cons (pe_ix (ixt_K K) (pv 1) pe_int (fun _ _ => rfl)) (pa_cons (pe_ix (ixt_K K) (pv 1) pe_int (fun _ _ => rfl)) (pa_cons (pe_ix (ixt_K K) (pv 1) pe_int (fun _ _ => rfl)) pa_nil)))))) pss_nil) <|
        pss_one (ps_ret (pe_ifExp (pt_cmpR op_eq (pe_ix (ixt_K K) (pv 1) pe_int (fun _ _ => rfl)) pe_str (nomark _))
          (pe_methE (E := WE W) (pv 0) T.cl_Editor T.me_Editor_undo GU (hr.mono (by decide)) T.b_Editor_undo (fun σ => passAt tk σ) (pa_cons (pe_ix (ixt_K K) (pv 1) pe_int (fun _ _ => rfl)) pa_nil))
          (pe_methE (E := WE W) (pv 0) T.cl_Editor T.me_Editor_redo GR (hr.mono (by decide)) T.b_Editor_redo (fun σ => passAt tk σ) (pa_cons (pe_ix (ixt_K K) (pv 1) pe_int (fun _ _ => rfl)) pa_nil)))))
      (HdAs.cons ⟨by rfl, by decide, Or.inl T.g_NothingToUndo⟩ (fun a oe cls d pn hz hf => pss_one (ps_ret (pe_tup (pa_cons pe_str (pa_cons (pe_xf G.u.xf G.u.no hz hf (pv 2)) pa_nil)))))
      (HdAs.cons ⟨by rfl, by decide, Or.inl T.g_NothingToRedo⟩ (fun a oe cls d pn hz hf => pss_one (ps_ret (pe_tup (pa_cons pe_str (pa_cons (pe_xf G.r.xf G.r.no hz hf (pv 2)) pa_nil)))))
      HdAs.nil))), ?_⟩
    have hE0 := hE
    obtain ⟨B, he, hkb, hS⟩ := hE0
    have sameK : ∀ (H' : Hp) (tt : Addr) (p : Str × Str), Same H H' → a.go S = S → a.out S = some p → H' tt = none → Q (.ref tt) (upd H' tt (.tup [.str p.1, .str p.2])) := fun H' tt p s' e1 e2 htt => by
      have s2 := same_new s' htt (o := .tup [.str p.1, .str p.2])
      refine k (.ref tt) _ F (fun b o _ q => s2 b o q) ⟨fun _ q => q, fun _ q => .inl q⟩ ?_ ?_
      · rw [e1]
        exact (hE.same s2).up (by omega) (by omega)
      · rw [e2]
        exact ⟨tt, rfl, upd_same⟩
    cases a with
    | undo u =>
      refine ⟨_, rfl, t, _, 0, _, rfl, rfl, .of ht, rfl, rfl, _, rfl, iteN (by decide) ?_⟩
      refine ⟨_, rfl, t, _, 0, _, rfl, rfl, .of ht, rfl, rfl, _, rfl, iteN (by decide) ?_⟩
      refine ⟨_, rfl, t, _, 0, _, rfl, rfl, .of ht, rfl, rfl, _, rfl, iteY ?_⟩
      refine ⟨_, rfl, b, B.dx, _, rfl, he.ob, eF_undo _ _ _ _ _ _ _, _, rfl, t, _, 1, _, rfl, rfl, .of ht, rfl, b, n, S, F, c, u, rfl, hE, users_name hok, by omega, fun hd d H' s' hx => ?_, fun hd H' F' o g E' => ?_⟩
      · refine ⟨true, G.u.sf, fun _ a0 h0 => ?_, fun q => Bool.noConfusion q⟩
        exact ⟨_, rfl, rfl, rfl, d, _, _, rfl, hx, by kernel_rfl, (by show 2 ≤ sizeLine; decide), fun tt htt => sameK H' tt ("undo", u) s' (if_pos hd) (if_pos hd) htt⟩
      · refine k .non H' F' o g ?_ ?_
        · rw [show (Act.undo u).go S = S.undo u from if_neg hd]
          exact E'.up (by omega) (by omega)
        · rw [show (Act.undo u).out S = none from if_neg hd]
          rfl
    | redo u =>
      refine ⟨_, rfl, t, _, 0, _, rfl, rfl, .of ht, rfl, rfl, _, rfl, iteN (by decide) ?_⟩
      refine ⟨_, rfl, t, _, 0, _, rfl, rfl, .of ht, rfl, rfl, _, rfl, iteN (by decide) ?_⟩
      refine ⟨_, rfl, t, _, 0, _, rfl, rfl, .of ht, rfl, rfl, _, rfl, iteN (by decide) ?_⟩
      refine ⟨_, rfl, b, B.dx, _, rfl, he.ob, eF_redo _ _ _ _ _ _ _, _, rfl, t, _, 1, _, rfl, rfl, .of ht, rfl, b, n, S, F, c, u, rfl, hE, users_name hok, by omega, fun hd d H' s' hx => ?_, fun hd H' F' o g E' => ?_⟩
      · refine ⟨false, G.ru, fun q => Bool.noConfusion q, fun _ => ⟨true, G.r.sf, fun _ a0 h0 => ?_, fun q => Bool.noConfusion q⟩⟩
        exact ⟨_, rfl, rfl, rfl, d, _, _, rfl, hx, by kernel_rfl, (by show 2 ≤ sizeLine; decide), fun tt htt => sameK H' tt ("redo", u) s' (if_pos hd) (if_pos hd) htt⟩
      · refine k .non H' F' o g ?_ ?_
        · rw [show (Act.redo u).go S = S.redo u from if_neg hd]
          exact E'.up (by omega) (by omega)
        · rw [show (Act.redo u).out S = none from if_neg hd]
          rfl
    | add u l =>
      obtain ⟨o1, o2, o3⟩ := hok
      refine ⟨_, rfl, t, _, 0, _, rfl, rfl, .of ht, rfl, rfl, _, rfl, iteY ?_⟩
      refine ⟨_, rfl, b, B.dx, _, rfl, he.ob, eF_add _ _ _ _ _ _ _, _, rfl, t, _, 1, _, rfl, rfl, .of ht, rfl, _, rfl, t, _, 2, _, rfl, rfl, .of ht, rfl, b, n, S, F, c, u, l, rfl, hE, users_name o1, o2, o3, hc, fun H' F' o g E' => k .non H' F' o g E' rfl⟩
    | ins u pos l =>
      obtain ⟨o1, o2, o3, o4⟩ := hok
      refine ⟨_, rfl, t, _, 0, _, rfl, rfl, .of ht, rfl, rfl, _, rfl, iteN (by decide) ?_⟩
      refine ⟨_, rfl, t, _, 0, _, rfl, rfl, .of ht, rfl, rfl, _, rfl, iteY ?_⟩
      refine ⟨_, rfl, b, B.dx, _, rfl, he.ob, eF_insert _ _ _ _ _ _ _, _, rfl, t, _, 1, _, rfl, rfl, .of ht, rfl, _, rfl, t, _, 2, _, rfl, rfl, .of ht, rfl, _, rfl, t, _, 3, _, rfl, rfl, .of ht, rfl, b, n, S, F, c, u, pos, l, rfl, hE, users_name o1, o2, o3, o4, hc, fun H' F' o g E' => k .non H' F' o g E' rfl⟩
end
end K54
namespace K54
open PySem PySem.Spec PyProof.Rows L2
theorem auth_users {S : Ed Str} (hok : S.Ok) (h : ∀ x ∈ S.owners, x ∈ users) : ∀ x ∈ S.auth, x ∈ users := fun x hx => by
  obtain ⟨i, hi, rfl⟩ := List.mem_map.mp hx
  have hl : i < S.owners.length := by rw [hok.ol]; exact shown_lt hok hi
  refine h _ ?_
  unfold Ed.own
  rw [List.getD_eq_getElem?_getD, List.getElem?_eq_getElem hl]
  exact List.getElem_mem hl
section
variable {P : Program} {w : World} {K : PySem.W.Frag} {mg : Str → Option Value} {ex : PySem.W.Frag → Bool} {base : Heap}
def spMNew (K : PySem.W.Frag) : Sp := fun vs H Q _ => ∃ n : Nat, vs = [.int (n : Nat)] ∧ ∀ m H' G, Same H H' → ModAt K H' m n Ed.new G 0 → (∀ b, G b → H b = none) → Q (.ref m) H'
theorem ok_mnew (T : Top K mg ex) : FnOk P w K mg base CX0 1 (He.fAd K a_law_new_model) (fdOf K a_law_new_model) ["_law_width"] (spMNew K) := by
  refine fok T.f_law_new_model sc_law_new_model (fun vs H Q E h => ?_) (fun cdv A outer s H vs Q E hr h => ?_)
  · obtain ⟨_, rfl, _⟩ := h
    rfl
  · obtain ⟨n, rfl, k⟩ := h
    refine ⟨_, pss_one (ps_ret (pe_disp (pps_cons pe_str (pv 0) (pps_cons pe_str (pe_lst pa_nil) (pps_cons pe_str (pe_lst pa_nil) (pps_cons pe_str (pe_lst pa_nil) (pps_cons pe_str (pe_lst pa_nil) (pps_cons pe_str pe_dnewK (pps_cons pe_str pe_dnewK pps_nil))))))) (by rfl) (by rfl) (fun z => by cases z) (by decide))), ?_⟩
    refine fun p hp => ⟨_, rfl, Nat.zero_le _, fun a1 g1 => ⟨Nat.zero_le _, fun a2 g2 => ⟨Nat.zero_le _, fun a3 g3 => ⟨Nat.zero_le _, fun a4 g4 => fun a5 g5 => fun a6 g6 => ?_⟩⟩⟩⟩
    have s0 := same_new (Same.refl H) hp (o := .dK [])
    have s1 := same_new s0 g1 (o := .lst [])
    have s2 := same_new s1 g2 (o := .lst [])
    have s3 := same_new s2 g3 (o := .lst [])
    have s4 := same_new s3 g4 (o := .lst [])
    have s5 := same_new s4 g5 (o := .dK [])
    have s6 := same_new s5 g6 (o := .dK [])
    have n6 : ∀ {b : Addr} {o : HO}, upd (upd (upd (upd (upd (upd H p (.dK [])) a1 (.lst [])) a2 (.lst [])) a3 (.lst [])) a4 (.lst [])) a5 (.dK []) b = some o → upd (upd (upd (upd (upd (upd (upd H p (.dK [])) a1 (.lst [])) a2 (.lst [])) a3 (.lst [])) a4 (.lst [])) a5 (.dK [])) a6 (.dK []) b = some o := fun q => same_new (Same.refl _) g6 _ _ q
    have n5 : ∀ {b : Addr} {o : HO}, upd (upd (upd (upd (upd H p (.dK [])) a1 (.lst [])) a2 (.lst [])) a3 (.lst [])) a4 (.lst []) b = some o → upd (upd (upd (upd (upd (upd (upd H p (.dK [])) a1 (.lst [])) a2 (.lst [])) a3 (.lst [])) a4 (.lst [])) a5 (.dK [])) a6 (.dK []) b = some o := fun q => n6 (same_new (Same.refl _) g5 _ _ q)
    have n4 : ∀ {b : Addr} {o : HO}, upd (upd (upd (upd H p (.dK [])) a1 (.lst [])) a2 (.lst [])) a3 (.lst []) b = some o → upd (upd (upd (upd (upd (upd (upd H p (.dK [])) a1 (.lst [])) a2 (.lst [])) a3 (.lst [])) a4 (.lst [])) a5 (.dK [])) a6 (.dK []) b = some o := fun q => n5 (same_new (Same.refl _) g4 _ _ q)
    have n3 : ∀ {b : Addr} {o : HO}, upd (upd (upd H p (.dK [])) a1 (.lst [])) a2 (.lst []) b = some o → upd (upd (upd (upd (upd (upd (upd H p (.dK [])) a1 (.lst [])) a2 (.lst [])) a3 (.lst [])) a4 (.lst [])) a5 (.dK [])) a6 (.dK []) b = some o := fun q => n4 (same_new (Same.refl _) g3 _ _ q)
    have n2 : ∀ {b : Addr} {o : HO}, upd (upd H p (.dK [])) a1 (.lst []) b = some o → upd (upd (upd (upd (upd (upd (upd H p (.dK [])) a1 (.lst [])) a2 (.lst [])) a3 (.lst [])) a4 (.lst [])) a5 (.dK [])) a6 (.dK []) b = some o := fun q => n3 (same_new (Same.refl _) g2 _ _ q)
    have n1 : ∀ {b : Addr} {o : HO}, upd H p (.dK []) b = some o → upd (upd (upd (upd (upd (upd (upd H p (.dK [])) a1 (.lst [])) a2 (.lst [])) a3 (.lst [])) a4 (.lst [])) a5 (.dK [])) a6 (.dK []) b = some o := fun q => n2 (same_new (Same.refl _) g1 _ _ q)
    have hp6 := n1 (upd_same (H := H) (a := p) (o := .dK []))
    have h1 := n2 (upd_same (a := a1) (o := .lst []))
    have h2 := n3 (upd_same (a := a2) (o := .lst []))
    have h3 := n4 (upd_same (a := a3) (o := .lst []))
    have h4 := n5 (upd_same (a := a4) (o := .lst []))
    have h5 := n6 (upd_same (a := a5) (o := .dK []))
    have h6 : upd (upd (upd (upd (upd (upd (upd H p (.dK [])) a1 (.lst [])) a2 (.lst [])) a3 (.lst [])) a4 (.lst [])) a5 (.dK [])) a6 (.dK []) a6 = some (.dK []) := upd_same
    have m15 : p ≠ a5 := fun q => by subst q; have w := same_new (same_new (same_new (same_new (Same.refl _) g1) g2) g3) g4 (o := .lst []) _ _ (upd_same (H := H) (a := p) (o := .dK [])); rw [g5] at w; cases w
    have m16 : p ≠ a6 := fun q => by subst q; have w := same_new (same_new (same_new (same_new (same_new (Same.refl _) g1) g2) g3) g4) g5 (o := .dK []) _ _ (upd_same (H := H) (a := p) (o := .dK [])); rw [g6] at w; cases w
    have m56 : a5 ≠ a6 := ne_of_none upd_same g6
    have f6 : H a6 = none := Same.free s5 g6
    have f5 : H a5 = none := Same.free s4 g5
    have f4 : H a4 = none := Same.free s3 g4
    have f3 : H a3 = none := Same.free s2 g3
    have f2 : H a2 = none := Same.free s1 g2
    have f1 : H a1 = none := Same.free s0 g1
    generalize upd (upd (upd (upd (upd (upd (upd H p (.dK [])) a1 (.lst [])) a2 (.lst [])) a3 (.lst [])) a4 (.lst [])) a5 (.dK [])) a6 (.dK []) = H6 at s6 hp6 h1 h2 h3 h4 h5 h6 ⊢
    refine ⟨hp6, [(.inr "width", .int (n : Nat)), (.inr "order", .ref a1), (.inr "letters", .ref a2), (.inr "owners", .ref a3), (.inr "shown", .ref a4), (.inr "done", .ref a5), (.inr "undone", .ref a6)], rfl, (by show 7 ≤ 15; decide), ?_⟩
    have keep : ∀ {b : Addr} {o : HO} {x : HO}, H6 b = some o → b ≠ p → upd H6 p x b = some o := fun q nb => by rw [upd_ne nb]; exact q
    have nl : ∀ {b : Addr} {xs : List V}, H6 b = some (.lst xs) → b ≠ p := fun q => ne_of q hp6 (by intro z; cases z)
    have sF : Same H (upd H6 p (.dK (mergeK [] [(.inr "width", .int (n : Nat)), (.inr "order", .ref a1), (.inr "letters", .ref a2), (.inr "owners", .ref a3), (.inr "shown", .ref a4), (.inr "done", .ref a5), (.inr "undone", .ref a6)]))) := fun b o q => by
      rw [upd_ne (ne_of_none q hp)]
      exact s6 _ _ q
    refine k p _ (fun b => b = p ∨ b = a1 ∨ b = a2 ∨ b = a3 ∨ b = a4 ∨ b = a5 ∨ b = a6) sF
      ⟨⟨⟨fun x => match x with | .order => a1 | .letters => a2 | .owners => a3 | .shown => a4, a5, a6, mergeK [] [(.inr "width", .int (n : Nat)), (.inr "order", .ref a1), (.inr "letters", .ref a2), (.inr "owners", .ref a3), (.inr "shown", .ref a4), (.inr "done", .ref a5), (.inr "undone", .ref a6)], [], []⟩, ?_⟩, Ed.new_ok⟩ ?_
    · refine { hm := upd_same, kn := by kernel_rfl, kv := fun x => ?_, kd := by kernel_rfl, ku := by kernel_rfl, hd := keep h5 m15.symm, hu := keep h6 m16.symm, n1 := m15, n2 := m16, n3 := m56, vd := fun v => .inr ⟨rfl, rfl⟩, vu := fun v => .inr ⟨rfl, rfl⟩, gm := .inl rfl, gd := by simp, gu := by simp, al := fun b hb => ?_, z0 := by show 7 ≤ 0 + 20; decide, z1 := Nat.le_refl _, z2 := Nat.le_refl _, z3 := fun x => ?_, z5 := fun v => Nat.le_refl _, z6 := fun v => Nat.le_refl _, zc := by decide }
      · cases x with
        | order => exact ⟨by kernel_rfl, keep h1 (nl h1), by simp⟩
        | letters => exact ⟨by kernel_rfl, keep h2 (nl h2), by simp⟩
        | owners => exact ⟨by kernel_rfl, keep h3 (nl h3), by simp⟩
        | shown => exact ⟨by kernel_rfl, keep h4 (nl h4), by simp⟩
      · rcases hb with q | q | q | q | q | q | q <;> subst q
        · exact ⟨_, upd_same⟩
        · exact ⟨_, keep h1 (nl h1)⟩
        · exact ⟨_, keep h2 (nl h2)⟩
        · exact ⟨_, keep h3 (nl h3)⟩
        · exact ⟨_, keep h4 (nl h4)⟩
        · exact ⟨_, keep h5 m15.symm⟩
        · exact ⟨_, keep h6 m16.symm⟩
      · cases x <;> exact Nat.le_refl _
    · rintro b (q | q | q | q | q | q | q) <;> subst q <;> assumption
def spChk (K : PySem.W.Frag) : Sp := fun vs H Q _ => ∃ (b m : Addr) (n n' : Nat) (S : Ed Str) (F G : Addr → Prop) (c c' : Nat), vs = [.ref b, .ref m] ∧ EdAt K H b n S F c ∧ ModAt K H m n' S G c' ∧ (∀ x ∈ S.owners, x ∈ users) ∧ ∀ H', Same H H' → Q (.bl true) H'
theorem ok_chk (T : Top K mg ex) : FnOk P w K mg base CX0 3 (He.fAd K a_law_check) (fdOf K a_law_check) ["_law_board", "_law_model"] (spChk K) := by
  refine fok T.f_law_check sc_law_check (fun vs H Q E h => ?_) (fun cdv A outer s H vs Q E hr h => ?_)
  · obtain ⟨_, _, _, _, _, _, _, _, _, rfl, _⟩ := h
    rfl
  · obtain ⟨b, m, n, n', S, F, G, c, c', rfl, hE, hM, hw, k⟩ := h
    refine ⟨_, pss_one (ps_ret (pe_and (pe_cmpR (op_eqD hr.units) (pe_meth0 (pv 0) T.cl_Editor T.me_Editor_word (ok_word T) hr T.b_Editor_word .nil pass0) (pe_call (ok_mword T) hr (by rfl) T.g_law_word T.f_law_word.kp T.b_law_word .nil pass0 (pa_cons (pv 1) pa_nil)) (nomark _))
      (pe_one (pe_cmpR (op_eqD hr.units) (pe_meth0 (pv 0) T.cl_Editor T.me_Editor_authors (ok_auth T) hr T.b_Editor_authors .nil pass0) (pe_call (ok_mauth T) hr (by rfl) T.g_law_authors T.f_law_authors.kp T.b_law_authors .nil pass0 (pa_cons (pv 1) pa_nil)) (nomark _))))), ?_⟩
    obtain ⟨B, he, _, hok⟩ := id hE
    refine ⟨_, rfl, b, B.dx, _, rfl, he.ob, eF_word _ _ _ _ _ _ _, b, n, S, F, c, rfl, hE, fun r1 H1 s1 _ h1 => ?_⟩
    refine ⟨_, rfl, m, n', S, G, c', rfl, hM.same s1, fun r2 H2 s2 _ h2 => ?_⟩
    refine ⟨_, _, dp_ints (.of (s2 _ _ h1)), dp_ints (.of h2), sh_lints _, sh_lints _, _, rfl, ?_⟩
    rw [eqv_lints, decide_eq_true rfl]
    have s12 := s1.trans s2
    obtain ⟨B2, he2, _, _⟩ := id (hE.same s12)
    refine iteT ⟨_, rfl, b, B2.dx, _, rfl, he2.ob, eF_authors _ _ _ _ _ _ _, b, n, S, F, c, rfl, hE.same s12, fun r3 H3 s3 _ h3 => ?_⟩
    refine ⟨_, rfl, m, n', S, G, c', rfl, hM.same (s12.trans s3), fun r4 H4 s4 _ h4 => ?_⟩
    have sh := sh_lstrs (fun x hx => users_lay x (auth_users hok hw x hx))
    refine ⟨_, _, dp_strs (.of (s4 _ _ h3)), dp_strs (.of h4), sh, sh, ?_⟩
    rw [eqv_lstrs, decide_eq_true rfl]
    exact k _ (s12.trans (s3.trans s4))
end
end K54
namespace K54
open PySem PySem.Spec PyProof.Rows L2
section
variable {P : Program} {w : World} {K : PySem.W.Frag} {mg : Str → Option Value} {ex : PySem.W.Frag → Bool} {base : Heap}
def spExp (K : PySem.W.Frag) : Sp := fun vs H Q _ => ∃ (m t : Addr) (n : Nat) (S : Ed Str) (G : Addr → Prop) (c : Nat) (a : Act), vs = [.ref m, .ref t] ∧ H t = some (.tup a.v) ∧ ModAt K H m n S G c ∧ a.Ok n S ∧ c + 6 ≤ 50000 ∧
  ∀ v H' G', Off G H H' → Grow G G' H → ModAt K H' m n (a.go S) G' (c + 6) → RetV H' v (a.out S) → (∀ t, v = .ref t → H t = none) → Q v H'
theorem ok_exp (T : Top K mg ex) : FnOk P w K mg base CX0 3 (He.fAd K a_law_expected) (fdOf K a_law_expected) ["_law_model", "_law_action_here"] (spExp K) := by
  refine fok T.f_law_expected sc_law_expected (fun vs H Q E h => ?_) (fun cdv A outer s H vs Q E hr h => ?_)
  · obtain ⟨_, _, _, _, _, _, _, rfl, _⟩ := h
    rfl
  · obtain ⟨m, t, n, S, G, c, a, rfl, ht, hE, hok, hc, k⟩ := h
    have hu := hu_of hr
    refine ⟨_, pss_cons (ps_par (i := 2) (j := 3) rfl sc_law_expected.nd rfl rfl (by decide) rfl rfl (pa_cons (pe_ix ix_tup (pv 1) pe_int (fun _ _ => rfl)) (pa_cons (pe_ix ix_tup (pv 1) pe_int (fun _ _ => rfl)) pa_nil)) (by rfl)) <|
      pss_cons (ps_if (pt_cmpR op_eq (pv 2) pe_str (nomark _))
        (pss_one (ps_expr (pe_call (ok_mins T) hr (by rfl) T.g_law_insert T.f_law_insert.kp T.b_law_insert .nil pass0 (pa_cons (pv 0) (pa_cons (pv 3) (pa_cons (pe_callB call_len_seq (by rfl) T.z_len PySem.boot_len (pa_cons (pe_call (ok_mshown T) (hr.mono (by decide)) (by rfl) T.g_law_shown T.f_law_shown.kp T.b_law_shown .nil pass0 (pa_cons (pv 0) pa_nil)) pa_nil)) (pa_cons (pe_ix ix_tup (pv 1) pe_int (fun _ _ => rfl)) pa_nil)))))))
        (pss_one (ps_if (pt_cmpR op_eq (pv 2) pe_str (nomark _))
          (pss_one (ps_expr (pe_call (ok_mins T) hr (by rfl) T.g_law_insert T.f_law_insert.kp T.b_law_insert .nil pass0 (pa_cons (pv 0) (pa_cons (pv 3) (pa_cons (pe_ix ix_tup (pv 1) pe_int (fun _ _ => rfl)) (pa_cons (pe_ix ix_tup (pv 1) pe_int (fun _ _ => rfl)) pa_nil)))))))
          (pss_one (ps_if (pt_cmpR op_eq (pv 2) pe_str (nomark _))
            (pss_cons (ps_if (pt_cmpR (op_eqD hr.units) (pe_dget2 hu (pe_dget hu (pv 0) pe_str (fun _ _ => rfl)) (pv 3) (pe_lst pa_nil) ⟨by rfl, by rfl, by rfl, by rfl⟩) (pe_lst pa_nil) (nomark _)) (pss_one (ps_ret (pe_tup (pa_cons pe_str (pa_cons (pv 3) pa_nil))))) pss_nil) <|
             pss_one (ps_expr (pe_call (ok_mturn T) (hr.mono (by decide)) (by rfl) T.g_law_turn T.f_law_turn.kp T.b_law_turn .nil pass0 (pa_cons (pv 0) (pa_cons (pv 3) (pa_cons pe_str (pa_cons pe_str (pa_cons pe_bl pa_nil))))))))
            (pss_cons (ps_if (pt_cmpR (op_eqD hr.units) (pe_dget2 hu (pe_dget hu (pv 0) pe_str (fun _ _ => rfl)) (pv 3) (pe_lst pa_nil) ⟨by rfl, by rfl, by rfl, by rfl⟩) (pe_lst pa_nil) (nomark _)) (pss_one (ps_ret (pe_tup (pa_cons pe_str (pa_cons (pv 3) pa_nil))))) pss_nil) <|
             pss_one (ps_expr (pe_call (ok_mturn T) (hr.mono (by decide)) (by rfl) T.g_law_turn T.f_law_turn.kp T.b_law_turn .nil pass0 (pa_cons (pv 0) (pa_cons (pv 3) (pa_cons pe_str (pa_cons pe_str (pa_cons pe_bl pa_nil)))))))))))))
      <| pss_one (ps_ret pe_non), ?_⟩
    have hE0 := hE
    obtain ⟨⟨B, he⟩, hS⟩ := hE0
    have sameK : ∀ (H' : Hp) (tt : Addr) (p : Str × Str), Same H H' → a.go S = S → a.out S = some p → H' tt = none → Q (.ref tt) (upd H' tt (.tup [.str p.1, .str p.2])) := fun H' tt p s' e1 e2 htt => by
      have s2 := same_new s' htt (o := .tup [.str p.1, .str p.2])
      refine k (.ref tt) _ G (fun b o _ q => s2 b o q) ⟨fun _ q => q, fun _ q => .inl q⟩ ?_ ?_ ?_
      · rw [e1]
        exact (hE.same s2).up (by omega) (by omega)
      · rw [e2]
        exact ⟨tt, rfl, upd_same⟩
      · intro t q
        cases q
        exact Same.free s' htt
    cases a with
    | undo u =>
      refine ⟨_, rfl, t, _, 0, _, rfl, rfl, .of ht, rfl, _, rfl, t, _, 1, _, rfl, rfl, .of ht, rfl, _, _, rfl, ?_⟩
      refine ⟨_, rfl, rfl, _, rfl, iteN (by decide) ?_⟩
      refine ⟨_, rfl, rfl, _, rfl, iteN (by decide) ?_⟩
      refine ⟨_, rfl, rfl, _, rfl, iteY ?_⟩
      refine ⟨_, rfl, m, _, rfl, dg he.hm he.kd, B.d, rfl, .inl ⟨_, .inl he.hd⟩, _, rfl, Nat.zero_le _, fun z hz => ⟨_, DGet.k (k := Sum.inr u) (same_new (Same.refl _) hz _ _ he.hd), ?_⟩⟩
      obtain ⟨a, ea, ha⟩ : ∃ a, (valV B.dk (.inr u)).getD (.ref z) = .ref a ∧ upd H z (.lst []) a = some (.lst ((natI (S.done u)).map V.int)) := by
        rw [natI_map]
        rcases he.vd u with ⟨a, q1, q2, _⟩ | ⟨q1, q2⟩
        · exact ⟨a, by rw [q1]; rfl, same_new (Same.refl _) hz _ _ q2⟩
        · refine ⟨z, by rw [q1]; rfl, ?_⟩
          rw [q2]
          exact upd_same
      rw [ea]
      have s1 := same_new (Same.refl H) hz (o := .lst [])
      generalize upd H z (.lst []) = H1 at s1 ha ⊢
      refine ⟨Nat.zero_le _, fun y hy => ?_⟩
      have s2 := same_new s1 hy (o := .lst [])
      refine ⟨_, _, dp_ints (.of (same_new (Same.refl _) hy _ _ ha)), dp_ints (l := []) (.of upd_same), sh_lints _, sh_lints _, _, rfl, ?_⟩
      rw [eqv_lints]
      generalize upd H1 y (.lst []) = H2 at s2 ⊢
      by_cases hd : S.done u = []
      · rw [decide_eq_true (natI_nil.mpr hd)]
        exact iteT ⟨_, rfl, (by show 2 ≤ sizeLine; decide), fun tt htt => sameK H2 tt ("undo", u) s2 (if_pos hd) (if_pos hd) htt⟩
      · rw [decide_eq_false (fun q => hd (natI_nil.mp q))]
        refine iteF ⟨_, rfl, _, rfl, m, n, S, G, c, u, hE.same s2, hc, .inl ⟨rfl, hd, fun H' G' o g E' => ?_⟩⟩
        refine k .non H' G' (o.of_same (F' := G') s2) (g.of_same s2) ?_ ?_ (fun _ q => nomatch q)
        · rw [show (Act.undo u).go S = S.undo u from if_neg hd]
          exact E'
        · rw [show (Act.undo u).out S = none from if_neg hd]
          rfl
    | redo u =>
      refine ⟨_, rfl, t, _, 0, _, rfl, rfl, .of ht, rfl, _, rfl, t, _, 1, _, rfl, rfl, .of ht, rfl, _, _, rfl, ?_⟩
      refine ⟨_, rfl, rfl, _, rfl, iteN (by decide) ?_⟩
      refine ⟨_, rfl, rfl, _, rfl, iteN (by decide) ?_⟩
      refine ⟨_, rfl, rfl, _, rfl, iteN (by decide) ?_⟩
      refine ⟨_, rfl, m, _, rfl, dg he.hm he.ku, B.u, rfl, .inl ⟨_, .inl he.hu⟩, _, rfl, Nat.zero_le _, fun z hz => ⟨_, DGet.k (k := Sum.inr u) (same_new (Same.refl _) hz _ _ he.hu), ?_⟩⟩
      obtain ⟨a, ea, ha⟩ : ∃ a, (valV B.uk (.inr u)).getD (.ref z) = .ref a ∧ upd H z (.lst []) a = some (.lst ((natI (S.undone u)).map V.int)) := by
        rw [natI_map]
        rcases he.vu u with ⟨a, q1, q2, _⟩ | ⟨q1, q2⟩
        · exact ⟨a, by rw [q1]; rfl, same_new (Same.refl _) hz _ _ q2⟩
        · refine ⟨z, by rw [q1]; rfl, ?_⟩
          rw [q2]
          exact upd_same
      rw [ea]
      have s1 := same_new (Same.refl H) hz (o := .lst [])
      generalize upd H z (.lst []) = H1 at s1 ha ⊢
      refine ⟨Nat.zero_le _, fun y hy => ?_⟩
      have s2 := same_new s1 hy (o := .lst [])
      refine ⟨_, _, dp_ints (.of (same_new (Same.refl _) hy _ _ ha)), dp_ints (l := []) (.of upd_same), sh_lints _, sh_lints _, _, rfl, ?_⟩
      rw [eqv_lints]
      generalize upd H1 y (.lst []) = H2 at s2 ⊢
      by_cases hd : S.undone u = []
      · rw [decide_eq_true (natI_nil.mpr hd)]
        exact iteT ⟨_, rfl, (by show 2 ≤ sizeLine; decide), fun tt htt => sameK H2 tt ("redo", u) s2 (if_pos hd) (if_pos hd) htt⟩
      · rw [decide_eq_false (fun q => hd (natI_nil.mp q))]
        refine iteF ⟨_, rfl, _, rfl, m, n, S, G, c, u, hE.same s2, hc, .inr ⟨rfl, hd, fun H' G' o g E' => ?_⟩⟩
        refine k .non H' G' (o.of_same (F' := G') s2) (g.of_same s2) ?_ ?_ (fun _ q => nomatch q)
        · rw [show (Act.redo u).go S = S.redo u from if_neg hd]
          exact E'
        · rw [show (Act.redo u).out S = none from if_neg hd]
          rfl
    | add u l =>
      obtain ⟨o1, o2, o3⟩ := hok
      refine ⟨_, rfl, t, _, 0, _, rfl, rfl, .of ht, rfl, _, rfl, t, _, 1, _, rfl, rfl, .of ht, rfl, _, _, rfl, ?_⟩
      refine ⟨_, rfl, rfl, _, rfl, iteY ?_⟩
      refine ⟨_, rfl, _, rfl, _, rfl, m, n, S, G, c, rfl, hE, fun r H1 s1 f1 h1 => ?_⟩
      refine ⟨r, _, rfl, .inl (.of h1), _, rfl, t, _, 2, _, rfl, rfl, .of (s1 _ _ ht), rfl, m, n, S, G, c, u, S.shown.length, l, by rw [List.length_map]; rfl, hE.same s1, Nat.le_refl _, hc, fun H' G' o g E' => k .non H' G' (o.of_same (F' := G') s1) (g.of_same s1) E' rfl (fun _ q => nomatch q)⟩
    | ins u pos l =>
      obtain ⟨o1, o2, o3, o4⟩ := hok
      refine ⟨_, rfl, t, _, 0, _, rfl, rfl, .of ht, rfl, _, rfl, t, _, 1, _, rfl, rfl, .of ht, rfl, _, _, rfl, ?_⟩
      refine ⟨_, rfl, rfl, _, rfl, iteN (by decide) ?_⟩
      refine ⟨_, rfl, rfl, _, rfl, iteY ?_⟩
      refine ⟨_, rfl, _, rfl, _, rfl, t, _, 2, _, rfl, rfl, .of ht, rfl, _, rfl, t, _, 3, _, rfl, rfl, .of ht, rfl, m, n, S, G, c, u, pos, l, rfl, hE, o2, hc, fun H' G' o g E' => k .non H' G' o g E' rfl (fun _ q => nomatch q)⟩
end
end K54
namespace K54
open PySem PySem.Spec PyProof.Rows L2
structure PSt (p : Addr) (H H1 : Hp) : Prop where
  off : ∀ b o, b ≠ p → H b = some o → H1 b = some o
  pool : PoolAt H1 p
theorem PSt.same {p : Addr} {H H1 H2 : Hp} (s : PSt p H H1) (t : Same H1 H2) : PSt p H H2 := ⟨fun b o nb q => t _ _ (s.off b o nb q), s.pool.same t⟩
theorem PSt.take {p : Addr} {H H1 : Hp} (s : PSt p H H1) {o' : HO} (ho : ∃ a b : Int, o' = .lst [.int a, .int b] ∧ 0 ≤ a ∧ 0 ≤ b ∧ b < 2147483648) : PSt p H (upd H1 p o') :=
  ⟨fun b o nb q => by rw [upd_ne nb]; exact s.off b o nb q, let ⟨a, b, e, h⟩ := ho; ⟨a, b, by rw [upd_same, e], h⟩⟩
section
variable {P : Program} {w : World} {K : PySem.W.Frag} {mg : Str → Option Value} {ex : PySem.W.Frag → Bool} {base : Heap}
def spAct (K : PySem.W.Frag) : Sp := fun vs H Q _ => ∃ (p m : Addr) (n : Nat) (S : Ed Str) (G : Addr → Prop) (c : Nat), vs = [.ref p, .ref m] ∧ PoolAt H p ∧ ModAt K H m n S G c ∧ ¬ G p ∧ 2 ≤ n ∧ n ≤ 16 ∧ S.shown.length ≤ 900 ∧
  ∀ t (a : Act) H', (∀ b o, b ≠ p → H b = some o → H' b = some o) → H t = none → H' t = some (.tup a.v) → a.Ok n S → Q (.ref t) H'
theorem ok_act (T : Top K mg ex) : FnOk P w K mg base CX0 2 (He.fAd K a_law_action) (fdOf K a_law_action) ["_law_pool_here", "_law_model"] (spAct K) := by
  refine fok T.f_law_action sc_law_action (fun vs H Q E h => ?_) (fun cdv A outer s H vs Q E hr h => ?_)
  · obtain ⟨_, _, _, _, _, _, rfl, _⟩ := h
    rfl
  · obtain ⟨p, m, n, S, G, c, rfl, hp, hM, np, n2, n16, hS, k⟩ := h
    have hu := hu_of hr
    have GT : FnOk P w K mg base CX0 1 (He.fAd K a_law_take) (fdOf K a_law_take) ["_law_pool_here", "_law_count"] spTake := ok_take T
    refine ⟨_, pss_cons (ps_set (i := 2) sc_law_action.nd rfl (Or.inl rfl) (pe_lst (pa_cons pe_str (pa_cons pe_str (pa_cons pe_str (pa_cons pe_str (pa_cons pe_str (pa_cons pe_str (pa_cons pe_str (pa_cons pe_str pa_nil)))))))))) <|
      pss_cons (ps_set (i := 3) sc_law_action.nd rfl (Or.inl rfl) (pe_ix ix_list (pv 2) (pe_call GT hr (by rfl) T.g_law_take T.f_law_take.kp T.b_law_take .nil pass0 (pa_cons (pv 0) (pa_cons
        (pe_ix ix_list (pe_lst (pa_cons pe_int (pa_cons pe_int pa_nil))) (pe_call GT hr (by rfl) T.g_law_take T.f_law_take.kp T.b_law_take .nil pass0 (pa_cons (pv 0) (pa_cons pe_int pa_nil))) (fun _ _ => rfl)) pa_nil))) (fun _ _ => rfl))) <|
      pss_cons (ps_par (i := 4) (j := 5) rfl sc_law_action.nd rfl rfl (by decide) rfl rfl (pa_cons (pe_call GT hr (by rfl) T.g_law_take T.f_law_take.kp T.b_law_take .nil pass0 (pa_cons (pv 0) (pa_cons pe_int pa_nil))) (pa_cons (pe_dget hu (pv 1) pe_str (fun _ _ => rfl)) pa_nil)) (by rfl)) <|
      pss_cons (ps_if (pt_cmpR op_lt (pv 4) pe_int (nomark _)) (pss_one (ps_ret (pe_tup (pa_cons pe_str (pa_cons (pv 3) pa_nil))))) pss_nil) <|
      pss_cons (ps_if (PW.pt (pw_or (pt_cmpR op_lt (pv 4) pe_int (nomark _)) (pw_or1 (pt_cmpR op_lt (pv 5) pe_int (nomark _))))) (pss_one (ps_ret (pe_tup (pa_cons pe_str (pa_cons (pv 3) pa_nil))))) pss_nil) <|
      pss_cons (ps_set (i := 6) sc_law_action.nd rfl (Or.inl rfl) (pe_call GT hr (by rfl) T.g_law_take T.f_law_take.kp T.b_law_take .nil pass0 (pa_cons (pv 0) (pa_cons (pe_callB (call_min2 rfl) (by rfl) T.z_min boot_min (pa_cons (pe_op op_sub (pv 5) pe_int) (pa_cons
        (pe_ix ix_list (pe_lst (pa_cons pe_int (pa_cons pe_int pa_nil))) (pe_call GT hr (by rfl) T.g_law_take T.f_law_take.kp T.b_law_take .nil pass0 (pa_cons (pv 0) (pa_cons pe_int pa_nil))) (fun _ _ => rfl)) pa_nil))) pa_nil)))) <|
      pss_cons (ps_if (pt_cmpR op_lt (pv 4) pe_int (nomark _)) (pss_one (ps_ret (pe_tup (pa_cons pe_str (pa_cons (pv 3) (pa_cons (pv 6) pa_nil)))))) pss_nil) <|
      pss_one (ps_ret (pe_tup (pa_cons pe_str (pa_cons (pv 3) (pa_cons (pe_call GT hr (by rfl) T.g_law_take T.f_law_take.kp T.b_law_take .nil pass0 (pa_cons (pv 0) (pa_cons (pe_op op_add (pe_callB call_len_seq (by rfl) T.z_len PySem.boot_len (pa_cons (pe_call (ok_mshown T) hr (by rfl) T.g_law_shown T.f_law_shown.kp T.b_law_shown .nil pass0 (pa_cons (pv 1) pa_nil)) pa_nil)) pe_int) pa_nil))) (pa_cons (pv 6) pa_nil)))))), ?_⟩
    have two : ∀ (x y v : Int), 0 ≤ v → v < 2 → ∃ z, atI [V.int x, .int y] v = some (.int z) ∧ (z = x ∨ z = y) := fun x y v v0 v1 => by
      rcases (by omega : v = 0 ∨ v = 1) with e | e <;> subst e
      · exact ⟨x, rfl, .inl rfl⟩
      · exact ⟨y, rfl, .inr rfl⟩
    have free : ∀ {H1 : Hp} {z : Addr}, PSt p H H1 → H1 z = none → H z = none ∧ z ≠ p := fun {H1 z} s hz => by
      obtain ⟨a, b, e, _⟩ := s.pool
      have nz : z ≠ p := fun q => by rw [q, e] at hz; cases hz
      refine ⟨?_, nz⟩
      cases q : H z with
      | none => rfl
      | some o => rw [s.off z o nz q] at hz; cases hz
    have p0 : PSt p H H := ⟨fun _ _ _ q => q, hp⟩
    refine ⟨(by show 8 ≤ sizeLine; decide), fun q hq => ?_⟩
    have nq := (free p0 hq).2
    have p1 := p0.same (same_new (Same.refl _) hq (o := .lst [.str "ann", .str "bob", .str "abcdefgh", .str "z", .str "ijklmnop", .str "qrstuvwx", .str "yz", .str "m"]))
    have q1 : upd H q (.lst [.str "ann", .str "bob", .str "abcdefgh", .str "z", .str "ijklmnop", .str "qrstuvwx", .str "yz", .str "m"]) q = some (.lst (users.map V.str)) := upd_same
    generalize upd H q (.lst [.str "ann", .str "bob", .str "abcdefgh", .str "z", .str "ijklmnop", .str "qrstuvwx", .str "yz", .str "m"]) = H1 at p1 q1 ⊢
    -- user
    refine ⟨_, rfl, _, rfl, (by show 2 ≤ sizeLine; decide), fun l2 hl2 => ?_⟩
    have p2 := p1.same (same_new (Same.refl _) hl2 (o := .lst [.int 2, .int 8]))
    have nl2 := (free p1 hl2).2
    have q2 : upd H1 l2 (.lst [.int 2, .int 8]) q = some (.lst (users.map V.str)) := same_new (Same.refl _) hl2 _ _ q1
    have e2 : upd H1 l2 (.lst [.int 2, .int 8]) l2 = some (.lst [.int 2, .int 8]) := upd_same
    generalize upd H1 l2 (.lst [.int 2, .int 8]) = H2 at p2 q2 e2 ⊢
    refine ⟨_, rfl, p, 2, rfl, p2.pool, by decide, by decide, fun v o' v0 v1 ho => ?_⟩
    have p3 := p2.take ho
    have q3 : upd H2 p o' q = some (.lst (users.map V.str)) := by rw [upd_ne nq]; exact q2
    have e3 : upd H2 p o' l2 = some (.lst [.int 2, .int 8]) := by rw [upd_ne nl2]; exact e2
    generalize upd H2 p o' = H3 at p3 q3 e3 ⊢
    obtain ⟨z, hz, hz'⟩ := two 2 8 v v0 v1
    refine ⟨l2, _, v, _, rfl, rfl, .of e3, hz, p, z, rfl, p3.pool, by omega, by omega, fun v2 o2 v20 v21 ho2 => ?_⟩
    have p4 := p3.take ho2
    have q4 : upd H3 p o2 q = some (.lst (users.map V.str)) := by rw [upd_ne nq]; exact q3
    generalize upd H3 p o2 = H4 at p4 q4 ⊢
    have lenU : users.length = 8 := rfl
    obtain ⟨j2, rfl⟩ : ∃ j2 : Nat, v2 = (j2 : Int) := ⟨v2.toNat, by omega⟩
    have hlt : j2 < users.length := by omega
    have hu2 : users[j2]? = some users[j2] := List.getElem?_eq_getElem hlt
    have umem : users[j2] ∈ users := List.getElem_mem hlt
    have hat : atI (users.map V.str) (j2 : Int) = some (.str users[j2]) := by
      refine atI_nat ?_
      rw [List.getElem?_map, hu2]
      rfl
    generalize users[j2] = u at umem hat
    refine ⟨q, _, (j2 : Int), _, rfl, rfl, .of q4, hat, ?_⟩
    -- kind, width
    refine ⟨_, rfl, p, 9, rfl, p4.pool, by decide, by decide, fun kd o5 k0 k1 ho5 => ?_⟩
    have p5 := p4.take ho5
    generalize upd H4 p o5 = H5 at p5 ⊢
    have off5 : ∀ {H1 : Hp}, PSt p H H1 → ModAt K H1 m n S G c := fun s => hM.same' fun b o g q => s.off b o (fun e => np (e ▸ g)) q
    obtain ⟨⟨B, he⟩, hSok⟩ := id (off5 p5)
    refine ⟨_, rfl, m, _, rfl, dg he.hm he.kn, _, _, rfl, ?_⟩
    have fin : ∀ (a : Act) (H1 : Hp), PSt p H H1 → a.Ok n S → ∀ tt, H1 tt = none → Q (.ref tt) (upd H1 tt (.tup a.v)) := fun a H1 s ha tt htt => by
      have s2 := s.same (same_new (Same.refl _) htt (o := .tup a.v))
      exact k tt a _ s2.off (free s htt).1 upd_same ha
    refine ⟨_, rfl, _, _, rfl, rfl, _, rfl, ite2 (fun _ => ?_) (fun _ => ?_)⟩
    · exact ⟨_, rfl, (by show 2 ≤ sizeLine; decide), fun tt htt => fin (.undo u) _ p5 umem tt htt⟩
    refine ⟨_, rfl, _, _, rfl, rfl, _, rfl, ite2 (fun _ => ?_) (fun _ => ?_)⟩
    · exact iteT ⟨_, rfl, (by show 2 ≤ sizeLine; decide), fun tt htt => fin (.redo u) _ p5 umem tt htt⟩
    refine ⟨_, rfl, _, _, rfl, rfl, _, rfl, ite2 (fun zz => absurd (of_decide_eq_true zz) (by omega)) fun _ => ?_⟩
    -- letter
    refine ⟨_, rfl, _, rfl, _, _, rfl, rfl, (by show 2 ≤ sizeLine; decide), fun l6 hl6 => ?_⟩
    have p6 := p5.same (same_new (Same.refl _) hl6 (o := .lst [.int 2, .int 15]))
    have nl6 := (free p5 hl6).2
    have e6 : upd H5 l6 (.lst [.int 2, .int 15]) l6 = some (.lst [.int 2, .int 15]) := upd_same
    generalize upd H5 l6 (.lst [.int 2, .int 15]) = H6 at p6 e6 ⊢
    refine ⟨_, rfl, p, 2, rfl, p6.pool, by decide, by decide, fun v7 o7 v70 v71 ho7 => ?_⟩
    have p7 := p6.take ho7
    have e7 : upd H6 p o7 l6 = some (.lst [.int 2, .int 15]) := by rw [upd_ne nl6]; exact e6
    generalize upd H6 p o7 = H7 at p7 e7 ⊢
    obtain ⟨z7, hz7, hz7'⟩ := two 2 15 v7 v70 v71
    refine ⟨l6, _, v7, _, rfl, rfl, .of e7, hz7, _, z7, rfl, ?_⟩
    have hb : 0 < (if z7 < (n : Int) - 1 then z7 else (n : Int) - 1) ∧ (if z7 < (n : Int) - 1 then z7 else (n : Int) - 1) ≤ (n : Int) - 1 := by
      split <;> omega
    refine ⟨p, _, rfl, p7.pool, hb.1, Int.le_trans hb.2 (by omega), fun lt o8 lt0 lt1 ho8 => ?_⟩
    have hlt2 : lt + 2 ≤ (n : Int) := by have := Int.lt_of_lt_of_le lt1 hb.2; omega
    have p8 := p7.take ho8
    generalize upd H7 p o8 = H8 at p8 ⊢
    refine ⟨_, rfl, _, _, rfl, rfl, _, rfl, ite2 (fun _ => ?_) (fun _ => ?_)⟩
    · exact ⟨_, rfl, _, rfl, (by show 3 ≤ sizeLine; decide), fun tt htt => fin (.add u lt) _ p8 ⟨umem, lt0, hlt2⟩ tt htt⟩
    refine ⟨_, rfl, _, rfl, _, rfl, m, n, S, G, c, rfl, off5 p8, fun r H9 s9 f9 h9 => ?_⟩
    have p9 := p8.same s9
    refine ⟨r, _, rfl, .inl (.of h9), _, _, rfl, rfl, p, _, rfl, p9.pool, by rw [List.length_map]; omega, by rw [List.length_map]; omega, fun ps o10 ps0 ps1 ho10 => ?_⟩
    rw [List.length_map] at ps1
    have p10 := p9.take ho10
    generalize upd H9 p o10 = H10 at p10 ⊢
    obtain ⟨jp, rfl⟩ : ∃ jp : Nat, ps = (jp : Int) := ⟨ps.toNat, by omega⟩
    exact ⟨_, rfl, (by show 4 ≤ sizeLine; decide), fun tt htt => fin (.ins u jp lt) _ p10 ⟨umem, by omega, lt0, hlt2⟩ tt htt⟩
end
end K54
namespace K54
open PySem PySem.Spec PyProof.Rows L2
/-! ### list.count of texts -/
def eqs (x : Str) : Value → Bool
  | .str z _ => z == x
  | _ => false
theorem eqs_count (x : Str) : ∀ {l : List Str} {its : List Value}, Vals (l.map V.str) its → its.countP (eqs x) = l.count x
  | [], _, r => by
    cases r
    rfl
  | z :: l, _, r => by
    rw [List.map_cons] at r
    cases r with
    | @cons _ u _ us h t =>
      obtain ⟨tk, rfl⟩ := h
      rw [List.countP_cons, eqs_count x t, List.count_cons]
      rfl
def rCntS (K : PySem.W.Frag) : V → List V → Hp → VK → Prop := fun x xs H Q => ∃ (p : Addr) (l : List Str) (k : Str), x = .ref p ∧ xs = [.str k] ∧ SqL K H p (l.map V.str) ∧ Q (.int (l.count k : Nat)) H
theorem str_mem {l : List Str} {its : List Value} (r : Vals (l.map V.str) its) : ∀ y ∈ its, ∃ z t, y = Value.str z t := by
  induction l generalizing its with
  | nil => cases r; intro y hy; cases hy
  | cons a l ih =>
    rw [List.map_cons] at r
    cases r with
    | @cons _ u _ us h t =>
      intro y hy
      rcases List.mem_cons.mp hy with e | e
      · obtain ⟨tk, q⟩ := h
        exact ⟨a, tk, by rw [e]; exact q⟩
      · exact ih t y e
theorem mt_scount {X : Cx} (K : PySem.W.Frag) (h : X.K = K := by rfl) : MtR X "list.count" (rCntS K) := by
  subst h
  intro pins s σ H x xs v us Q I rx rxs h
  obtain ⟨p, l, k, rfl, rfl, hs, q⟩ := h
  cases rx
  obtain ⟨u, rfl, ru⟩ := rxs.one
  obtain ⟨t, rfl⟩ := ru
  obtain ⟨its, rv, ⟨⟨cls, dd, data, sl⟩, n, ho, hc, hdn, hd⟩, hlen⟩ := I.list hs
  simp only at hc hd
  subst hc hd
  refine call_meets PySem.F.slot_list_count ⟨_, ho, rfl⟩ PySem.F.entry_list_count (PySem.F.args_list_count_2 _ _)
    (SeqAt.list_countAt p its.toArray n dd sl (.str k t) (eqs k)) ⟨ho, fun y hy => ?_, ?_⟩
  · obtain ⟨z, tz, rfl⟩ := str_mem rv y (by simpa using hy)
    exact eqAt_V (y := .str z) (x := .str k) ⟨tz, rfl⟩ ⟨t, rfl⟩ rfl rfl
  have ec : its.toArray.toList.countP (eqs k) = l.count k := eqs_count k rv
  refine ⟨.int (l.count k : Nat), H, I.tok _, ⟨s.toks, ?_⟩, q⟩
  show Value.int ((its.toArray.toList.countP (eqs k) : Nat) : Int) s.toks = Value.int ((l.count k : Nat) : Int) s.toks
  rw [ec]
theorem dp_tstrs {K : PySem.W.Frag} {H : Hp} {a : Addr} {l : List Str} (h : SqT K H a (l.map V.str)) : Dp K H (.ref a) (.tuple (l.map PyData.str)) := .tup h (dpAll_strs l)
theorem eqv_tstrs (a b : List Str) : PyData.eqv (.tuple (a.map PyData.str)) (.tuple (b.map PyData.str)) = decide (a = b) := by rw [PyData.eqv]; exact eqvAll_strs a b
theorem sh_tstrs {l : List Str} (h : ∀ x ∈ l, PyData.canLay0 (.str x) = true) : SeqAt.shaped (.tuple (l.map PyData.str)) = true := by
  obtain ⟨h1, h2⟩ := flat_strs_ l h
  unfold SeqAt.shaped
  rw [PyData.canLay0, PyData.depth, h1, h2]
  rfl
theorem bm_K {X : Cx} {T id : String} {name : Str} {r : V → List V → Hp → VK → Prop} {o e : Expr} {es : List Expr} {to : TE} {t : TA} {apos cpos : Pos} (K : PySem.W.Frag) (pa : PlainAttrs T) (slot : Slot T name id) (hty : typeOf (.builtin id) = pure (.type "method_descriptor")) (hm : MtR X id r) (ho : PE X o to) (ha : PA X (e :: es) t)
    (hbase : attributeBase o name X.env (eval o X.env) = eval o X.env := by rfl)
    (hfew : ((backTo cpos (starEach (e :: es) X.env)).all (fun x => !x.1) && (backToKw cpos (keywordEach [] X.env)).all (fun x => x.1.isSome)
      && decide ((e :: es).length + ([] : List Keyword).length + (if ([] : List Keyword).isEmpty then 0 else 1) < 30)) = true := by rfl)
    (hline : (apos.endLine == cpos.line) = true := by rfl) (hs : starEach (e :: es) X.env = (false, eval e X.env) :: starEach es X.env := by rfl) (hplain : (backTo cpos (starEach es X.env)).any (·.1) = false := by rfl) (h : X.K = K := by rfl) :
    PE X (.Call (.Attribute o name apos) (e :: es) [] cpos) (tBM K T r to t) := by
  subst h
  exact pe_bm pa slot hty hm ho ha hbase hfew hline hs hplain
/-! ### the board from one heap to a later one -/
structure ESt (K : PySem.W.Frag) (H : Hp) (b : Addr) (n : Nat) (F : Addr → Prop) (H1 : Hp) (T : Ed Str) (F1 : Addr → Prop) (c : Nat) : Prop where
  ed : EdAt K H1 b n T F1 c
  off : Off F H H1
  gr : Grow F F1 H
section
variable {K : PySem.W.Frag} {H H1 H2 : Hp} {b : Addr} {n : Nat} {F F1 F2 : Addr → Prop} {T T2 : Ed Str} {c c2 : Nat}
theorem ESt.start (E : EdAt K H b n T F c) : ESt K H b n F H T F c := ⟨E, fun _ _ _ h => h, fun _ h => h, fun _ h => .inl h⟩
theorem ESt.same (s : ESt K H b n F H1 T F1 c) (t : Same H1 H2) : ESt K H b n F H2 T F1 c := ⟨s.ed.same t, fun x o nf h => t _ _ (s.off x o nf h), s.gr⟩
theorem ESt.go (s : ESt K H b n F H1 T F1 c) (o : Off F1 H1 H2) (g : Grow F1 F2 H1) (E : EdAt K H2 b n T2 F2 c2) : ESt K H b n F H2 T2 F2 c2 := by
  obtain ⟨A, ed, _⟩ := s.ed
  have al : ∀ x, F x → H1 x ≠ none := fun x f q => by
    obtain ⟨o, e⟩ := ed.al x (s.gr.1 x f)
    rw [q] at e; cases e
  refine ⟨E, fun x o1 nf h => o x o1 (fun f1 => ?_) (s.off x o1 nf h), fun x f => g.1 x (s.gr.1 x f), fun x f2 => ?_⟩
  · rcases s.gr.2 x f1 with q | q
    · exact nf q
    · rw [h] at q; cases q
  · rcases g.2 x f2 with q | q
    · exact s.gr.2 x q
    · cases e : H x with
      | none => exact .inr rfl
      | some o1 =>
        by_cases f : F x
        · exact absurd q (al x f)
        · rw [s.off x o1 f e] at q; cases q
theorem ESt.get (s : ESt K H b n F H1 T F1 c) {x : Addr} {o : HO} (h : H x = some o) (nf : ¬ F x) : H1 x = some o ∧ ¬ F1 x := ⟨s.off x o nf h, fun f => (s.gr.2 x f).elim nf fun q => by rw [h] at q; cases q⟩
theorem EdAt.nf (E : EdAt K H b n T F c) {x : Addr} (h : H x = none) : ¬ F x := fun f => by
  obtain ⟨A, ed, _⟩ := E
  obtain ⟨o, e⟩ := ed.al x f
  rw [h] at e; cases e
end
end K54
namespace K54
open PySem PySem.Spec PyProof.Rows L2
section
variable {P : Program} {w : World} {K : PySem.W.Frag} {mg : Str → Option Value} {ex : PySem.W.Frag → Bool} {base : Heap}
def spUnd (K : PySem.W.Frag) : Sp := fun vs H Q _ => ∃ (b m : Addr) (n : Nat) (S : Ed Str) (F : Addr → Prop) (c : Nat), vs = [.ref b, .ref m] ∧ EdAt K H b n S F c ∧ (∀ x ∈ S.owners, x ∈ users) ∧ c ≤ 2000 ∧ S.shown.length ≤ 100 ∧ ∀ H', Q (.bl true) H'
theorem users_nd : users.Nodup := by decide
theorem ok_und (T : Top K mg ex) (G : Ers K) : FnOk P w K mg base CX0 6 (He.fAd K a_law_check_undone) (fdOf K a_law_check_undone) ["_law_board", "_law_model"] (spUnd K) := by
  refine fok T.f_law_check_undone sc_law_check_undone (fun vs H Q E h => ?_) (fun cdv A outer s H vs Q E hr h => ?_)
  · obtain ⟨_, _, _, _, _, _, rfl, _⟩ := h
    rfl
  · obtain ⟨b, m, n, S, F, c, rfl, hE, hw, hc, hs, k⟩ := h
    have hu := hu_of hr
    have GD : FnOk P w K mg base CX0 5 (He.fAd K a_law_do) (fdOf K a_law_do) ["_law_board", "_law_action_here"] (spDo K) := ok_do T G
    refine ⟨_, pss_cons (ps_asg (pe_tup (pa_cons (pe_meth0 (pv 0) T.cl_Editor T.me_Editor_word (ok_word T) (hr.mono (by decide)) T.b_Editor_word .nil pass0) (pa_cons (pe_meth0 (pv 0) T.cl_Editor T.me_Editor_authors (ok_auth T) (hr.mono (by decide)) T.b_Editor_authors .nil pass0) pa_nil)))
          (pg_tup rfl (pgs_cons (pg_name (i := 2) sc_law_check_undone.nd rfl (Or.inl rfl)) (pgs_cons (pg_name (i := 3) sc_law_check_undone.nd rfl (Or.inr rfl)) pgs_nil)))) <|
      pss_cons (ps_set (i := 4) sc_law_check_undone.nd rfl (Or.inl rfl) (pe_lst (pa_cons pe_str (pa_cons pe_str (pa_cons pe_str (pa_cons pe_str (pa_cons pe_str (pa_cons pe_str (pa_cons pe_str (pa_cons pe_str pa_nil)))))))))) <|
      pss_cons (ps_setLc (i := 5) (own := [("_law_user", 6)]) (g := gName 6) (tt := tYes) rfl sc_law_check_undone.nd rfl rfl (sw_true rfl rfl rfl (by decide +kernel)) (pi_list (pv 4)) (blkOk_by (own := [("_law_user", 6)]) (N := ["_law_board", "_law_model", "_law_word_here", "_law_authors_here", "_law_users", "_law_counts", "_law_user", "_law_count", "_law_turn_here"]) (sc := defScope s_law_check_undone) (by decide +kernel))
          (fun _ _ _ _ _ => pg_name (i := 6) sc_law_check_undone.nd rfl (Or.inl rfl)) (fun _ _ _ _ _ => pts_nil)
          (fun _ _ _ _ _ => bm_K K PySem.F.plainAttrs_list PySem.F.slot_list_count PySem.F.type_list_count (mt_scount K) (pv 3) (pa_cons (pv 6) pa_nil))) <|
      pss_cons (ps_for PassesOwn.never rfl (pi_zip (by rfl) T.z_zip (pa_cons (pv 4) (pa_cons (pv 5) pa_nil))) (pg_tup rfl (pgs_cons (pg_name (i := 6) sc_law_check_undone.nd rfl (Or.inl rfl)) (pgs_cons (pg_name (i := 7) sc_law_check_undone.nd rfl (Or.inl rfl)) pgs_nil)))
        (pss_cons (ps_for PassesOwn.never rfl (pi_range1 (by rfl) T.z_range (pa_cons (pv 7) pa_nil)) (pg_name (i := 8) sc_law_check_undone.nd rfl (Or.inl rfl))
          (pss_one (ps_if (pt_cmpR op_notN (pe_call GD hr (by rfl) T.g_law_do T.f_law_do.kp T.b_law_do .nil pass0 (pa_cons (pv 0) (pa_cons (pe_tup (pa_cons pe_str (pa_cons (pv 6) pa_nil))) pa_nil))) pe_non (nomark _)) (pss_one (ps_ret pe_bl)) pss_nil))) <|
         pss_one (ps_if (pt_cmpR (op_neD hr.units) (pe_call GD hr (by rfl) T.g_law_do T.f_law_do.kp T.b_law_do .nil pass0 (pa_cons (pv 0) (pa_cons (pe_tup (pa_cons pe_str (pa_cons (pv 6) pa_nil))) pa_nil))) (pe_tup (pa_cons pe_str (pa_cons (pv 6) pa_nil))) (nomark _)) (pss_one (ps_ret pe_bl)) pss_nil))) <|
      pss_cons (ps_if (pt_cmpR (op_neD hr.units) (pe_meth0 (pv 0) T.cl_Editor T.me_Editor_word (ok_word T) (hr.mono (by decide)) T.b_Editor_word .nil pass0) (pe_lst pa_nil) (nomark _)) (pss_one (ps_ret pe_bl)) pss_nil) <|
      pss_cons (ps_for PassesOwn.never rfl (pi_zip (by rfl) T.z_zip (pa_cons (pe_revL (pv 4)) (pa_cons (pe_revL (pv 5)) pa_nil))) (pg_tup rfl (pgs_cons (pg_name (i := 6) sc_law_check_undone.nd rfl (Or.inl rfl)) (pgs_cons (pg_name (i := 7) sc_law_check_undone.nd rfl (Or.inl rfl)) pgs_nil)))
        (pss_one (ps_for PassesOwn.never rfl (pi_range1 (by rfl) T.z_range (pa_cons (pv 7) pa_nil)) (pg_name (i := 8) sc_law_check_undone.nd rfl (Or.inl rfl))
          (pss_one (ps_if (pt_cmpR op_notN (pe_call GD hr (by rfl) T.g_law_do T.f_law_do.kp T.b_law_do .nil pass0 (pa_cons (pv 0) (pa_cons (pe_tup (pa_cons pe_str (pa_cons (pv 6) pa_nil))) pa_nil))) pe_non (nomark _)) (pss_one (ps_ret pe_bl)) pss_nil))))) <|
      pss_one (ps_ret (pe_and (pe_cmpR (op_eqD hr.units) (pe_meth0 (pv 0) T.cl_Editor T.me_Editor_word (ok_word T) (hr.mono (by decide)) T.b_Editor_word .nil pass0) (pv 2) (nomark _))
        (pe_one (pe_cmpR (op_eqD hr.units) (pe_meth0 (pv 0) T.cl_Editor T.me_Editor_authors (ok_auth T) (hr.mono (by decide)) T.b_Editor_authors .nil pass0) (pv 3) (nomark _))))), ?_⟩
    obtain ⟨B, he, _, hok⟩ := id hE
    refine ⟨_, rfl, b, B.dx, _, rfl, he.ob, eF_word _ _ _ _ _ _ _, b, n, S, F, c, rfl, hE, fun r1 H1 s1 f1 h1 => ?_⟩
    obtain ⟨B1, he1, _, _⟩ := id (hE.same s1)
    refine ⟨_, rfl, b, B1.dx, _, rfl, he1.ob, eF_authors _ _ _ _ _ _ _, b, n, S, F, c, rfl, hE.same s1, fun r2 H2 s2 f2 h2 => ⟨(by show 2 ≤ sizeLine; decide), fun tt htt => ?_⟩⟩
    refine ⟨tt, _, rfl, .of upd_same, rfl, _, _, rfl, _, _, rfl, rfl, ?_⟩
    have f2' : H r2 = none := Same.free s1 f2
    have s3 : Same H (upd H2 tt (.tup [.ref r1, .ref r2])) := same_new (s1.trans s2) htt
    have h1' := same_new s2 htt (o := .tup [.ref r1, .ref r2]) _ _ h1
    have h2' := same_new (Same.refl _) htt (o := .tup [.ref r1, .ref r2]) _ _ h2
    generalize upd H2 tt (.tup [.ref r1, .ref r2]) = H3 at s3 h1' h2' ⊢
    refine ⟨(by show 8 ≤ sizeLine; decide), fun uq huq => ?_⟩
    have fu : H uq = none := Same.free s3 huq
    have s4 := same_new s3 huq (o := .lst (users.map V.str))
    have h1 := same_new (Same.refl _) huq (o := .lst (users.map V.str)) _ _ h1'
    have h2 := same_new (Same.refl _) huq (o := .lst (users.map V.str)) _ _ h2'
    have hu1 : upd H3 uq (.lst (users.map V.str)) uq = some (.lst (users.map V.str)) := upd_same
    show tSeq _ _ _ _ (upd H3 uq (.lst (users.map V.str)))
    generalize upd H3 uq (.lst (users.map V.str)) = H4 at s4 h1 h2 hu1 ⊢
    refine ⟨_, rfl, uq, rfl, ⟨_, .of hu1⟩, fun D hD => lc_goY walk_list (by decide) (fun i => match users[i]? with
      | some u => .int (S.auth.count u : Nat)
      | none => .non) hD (fun H2 s2 => .of (s2 _ _ hu1)) ?_ ?_⟩
    · rintro i x H5 H6 Kt hi s5 ⟨rfl, hx⟩ kt
      obtain ⟨u, hu', rfl⟩ := map_at hx
      refine ⟨rfl, _, rfl, .inl ⟨rfl, _, .of (s5 _ _ h2)⟩, _, rfl, r2, S.auth, u, rfl, rfl, .of (s5 _ _ h2), ?_⟩
      rw [hu'] at kt
      exact kt _ (Same.refl _)
    intro H5 s5 hD5
    have fD : H D = none := Same.free s4 hD
    have s6 := s4.trans s5
    replace hD5 : H5 D = some (.lst (users.map fun u => V.int (S.auth.count u : Nat))) := by
      rw [hD5]
      congr 2
    replace h1 := s5 _ _ h1
    replace h2 := s5 _ _ h2
    replace hu1 := s5 _ _ hu1
    have nF1 : ¬ F r1 := hE.nf f1
    have nF2 : ¬ F r2 := hE.nf f2'
    have nFu : ¬ F uq := hE.nf fu
    have nFD : ¬ F D := hE.nf fD
    have E5 := hE.same s6
    have lenA : S.auth.length = S.shown.length := List.length_map _
    have cnt : ∀ u, S.auth.count u ≤ 100 := fun u => Nat.le_trans List.count_le_length (by omega)
    clear hE he he1
    -- all undone
    refine ⟨_, rfl, _, rfl, uq, D, _, _, rfl, .of hu1, .of hD5, for_it (walk_zip (n := 8) (by rfl)) (fun i σ H6 => ∃ (v6 v7 v8 : Option V) (F1 : Addr → Prop) (c1 : Nat), σ = [some (.ref b), some (.ref m), some (.ref r1), some (.ref r2), some (.ref uq), some (.ref D), v6, v7, v8] ∧
      ESt K H5 b n F H6 (Ed.sq S users i) F1 c1 ∧ c1 ≤ c + 700 * i) ⟨none, none, none, F, c, rfl, .start E5, by omega⟩ (fun i σ H6 _ ⟨_, _, _, _, _, _, e, _⟩ => ⟨.of (e.get hu1 nFu).1, .of (e.get hD5 nFD).1⟩) ?_ ?_⟩
    · rintro i x σ H6 H7 hi ⟨v6, v7, v8, F1, c1, rfl, e1, z1⟩ ⟨tp, x1, y1, rfl, htp, rfl, hx1, hy1⟩
      obtain ⟨u, hu', rfl⟩ := map_at hx1
      obtain ⟨u2, hu2, rfl⟩ := map_at hy1
      rw [hu'] at hu2
      cases hu2
      have hmem : u ∈ users := List.mem_of_getElem? hu'
      obtain ⟨q1, q2⟩ := Ed.sq_at (S := S) users_nd hu'
      have kk : S.auth.count u = (S.done u).length := hok.count u
      have c100 := cnt u
      refine ⟨tp, _, rfl, .of upd_same, rfl, _, _, rfl, _, _, rfl, rfl, ?_⟩
      have e2 := e1.same (same_new (Same.refl _) htp (o := .tup [.str u, .int (S.auth.count u : Nat)]))
      generalize upd H6 tp (.tup [.str u, .int (S.auth.count u : Nat)]) = H7 at e2 ⊢
      refine ⟨_, rfl, _, rfl, by omega, by omega, ?_⟩
      refine for_range (lo := 0) (n := ((S.auth.count u : Nat) : Int).toNat) (fun t σ H8 => ∃ (v8 : Option V) (F2 : Addr → Prop) (c2 : Nat), σ = [some (.ref b), some (.ref m), some (.ref r1), some (.ref r2), some (.ref uq), some (.ref D), some (.str u), some (.int (S.auth.count u : Nat)), v8] ∧
        ESt K H5 b n F H8 (Ed.undoN u t (Ed.sq S users i)) F2 c2 ∧ c2 ≤ c1 + 6 * t) ⟨v8, F1, c1, rfl, e2, by omega⟩ ?_ ?_
      · rintro t σ H8 ht ⟨v8, F2, c2, rfl, e3, z3⟩
        rw [Int.toNat_natCast] at ht
        have hne : (Ed.undoN u t (Ed.sq S users i)).done u ≠ [] := Ed.undoN_ne (by rw [q2]; omega)
        refine ⟨_, rfl, _, rfl, (by show 2 ≤ sizeLine; decide), fun t1 ht1 => ?_⟩
        have e4 := e3.same (same_new (Same.refl _) ht1 (o := .tup [.str "undo", .str u]))
        refine ⟨b, t1, n, _, F2, c2, .undo u, rfl, upd_same, e4.ed, hmem, by omega, fun v H9 F3 o g E' rv => ?_⟩
        have ev : v = .non := by
          have q : RetV H9 v none := by
            rw [← show (Act.undo u).out (Ed.undoN u t (Ed.sq S users i)) = none from if_neg hne]
            exact rv
          exact q
        subst ev
        have eg : (Act.undo u).go (Ed.undoN u t (Ed.sq S users i)) = Ed.undoN u (t + 1) (Ed.sq S users i) := if_neg hne
        rw [eg] at E'
        refine ⟨rfl, _, rfl, iteF ?_⟩
        exact ⟨_, F3, c2 + 6, rfl, e4.go o g E', by omega⟩
      · rintro σ H8 ⟨v8, F2, c2, rfl, e3, z3⟩
        rw [Int.toNat_natCast] at e3 z3
        have et : Ed.undoN u (S.auth.count u) (Ed.sq S users i) = Ed.sq S users (i + 1) := by rw [kk, q1]
        rw [et] at e3
        have hnil : (Ed.sq S users (i + 1)).done u = [] := (Ed.sq_done users_nd (i + 1)).2 i u (Nat.lt_succ_self i) hu'
        refine ⟨_, rfl, _, rfl, (by show 2 ≤ sizeLine; decide), fun t1 ht1 => ?_⟩
        have e4 := e3.same (same_new (Same.refl _) ht1 (o := .tup [.str "undo", .str u]))
        refine ⟨b, t1, n, _, F2, c2, .undo u, rfl, upd_same, e4.ed, hmem, by omega, fun v H9 F3 o g E' rv => ?_⟩
        have eo : (Act.undo u).out (Ed.sq S users (i + 1)) = some (("undo" : Str), u) := if_pos hnil
        have eg : (Act.undo u).go (Ed.sq S users (i + 1)) = Ed.sq S users (i + 1) := if_pos hnil
        rw [eo] at rv
        rw [eg] at E'
        obtain ⟨tr, rfl, htr⟩ := rv
        refine ⟨_, rfl, (by show 2 ≤ sizeLine; decide), fun t2 ht2 => ?_⟩
        have e5 := (e4.go o g E').same (same_new (Same.refl _) ht2 (o := .tup [.str "undo", .str u]))
        have lay : ∀ x ∈ (["undo", u] : List Str), PyData.canLay0 (.str x) = true := fun x hx => by
          rcases List.mem_cons.mp hx with q | q
          · rw [q]; decide +kernel
          · rw [List.mem_singleton.mp q]; exact users_lay u hmem
        refine ⟨_, _, dp_tstrs (l := ["undo", u]) (.of (same_new (Same.refl _) ht2 _ _ htr)), dp_tstrs (l := ["undo", u]) (.of upd_same), sh_tstrs lay, sh_tstrs lay, _, rfl, ?_⟩
        rw [eqv_tstrs, decide_eq_true rfl]
        exact iteF ⟨_, _, _, F3, c2 + 6, rfl, e5, by omega⟩
    rintro σ H6 ⟨v6, v7, v8, F1, c1, rfl, e1, z1⟩
    have e1 : ESt K H5 b n F H6 (Ed.sq S users 8) F1 c1 := e1
    obtain ⟨B6, he6, _, _⟩ := id e1.ed
    have wnil : (Ed.sq S users 8).word = [] := by
      unfold Ed.word
      rw [show (Ed.sq S users 8).shown = [] from Ed.sq_end hok users_nd hw]
      rfl
    refine ⟨_, rfl, b, B6.dx, _, rfl, he6.ob, eF_word _ _ _ _ _ _ _, b, n, _, F1, c1, rfl, e1.ed, fun r6 H7 s7 f7 h7 => ⟨Nat.zero_le _, fun y hy => ?_⟩⟩
    rw [wnil] at h7
    refine ⟨_, _, dp_ints (l := []) (.of (same_new (Same.refl _) hy _ _ h7)), dp_ints (l := []) (.of upd_same), sh_lints _, sh_lints _, _, rfl, ?_⟩
    rw [eqv_lints, decide_eq_true rfl]
    refine iteF ?_
    have e2 := e1.same (same_new s7 hy (o := .lst []))
    generalize upd H7 y (.lst []) = H8 at e2 ⊢
    -- all redone
    obtain ⟨h1, nF1⟩ := e2.get h1 nF1
    obtain ⟨h2, nF2⟩ := e2.get h2 nF2
    obtain ⟨hu1, _⟩ := e2.get hu1 nFu
    obtain ⟨hD5, _⟩ := e2.get hD5 nFD
    refine ⟨_, rfl, uq, _, rfl, .of hu1, fun p1 hp1 => ?_⟩
    have t1 := same_new (Same.refl H8) hp1 (o := .lst (users.map V.str).reverse)
    have g1 : upd H8 p1 (.lst (users.map V.str).reverse) p1 = some (.lst (users.reverse.map V.str)) := by rw [upd_same, List.map_reverse]
    have m1 : ¬ F1 p1 := e2.ed.nf hp1
    have e3 := e2.same t1
    replace h1 := t1 _ _ h1
    replace h2 := t1 _ _ h2
    replace hD5 := t1 _ _ hD5
    generalize upd H8 p1 (.lst (users.map V.str).reverse) = H9 at g1 e3 h1 h2 hD5 ⊢
    refine ⟨_, rfl, D, _, rfl, .of hD5, fun p2 hp2 => ?_⟩
    have t2 := same_new (Same.refl H9) hp2 (o := .lst (users.map fun u => V.int (S.auth.count u : Nat)).reverse)
    have g2 : upd H9 p2 (.lst (users.map fun u => V.int (S.auth.count u : Nat)).reverse) p2 = some (.lst (users.reverse.map fun u => V.int (S.auth.count u : Nat))) := by rw [upd_same, List.map_reverse]
    have m2 : ¬ F1 p2 := e3.ed.nf hp2
    have E4 := e3.ed.same t2
    replace h1 := t2 _ _ h1
    replace h2 := t2 _ _ h2
    replace g1 := t2 _ _ g1
    generalize upd H9 p2 (.lst (users.map fun u => V.int (S.auth.count u : Nat)).reverse) = H10 at g1 g2 E4 h1 h2 ⊢
    refine ⟨p1, p2, _, _, rfl, .of g1, .of g2, for_it (walk_zip (n := 8) (by rfl)) (fun i σ H6 => ∃ (v6 v7 v8 : Option V) (F2 : Addr → Prop) (c2 : Nat), σ = [some (.ref b), some (.ref m), some (.ref r1), some (.ref r2), some (.ref uq), some (.ref D), v6, v7, v8] ∧
      ESt K H10 b n F1 H6 (Ed.sq S users (8 - i)) F2 c2 ∧ c2 ≤ c1 + 700 * i) ⟨_, _, _, F1, c1, rfl, .start E4, by omega⟩ (fun i σ H6 _ ⟨_, _, _, _, _, _, e, _⟩ => ⟨.of (e.get g1 m1).1, .of (e.get g2 m2).1⟩) ?_ ?_⟩
    · rintro i x σ H6 H7 hi ⟨v6, v7, v8, F2, c2, rfl, e5, z5⟩ ⟨tp, x1, y1, rfl, htp, rfl, hx1, hy1⟩
      obtain ⟨u, hu', rfl⟩ := map_at hx1
      obtain ⟨u2, hu2, rfl⟩ := map_at hy1
      rw [hu'] at hu2
      cases hu2
      have hj : users[7 - i]? = some u := by
        rw [List.getElem?_reverse (by show i < 8; exact hi)] at hu'
        have e : users.length - 1 - i = 7 - i := rfl
        rw [e] at hu'
        exact hu'
      have hmem : u ∈ users := List.mem_of_getElem? hj
      obtain ⟨q1, q2⟩ := Ed.sq_at (S := S) users_nd hj
      have e8 : 7 - i + 1 = 8 - i := by omega
      have e9 : 8 - (i + 1) = 7 - i := by omega
      rw [e8] at q1
      have kk : S.auth.count u = (S.done u).length := hok.count u
      have c100 := cnt u
      refine ⟨tp, _, rfl, .of upd_same, rfl, _, _, rfl, _, _, rfl, rfl, ?_⟩
      have e6 := e5.same (same_new (Same.refl _) htp (o := .tup [.str u, .int (S.auth.count u : Nat)]))
      generalize upd H6 tp (.tup [.str u, .int (S.auth.count u : Nat)]) = H7 at e6 ⊢
      rw [q1] at e6
      refine ⟨_, rfl, _, rfl, by omega, by omega, ?_⟩
      refine for_range (lo := 0) (n := ((S.auth.count u : Nat) : Int).toNat) (fun t σ H8 => ∃ (v8 : Option V) (F3 : Addr → Prop) (c3 : Nat), σ = [some (.ref b), some (.ref m), some (.ref r1), some (.ref r2), some (.ref uq), some (.ref D), some (.str u), some (.int (S.auth.count u : Nat)), v8] ∧
        ESt K H10 b n F1 H8 (Ed.undoN u ((S.done u).length - t) (Ed.sq S users (7 - i))) F3 c3 ∧ c3 ≤ c2 + 6 * t) ⟨v8, F2, c2, rfl, e6, by omega⟩ ?_ ?_
      · rintro t σ H8 ht ⟨v8, F3, c3, rfl, e7, z7⟩
        rw [Int.toNat_natCast, kk] at ht
        obtain ⟨j, ej⟩ : ∃ j, (S.done u).length - t = j + 1 := ⟨(S.done u).length - t - 1, by omega⟩
        have ej2 : (S.done u).length - (t + 1) = j := by omega
        rw [ej] at e7
        rw [ej2]
        obtain ⟨b1, b2⟩ := Ed.undoN_back (S := Ed.sq S users (7 - i)) (Ed.sq_ok hok users_nd _) (u := u) (k := j) (by rw [q2]; omega)
        refine ⟨_, rfl, _, rfl, (by show 2 ≤ sizeLine; decide), fun t1 ht1 => ?_⟩
        have e8 := e7.same (same_new (Same.refl _) ht1 (o := .tup [.str "redo", .str u]))
        refine ⟨b, t1, n, _, F3, c3, .redo u, rfl, upd_same, e8.ed, hmem, by omega, fun v H9 F4 o g E' rv => ?_⟩
        have ev : v = .non := by
          have q : RetV H9 v none := by
            rw [← show (Act.redo u).out (Ed.undoN u (j + 1) (Ed.sq S users (7 - i))) = none from if_neg b1]
            exact rv
          exact q
        subst ev
        have eg : (Act.redo u).go (Ed.undoN u (j + 1) (Ed.sq S users (7 - i))) = Ed.undoN u j (Ed.sq S users (7 - i)) := (if_neg b1).trans b2
        rw [eg] at E'
        refine ⟨rfl, _, rfl, iteF ?_⟩
        exact ⟨_, F4, c3 + 6, rfl, e8.go o g E', by omega⟩
      · rintro σ H8 ⟨v8, F3, c3, rfl, e7, z7⟩
        rw [Int.toNat_natCast] at e7 z7
        rw [kk, Nat.sub_self] at e7
        rw [e9]
        exact ⟨_, _, _, F3, c3, rfl, e7, by omega⟩
    rintro σ H6 ⟨v6, v7, v8, F2, c2, rfl, e5, z5⟩
    have e5 : ESt K H10 b n F1 H6 S F2 c2 := e5
    obtain ⟨h1, _⟩ := e5.get h1 nF1
    obtain ⟨h2, _⟩ := e5.get h2 nF2
    obtain ⟨B7, he7, _, _⟩ := id e5.ed
    refine ⟨_, rfl, b, B7.dx, _, rfl, he7.ob, eF_word _ _ _ _ _ _ _, b, n, S, F2, c2, rfl, e5.ed, fun r7 H7 s7 f7 h7 => ?_⟩
    refine ⟨_, rfl, _, _, dp_ints (.of h7), dp_ints (.of (s7 _ _ h1)), sh_lints _, sh_lints _, _, rfl, ?_⟩
    rw [eqv_lints, decide_eq_true rfl]
    have e6 := e5.same s7
    obtain ⟨B8, he8, _, _⟩ := id e6.ed
    refine iteT ⟨_, rfl, b, B8.dx, _, rfl, he8.ob, eF_authors _ _ _ _ _ _ _, b, n, S, F2, c2, rfl, e6.ed, fun r8 H8 s8 f8 h8 => ?_⟩
    have sh := sh_lstrs (fun x hx => users_lay x (auth_users hok hw x hx))
    refine ⟨_, rfl, _, _, dp_strs (.of h8), dp_strs (.of (s8 _ _ (s7 _ _ h2))), sh, sh, ?_⟩
    rw [eqv_lstrs, decide_eq_true rfl]
    exact k _
end
end K54
namespace K54
open PySem PySem.Spec PyProof.Rows L2
theorem remB_val {n : Nat} {W R : List Int} {i : Nat} {R6 : List Int} {k6 : Nat} (v : ValOk n (del_ W i) R6 k6) : remB n W R i = decide (R6 = R) := by
  unfold remB
  rw [v.val]
section
variable {P : Program} {w : World} {K : PySem.W.Frag} {mg : Str → Option Value} {ex : PySem.W.Frag → Bool} {base : Heap}
def spStt (K : PySem.W.Frag) : Sp := fun vs H Q _ => ∃ (b m : Addr) (n : Nat) (S : Ed Str) (F G : Addr → Prop) (c c' : Nat), vs = [.ref b, .ref m] ∧ EdAt K H b n S F c ∧ ModAt K H m n S G c' ∧ 2 ≤ n ∧ (∀ x ∈ S.word, 0 ≤ x ∧ x + 2 ≤ (n : Int)) ∧ ∀ H', Same H H' → Q (.bl true) H'
theorem ok_stt (T : Top K mg ex) (Er : Ers K) : FnOk P w K mg base CX0 12 (He.fAd K a_law_check_state) (fdOf K a_law_check_state) ["_law_board", "_law_model"] (spStt K) := by
  refine fok T.f_law_check_state sc_law_check_state (fun vs H Q E h => ?_) (fun cdv A outer s H vs Q E hr h => ?_)
  · obtain ⟨_, _, _, _, _, _, _, _, rfl, _⟩ := h
    rfl
  · obtain ⟨b, m, n, S, F, G, c, c', rfl, hE, ⟨⟨B', hm⟩, _⟩, n2, hx, k⟩ := h
    have hu := hu_of hr
    refine ⟨_, pss_cons (ps_par (i := 2) (j := 3) rfl sc_law_check_state.nd rfl rfl (by decide) rfl rfl (pa_cons (pe_meth0 (pv 0) T.cl_Editor T.me_Editor_word (ok_word T) (hr.mono (by decide)) T.b_Editor_word .nil pass0) (pa_cons (pe_dget hu (pv 1) pe_str (fun _ _ => rfl)) pa_nil)) (by rfl)) <|
      pss_cons (ps_if (PW.pt (pw_or (pt_cmpR op_gt (pv 3) pe_int (nomark _)) (pw_or1 (pt_cmpR op_gt (pe_callB call_len_seq (by rfl) T.z_len PySem.boot_len (pa_cons (pv 2) pa_nil)) pe_int (nomark _))))) (pss_one (ps_ret pe_bl)) pss_nil) <|
      pss_cons (ps_asg (pe_call (ok_lval T) (hr.mono (by decide)) (by rfl) T.g_law_value T.f_law_value.kp T.b_law_value .nil pass0 (pa_cons (pv 3) (pa_cons (pv 2) pa_nil)))
          (pg_tup rfl (pgs_cons (pg_name (i := 4) sc_law_check_state.nd rfl (Or.inl rfl)) (pgs_cons (pg_name (i := 5) sc_law_check_state.nd rfl (Or.inl rfl)) pgs_nil)))) <|
      pss_cons (ps_asg (pe_meth0 (pv 0) T.cl_Editor T.me_Editor_state (ok_state T) (hr.mono (by decide)) T.b_Editor_state .nil pass0)
          (pg_tup rfl (pgs_cons (pg_name (i := 6) sc_law_check_state.nd rfl (Or.inl rfl)) (pgs_cons (pg_name (i := 7) sc_law_check_state.nd rfl (Or.inl rfl)) pgs_nil)))) <|
      pss_cons (ps_set (i := 8) sc_law_check_state.nd rfl (Or.inl rfl) (pe_lst pa_nil)) <|
      pss_cons (ps_for PassesOwn.never rfl (pi_range1 (by rfl) T.z_range (pa_cons (pe_callB call_len_seq (by rfl) T.z_len PySem.boot_len (pa_cons (pv 2) pa_nil)) pa_nil)) (pg_name (i := 9) sc_law_check_state.nd rfl (Or.inl rfl))
        (pss_one (ps_if (pt_cmpR (op_eqD hr.units) (pe_ix ix_tup (pe_call (ok_lval T) (hr.mono (by decide)) (by rfl) T.g_law_value T.f_law_value.kp T.b_law_value .nil pass0 (pa_cons (pv 3) (pa_cons
              (pe_op op_cat (pe_slice sl_list (pv 2) po_none (po_some (pv 9))) (pe_slice sl_list (pv 2) (po_some (pe_op op_add (pv 9) pe_int)) po_none)) pa_nil))) pe_int (fun _ _ => rfl)) (pv 4) (nomark _))
          (pss_one (ps_expr (pe_bm PySem.F.plainAttrs_list PySem.F.slot_list_append PySem.F.type_list_append mt_append (pv 8) (pa_cons (pv 9) pa_nil)))) pss_nil))) <|
      pss_one (ps_ret (pe_and (pe_cmpR (op_eqD hr.units) (pe_meth0 (pv 6) T.cl_Diagram T.me_Diagram_partners (ok_ptrs T) (hr.mono (by decide)) T.b_Diagram_partners .nil pass0) (pv 4) (nomark _))
        (pe_and (pe_cmpR op_eq (pv 7) (pv 5) (nomark _)) (pe_one (pe_cmpR (op_eqD hr.units) (pe_meth0 (pv 0) T.cl_Editor T.me_Editor_removable (ok_rem T Er) hr T.b_Editor_removable .nil pass0) (pv 8) (nomark _)))))), ?_⟩
    obtain ⟨B, he, _, hok⟩ := id hE
    refine ⟨_, rfl, b, B.dx, _, rfl, he.ob, eF_word _ _ _ _ _ _ _, b, n, S, F, c, rfl, hE, fun r1 H1 s1 f1 h1 => ?_⟩
    have hm1 := hm.same fun b o _ q => s1 b o q
    refine ⟨_, rfl, m, _, rfl, dg hm1.hm hm1.kn, _, _, rfl, ?_⟩
    have lenW : (S.word.map V.int).length = S.word.length := List.length_map _
    refine ⟨_, rfl, _, _, rfl, rfl, _, rfl, ite2 (fun _ => iteT (k _ s1)) (fun z6 => ?_)⟩
    refine ⟨_, rfl, r1, _, rfl, .inl (.of h1), _, _, rfl, rfl, _, rfl, ite2 (fun _ => k _ s1) (fun z24 => ?_)⟩
    have n6 : n ≤ 6 := by
      have : ¬ (6 : Int) < (n : Int) := fun q => z6 (decide_eq_true q)
      omega
    have w24 : S.word.length ≤ 24 := by
      have : ¬ (24 : Int) < (((S.word.map V.int).length : Nat) : Int) := fun q => z24 (decide_eq_true q)
      rw [lenW] at this
      omega
    obtain ⟨R, kl, hv⟩ := val_ok n2 n6 hx
    refine ⟨_, rfl, _, rfl, n, r1, S.word, R, kl, rfl, h1, n2, n6, hx, hv.law, fun t1 a1 H2 s2 ha1 ht1 => ?_⟩
    refine ⟨t1, _, rfl, .of ht1, rfl, _, _, rfl, _, _, rfl, rfl, ?_⟩
    have s12 := s1.trans s2
    obtain ⟨B2, he2, _, _⟩ := id (hE.same s12)
    refine ⟨_, rfl, b, B2.dx, _, rfl, he2.ob, eF_state _ _ _ _ _ _ _, b, n, S, F, c, R, kl, rfl, hE.same s12, n2, n6, by omega, hx, hv, fun t2 a2 H3 s3 d3 ht2 => ?_⟩
    refine ⟨t2, _, rfl, .of ht2, rfl, _, _, rfl, _, _, rfl, rfl, ?_⟩
    have s13 := s12.trans s3
    refine ⟨Nat.zero_le _, fun dq hdq => ?_⟩
    have fq : H dq = none := Same.free s13 hdq
    have h13 := (s2.trans s3) _ _ h1
    have ha13 := s3 _ _ ha1
    have fr1 : r1 ≠ dq := ne_of_none h13 hdq
    have fa1 : a1 ≠ dq := ne_of_none ha13 hdq
    have h4 := same_new (Same.refl _) hdq (o := .lst []) _ _ h13
    have ha4 := same_new (Same.refl _) hdq (o := .lst []) _ _ ha13
    have d4 := d3.same (same_new (Same.refl _) hdq (o := .lst []))
    have s14 := same_new s13 hdq (o := .lst [])
    have q4 : upd H3 dq (.lst []) dq = some (.lst []) := upd_same
    generalize upd H3 dq (.lst []) = H4 at h4 ha4 d4 s14 q4 ⊢
    refine ⟨_, rfl, r1, _, rfl, .inl (.of h4), _, rfl, by rw [lenW]; omega, by rw [lenW]; omega, ?_⟩
    have en : (((S.word.map V.int).length : Nat) : Int).toNat = S.word.length := by rw [lenW]; exact Int.toNat_natCast _
    refine for_range (lo := 0) (n := (((S.word.map V.int).length : Nat) : Int).toNat) (fun i σ H5 => ∃ (v9 : Option V), σ = [some (.ref b), some (.ref m), some (.ref r1), some (.int (n : Nat)), some (.ref a1), some (.int (kl : Nat)), some (.ref a2), some (.int (kl : Nat)), some (.ref dq), v9] ∧ Same H H5 ∧ H5 r1 = some (.lst (S.word.map V.int)) ∧ H5 a1 = some (.tup (R.map V.int)) ∧ DiaAt K H5 a2 n R ∧
      H5 dq = some (.lst (((List.range i).filter (remB n S.word R)).map nV))) ⟨none, rfl, s14, h4, ha4, d4, q4⟩ ?_ ?_
    · rintro i σ H5 hi ⟨v9, rfl, s5, h5, ha5, d5, q5⟩
      rw [en] at hi
      have ei : (0 : Int) + (i : Nat) = (i : Int) := Int.zero_add _
      refine ⟨_, rfl, _, rfl, _, rfl, _, rfl, r1, _, rfl, .of h5, fun p1 hp1 => ?_⟩
      rw [ei, cut_take _ (by rw [lenW]; omega)]
      have t1' := same_new (Same.refl H5) hp1 (o := .lst ((S.word.map V.int).take i))
      have g1 : upd H5 p1 (.lst ((S.word.map V.int).take i)) p1 = some (.lst ((S.word.map V.int).take i)) := upd_same
      generalize upd H5 p1 (.lst ((S.word.map V.int).take i)) = H6 at t1' g1 ⊢
      have e2 : (i : Int) + 1 = ((i + 1 : Nat) : Int) := by omega
      refine ⟨_, rfl, _, rfl, _, _, rfl, rfl, _, rfl, r1, _, rfl, .of (t1' _ _ h5), fun p2 hp2 => ?_⟩
      have ec : cutV (S.word.map V.int) (some ((i : Int) + 1)) none = (S.word.map V.int).drop (i + 1) := by rw [e2, cut_drop _ (by rw [lenW]; omega)]
      refine (congrArg (fun xs => upd H6 p2 (.lst xs)) ec) ▸ ?_
      have n12 : p1 ≠ p2 := ne_of_none g1 hp2
      refine ⟨p1, p2, _, _, rfl, rfl, (by rw [upd_ne n12]; exact g1), upd_same, line_of (by rw [List.length_take, List.length_drop, lenW]; omega), fun p3 hp3 => ?_⟩
      have ed : (S.word.map V.int).take i ++ (S.word.map V.int).drop (i + 1) = (del_ S.word i).map V.int := by
        unfold del_
        rw [List.map_append, List.map_take, List.map_drop]
      rw [ed]
      have t3 := same_new (same_new t1' hp2 (o := .lst ((S.word.map V.int).drop (i + 1)))) hp3 (o := .lst ((del_ S.word i).map V.int))
      have g3 : upd (upd H6 p2 (.lst ((S.word.map V.int).drop (i + 1)))) p3 (.lst ((del_ S.word i).map V.int)) p3 = some (.lst ((del_ S.word i).map V.int)) := upd_same
      generalize upd (upd H6 p2 (.lst ((S.word.map V.int).drop (i + 1)))) p3 (.lst ((del_ S.word i).map V.int)) = H7 at t3 g3 ⊢
      have hx6 : ∀ x ∈ del_ S.word i, 0 ≤ x ∧ x + 2 ≤ (n : Int) := fun x hx' => hx x (del_mem hx')
      obtain ⟨R6, k6, v6⟩ := val_ok n2 n6 hx6
      refine ⟨n, p3, del_ S.word i, R6, k6, rfl, g3, n2, n6, hx6, v6.law, fun t8 a8 H8 s8 ha8 ht8 => ?_⟩
      have s58 := t3.trans s8
      refine ⟨t8, _, 0, _, rfl, rfl, .of ht8, rfl, _, rfl, _, _, dp_tints (.of ha8), dp_tints (.of (s58 _ _ ha5)), sh_tints _, sh_tints _, _, rfl, ?_⟩
      rw [eqv_tints]
      have er := remB_val (R := R) v6
      have q8 := s58 _ _ q5
      have lenF : ((List.range i).filter (remB n S.word R)).length ≤ i := by
        have := List.length_filter_le (remB n S.word R) (List.range i)
        rw [List.length_range] at this
        exact this
      cases hb : decide (R6 = R) with
      | true =>
        rw [hb] at er
        refine iteT ⟨_, rfl, .inl ⟨rfl, _, .of q8⟩, _, rfl, dq, _, _, rfl, rfl, q8, line_lt (by rw [List.length_map]; omega), ?_⟩
        refine ⟨_, rfl, fun x o w => ?_, ?_, ?_, ?_, ?_⟩
        · rw [upd_ne (ne_of_none w fq)]
          exact s58 _ _ (s5 _ _ w)
        · rw [upd_ne fr1]; exact s58 _ _ h5
        · rw [upd_ne fa1]; exact s58 _ _ ha5
        · exact (d5.same s58).upd_lst q8
        · rw [upd_same, List.range_succ, List.filter_append, List.map_append]
          have e1 : List.filter (remB n S.word R) [i] = [i] := by simp [er]
          rw [e1]
          rfl
      | false =>
        rw [hb] at er
        refine iteF ⟨_, rfl, s5.trans s58, s58 _ _ h5, s58 _ _ ha5, d5.same s58, ?_⟩
        rw [q8, List.range_succ, List.filter_append]
        have e1 : List.filter (remB n S.word R) [i] = [] := by simp [er]
        rw [e1, List.append_nil]
    · rintro σ H5 ⟨v9, rfl, s5, h5, ha5, d5, q5⟩
      rw [en] at q5
      obtain ⟨dx, tt, o1, _⟩ := id d5.ob
      refine ⟨_, rfl, a2, dx, _, rfl, o1, dF_partners _ _, a2, n, R, rfl, d5, fun t' ht' => ?_⟩
      refine ⟨_, rfl, _, _, dp_tints (.of ht'), dp_tints (.of ha5), sh_tints _, sh_tints _, _, rfl, ?_⟩
      rw [eqv_tints, decide_eq_true rfl]
      refine iteT ⟨_, rfl, _, rfl, rfl, _, rfl, ?_⟩
      rw [decide_eq_true rfl]
      obtain ⟨B5, he5, _, _⟩ := id (hE.same s5)
      refine iteT ⟨_, rfl, b, B5.dx, _, rfl, he5.ob, eF_removable _ _ _ _ _ _ _, b, n, S, F, c, R, kl, rfl, hE.same s5, n2, n6, by omega, hx, hv, fun r9 H9 s9 h9 => ?_⟩
      have e9 : (remM n S.word R).map nV = (natI (remM n S.word R)).map V.int := (natI_map _).symm
      have q9 := s9 _ _ q5
      have e10 : ((List.range S.word.length).filter (remB n S.word R)).map nV = (natI (remM n S.word R)).map V.int := (natI_map _).symm
      rw [e9] at h9
      rw [e10] at q9
      refine ⟨_, rfl, _, _, dp_ints (.of h9), dp_ints (.of q9), sh_lints _, sh_lints _, ?_⟩
      rw [eqv_lints, decide_eq_true rfl]
      exact k _ (s5.trans s9)
end
end K54
namespace K54
open PySem PySem.Spec PyProof.Rows L2
/-! ### what an action does to the word -/
structure Inv1 (n : Nat) (S : Ed Str) (i : Nat) : Prop where
  ok : S.Ok
  ow : ∀ x ∈ S.owners, x ∈ users
  le : ∀ x ∈ S.letters, 0 ≤ x ∧ x + 2 ≤ (n : Int)
  sh : S.shown.length ≤ i
theorem Inv1.word {n i : Nat} {S : Ed Str} (I : Inv1 n S i) : ∀ x ∈ S.word, 0 ≤ x ∧ x + 2 ≤ (n : Int) := fun x hx => by
  obtain ⟨a, ha, rfl⟩ := List.mem_map.mp hx
  have hl := shown_lt I.ok ha
  refine I.le _ ?_
  rw [List.getD_eq_getElem?_getD, List.getElem?_eq_getElem hl]
  exact List.getElem_mem hl
def Act.isU : Act → Bool
  | .undo _ => true
  | _ => false
theorem Inv1.go {n i : Nat} {S : Ed Str} (I : Inv1 n S i) (a : Act) (ha : a.Ok n S) : Inv1 n (a.go S) (i + 1) ∧ ((a.out S = none ∧ ((a.go S).shown.length : Int) = S.shown.length + (if a.isU = true then -1 else 1)) ∨ (a.go S = S ∧ ∃ p : Str × Str, a.out S = some p ∧ (p.1 = "undo" ∨ p.1 = "redo") ∧ p.2 ∈ users)) := by
  cases a with
  | undo u =>
    by_cases h : S.done u = []
    · have e : (Act.undo u).go S = S := if_pos h
      rw [e]
      exact ⟨⟨I.ok, I.ow, I.le, Nat.le_succ_of_le I.sh⟩, .inr ⟨rfl, _, if_pos h, .inl rfl, ha⟩⟩
    · have e : (Act.undo u).go S = S.undo u := if_neg h
      rw [e]
      have q := I.ok.len_undo h
      have := I.sh
      refine ⟨⟨I.ok.undo h, I.ow, I.le, by omega⟩, .inl ⟨if_neg h, ?_⟩⟩
      show ((S.undo u).shown.length : Int) = S.shown.length + -1
      omega
  | redo u =>
    by_cases h : S.undone u = []
    · have e : (Act.redo u).go S = S := if_pos h
      rw [e]
      exact ⟨⟨I.ok, I.ow, I.le, Nat.le_succ_of_le I.sh⟩, .inr ⟨rfl, _, if_pos h, .inr rfl, ha⟩⟩
    · have e : (Act.redo u).go S = S.redo u := if_neg h
      rw [e]
      have q := I.ok.len_redo h
      have := I.sh
      refine ⟨⟨I.ok.redo h, I.ow, I.le, by omega⟩, .inl ⟨if_neg h, ?_⟩⟩
      show ((S.redo u).shown.length : Int) = S.shown.length + 1
      omega
  | add u l =>
    obtain ⟨a1, a2, a3⟩ := ha
    have q := I.ok.len_ins u S.shown.length l
    have := I.sh
    refine ⟨⟨I.ok.ins _ _ _, fun x hx => ?_, fun x hx => ?_, by show (S.ins u S.shown.length l).shown.length ≤ _; omega⟩, .inl ⟨rfl, ?_⟩⟩
    · rcases List.mem_append.mp (show x ∈ S.owners ++ [u] from hx) with z | z
      · exact I.ow x z
      · rw [List.mem_singleton.mp z]; exact a1
    · rcases List.mem_append.mp (show x ∈ S.letters ++ [l] from hx) with z | z
      · exact I.le x z
      · rw [List.mem_singleton.mp z]; exact ⟨a2, a3⟩
    · show ((S.ins u S.shown.length l).shown.length : Int) = S.shown.length + 1
      omega
  | ins u pos l =>
    obtain ⟨a1, a0, a2, a3⟩ := ha
    have q := I.ok.len_ins u pos l
    have := I.sh
    refine ⟨⟨I.ok.ins _ _ _, fun x hx => ?_, fun x hx => ?_, by show (S.ins u pos l).shown.length ≤ _; omega⟩, .inl ⟨rfl, ?_⟩⟩
    · rcases List.mem_append.mp (show x ∈ S.owners ++ [u] from hx) with z | z
      · exact I.ow x z
      · rw [List.mem_singleton.mp z]; exact a1
    · rcases List.mem_append.mp (show x ∈ S.letters ++ [l] from hx) with z | z
      · exact I.le x z
      · rw [List.mem_singleton.mp z]; exact ⟨a2, a3⟩
    · show ((S.ins u pos l).shown.length : Int) = S.shown.length + 1
      omega
theorem Act.head (a : Act) : ∃ (k : Str) (r : List V), a.v = .str k :: r ∧ decide (V.str k = V.str "undo") = a.isU := by
  cases a with
  | undo u => exact ⟨"undo", _, rfl, eq_str _⟩
  | redo u => exact ⟨"redo", _, rfl, ne_str (by decide)⟩
  | add u l => exact ⟨"add", _, rfl, ne_str (by decide)⟩
  | ins u pos l => exact ⟨"insert", _, rfl, ne_str (by decide)⟩
theorem pair_len {p : Str × Str} (h1 : p.1 = "undo" ∨ p.1 = "redo") (h2 : p.2 ∈ users) : (pairD p.1 p.2).shown.length ≤ sizeLine := by
  have e : (users.all fun u => decide ((pairD "undo" u).shown.length ≤ 1000) && decide ((pairD "redo" u).shown.length ≤ 1000)) = true := by decide +kernel
  have q := List.all_eq_true.mp e p.2 h2
  rw [Bool.and_eq_true, decide_eq_true_eq, decide_eq_true_eq] at q
  refine Nat.le_trans (m := 1000) ?_ (by decide)
  rcases h1 with z | z <;> rw [z]
  · exact q.1
  · exact q.2
theorem same_sql {K : PySem.W.Frag} {H H' : Hp} {a : Addr} {xs : List V} (e : Same H H') (h : SqL K H a xs) : SqL K H' a xs := by
  rcases h with (h | ⟨o, h⟩) | h
  · exact .inl (.inl (e _ _ h))
  · exact .inl (.inr ⟨o, e _ _ h⟩)
  · exact .inr h
/-- board and model at hand, both made since the start -/
structure Both (K : PySem.W.Frag) (H0 H : Hp) (b m : Addr) (n : Nat) (S : Ed Str) (F G : Addr → Prop) (c : Nat) : Prop where
  ed : EdAt K H b n S F c
  md : ModAt K H m n S G c
  sm : Same H0 H
  nF : ∀ x, F x → H0 x = none
  nG : ∀ x, G x → H0 x = none
  dj : ∀ x, F x → ¬ G x
theorem Both.same {K : PySem.W.Frag} {H0 H H1 : Hp} {b m : Addr} {n : Nat} {S : Ed Str} {F G : Addr → Prop} {c : Nat} (B : Both K H0 H b m n S F G c) (s : Same H H1) : Both K H0 H1 b m n S F G c :=
  ⟨B.ed.same s, B.md.same s, B.sm.trans s, B.nF, B.nG, B.dj⟩
theorem ModAt.nf {K : PySem.W.Frag} {H : Hp} {m : Addr} {n : Nat} {S : Ed Str} {G : Addr → Prop} {c : Nat} (E : ModAt K H m n S G c) {x : Addr} (h : H x = none) : ¬ G x := fun f => by
  obtain ⟨⟨A, md⟩, _⟩ := E
  obtain ⟨o, e⟩ := md.al x f
  rw [h] at e; cases e
end K54
namespace K54
open PySem PySem.Spec PyProof.Rows L2
section
variable {P : Program} {w : World} {K : PySem.W.Frag} {mg : Str → Option Value} {ex : PySem.W.Frag → Bool} {base : Heap}
def spLaw (K : PySem.W.Frag) : Sp := fun vs H Q _ => ∃ (a : Addr) (ns : List Int), vs = [.ref a] ∧ SqL K H a (ns.map V.int) ∧ ns.length ≤ 100000 ∧ ∀ H', Q (.bl true) H'
theorem room13 : Room (12 + 1) callerA := ⟨rfl, by decide, by decide⟩
theorem ok_law (T : Top K mg ex) (G : Ers K) : FnAt P w K mg base CX0 callerA (He.fAd K a_law) (fdOf K a_law) ["_law_script"] (spLaw K) := by
  have GT : FnOk P w K mg base CX0 1 (He.fAd K a_law_take) (fdOf K a_law_take) ["_law_pool_here", "_law_count"] spTake := ok_take T
  have GI : FnOk P w K mg base CX0 4 (He.ma K (cEd K) "__init__") (fdOf K a_Editor_init) ["self", "columns"] (spEInit K) := ok_einit T
  have GD : FnOk P w K mg base CX0 5 (He.fAd K a_law_do) (fdOf K a_law_do) ["_law_board", "_law_action_here"] (spDo K) := ok_do T G
  refine fn_at T.f_law room13 sc_law (fun vs H Q E h => ?_) (fun cdv outer s H vs Q E hr h => ?_)
  · obtain ⟨_, _, rfl, _⟩ := h
    rfl
  · obtain ⟨a, ns, rfl, ha, hlen, k⟩ := h
    have hu4 : (callerA.deeper (envOfC d_law.qual d_law.scope s.heap.objs.size (He.fAd K d_law.at_) cdv)).units + 4 < cLine := by have := hr.units; omega
    suffices hh : ∃ t, PSs (cxOf CX0 P w K mg base ["_law_script", "_law_pool_here", "_law_width", "_law_board", "_law_model", "_law_balance", "_law_k", "_law_action_here", "_law_expected_here"] d_law.qual d_law.scope (He.fAd K d_law.at_) cdv callerA outer s H E).nox d_law.body t ∧ t { nx := fun _ H' => Q .non H', rt := Q } (start ["_law_script", "_law_pool_here", "_law_width", "_law_board", "_law_model", "_law_balance", "_law_k", "_law_action_here", "_law_expected_here"] [V.ref a]) H from
      let ⟨t, ht, q⟩ := hh; ⟨t, PSs.nox ht, q⟩
    refine ⟨_, pss_cons (ps_set (i := 1) sc_law.nd rfl (Or.inl rfl) (pe_call (ok_pool T) (hr.mono (by decide)) (by rfl) T.g_law_pool T.f_law_pool.kp T.b_law_pool .nil pass0 (pa_cons (pv 0) (pa_cons pe_int pa_nil)))) <|
      pss_cons (ps_set (i := 2) sc_law.nd rfl (Or.inl rfl) (pe_op op_add pe_int (pe_call GT (hr.mono (by decide)) (by rfl) T.g_law_take T.f_law_take.kp T.b_law_take .nil pass0 (pa_cons (pv 1) (pa_cons
        (pe_ix ix_list (pe_lst (pa_cons pe_int (pa_cons pe_int pa_nil))) (pe_call GT (hr.mono (by decide)) (by rfl) T.g_law_take T.f_law_take.kp T.b_law_take .nil pass0 (pa_cons (pv 1) (pa_cons pe_int pa_nil))) (fun _ _ => rfl)) pa_nil))))) <|
      pss_cons (ps_par3 (i := 3) (j := 4) (l := 5) rfl sc_law.nd rfl rfl rfl (by decide) (by decide) (by decide) rfl rfl rfl (pa_cons (pe_make T.mk_Editor GI (hr.mono (by decide)) (by rfl) T.g_Editor T.b_Editor_init .nil pass0 (pa_cons (pv 2) pa_nil))
          (pa_cons (pe_call (ok_mnew T) (hr.mono (by decide)) (by rfl) T.g_law_new_model T.f_law_new_model.kp T.b_law_new_model .nil pass0 (pa_cons (pv 2) pa_nil)) (pa_cons pe_int pa_nil))) (by rfl)) <|
      pss_cons (ps_for PassesOwn.never rfl (pi_range2 (by rfl) T.z_range (pa_cons pe_int (pa_cons (pe_callB (call_max2 rfl) (by rfl) T.z_max boot_max (pa_cons pe_int (pa_cons (pe_callB (call_min2 rfl) (by rfl) T.z_min boot_min (pa_cons pe_int (pa_cons (pe_callB call_len_seq (by rfl) T.z_len PySem.boot_len (pa_cons (pv 0) pa_nil)) pa_nil))) pa_nil))) pa_nil))) (pg_name (i := 6) sc_law.nd rfl (Or.inl rfl))
        (pss_cons (ps_set (i := 7) sc_law.nd rfl (Or.inl rfl) (pe_call (ok_act T) (hr.mono (by decide)) (by rfl) T.g_law_action T.f_law_action.kp T.b_law_action .nil pass0 (pa_cons (pe_call (ok_pool T) (hr.mono (by decide)) (by rfl) T.g_law_pool T.f_law_pool.kp T.b_law_pool .nil pass0 (pa_cons (pv 0) (pa_cons (pv 6) pa_nil))) (pa_cons (pv 4) pa_nil)))) <|
         pss_cons (ps_set (i := 8) sc_law.nd rfl (Or.inl rfl) (pe_call (ok_exp T) (hr.mono (by decide)) (by rfl) T.g_law_expected T.f_law_expected.kp T.b_law_expected .nil pass0 (pa_cons (pv 4) (pa_cons (pv 7) pa_nil)))) <|
         pss_cons (ps_if (PW.pt (pw_or (pt_cmpR op_ne (pe_callB (call_repr rfl hu4) (by rfl) T.z_repr boot_repr (pa_cons (pe_call GD (hr.mono (by decide)) (by rfl) T.g_law_do T.f_law_do.kp T.b_law_do .nil pass0 (pa_cons (pv 3) (pa_cons (pv 7) pa_nil))) pa_nil)) (pe_callB (call_repr rfl hu4) (by rfl) T.z_repr boot_repr (pa_cons (pv 8) pa_nil)) (nomark _))
            (pw_or1 (pt_not (pt_val (pe_call (ok_chk T) (hr.mono (by decide)) (by rfl) T.g_law_check T.f_law_check.kp T.b_law_check .nil pass0 (pa_cons (pv 3) (pa_cons (pv 4) pa_nil)))))))) (pss_one (ps_ret pe_bl)) pss_nil) <|
         pss_cons (ps_if (pt_cmpR op_isN (pv 8) pe_non (nomark _)) (pss_one (ps_set (i := 5) sc_law.nd rfl (Or.inl rfl) (pe_op op_add (pv 5) (pe_ifExp (pt_cmpR op_eq (pe_ix ix_tup (pv 7) pe_int (fun _ _ => rfl)) pe_str (nomark _)) (pe_un un_neg pe_int) pe_int)))) pss_nil) <|
         pss_one (ps_if (pt_cmpR op_ne (pe_callB call_len_seq (by rfl) T.z_len PySem.boot_len (pa_cons (pe_meth0 (pv 3) T.cl_Editor T.me_Editor_word (ok_word T) (hr.mono (by decide)) T.b_Editor_word .nil pass0) pa_nil)) (pv 5) (nomark _)) (pss_one (ps_ret pe_bl)) pss_nil))) <|
      pss_one (ps_ret (pe_and (pe_call (ok_stt T G) hr (by rfl) T.g_law_check_state T.f_law_check_state.kp T.b_law_check_state .nil pass0 (pa_cons (pv 3) (pa_cons (pv 4) pa_nil)))
        (pe_one (pe_call (ok_und T G) (hr.mono (by decide)) (by rfl) T.g_law_check_undone T.f_law_check_undone.kp T.b_law_check_undone .nil pass0 (pa_cons (pv 3) (pa_cons (pv 4) pa_nil)))))), ?_⟩
    have two : ∀ (x y v : Int), 0 ≤ v → v < 2 → ∃ z, atI [V.int x, .int y] v = some (.int z) ∧ (z = x ∨ z = y) := fun x y v v0 v1 => by
      rcases (by omega : v = 0 ∨ v = 1) with e | e <;> subst e
      · exact ⟨x, rfl, .inl rfl⟩
      · exact ⟨y, rfl, .inr rfl⟩
    refine ⟨_, rfl, a, ns, 0, rfl, ha, by omega, fun p H1 s1 hp pl1 => ?_⟩
    have ps1 : PSt p H H1 := ⟨fun b o _ q => s1 b o q, pl1⟩
    refine ⟨_, rfl, (by show 2 ≤ sizeLine; decide), fun l2 hl2 => ?_⟩
    have nl2 : l2 ≠ p := fun q => by obtain ⟨x, y, e, _⟩ := pl1; rw [q, e] at hl2; cases hl2
    have ps2 := ps1.same (same_new (Same.refl _) hl2 (o := .lst [.int 5, .int 15]))
    have e2 : upd H1 l2 (.lst [.int 5, .int 15]) l2 = some (.lst [.int 5, .int 15]) := upd_same
    generalize upd H1 l2 (.lst [.int 5, .int 15]) = H2 at ps2 e2 ⊢
    refine ⟨_, rfl, p, 2, rfl, ps2.pool, by decide, by decide, fun v o' v0 v1 ho => ?_⟩
    have ps3 := ps2.take ho
    have e3 : upd H2 p o' l2 = some (.lst [.int 5, .int 15]) := by rw [upd_ne nl2]; exact e2
    generalize upd H2 p o' = H3 at ps3 e3 ⊢
    obtain ⟨z, hz, hz'⟩ := two 5 15 v v0 v1
    refine ⟨l2, _, v, _, rfl, rfl, .of e3, hz, p, z, rfl, ps3.pool, by omega, by omega, fun v2 o2 v20 v21 ho2 => ?_⟩
    have ps4 := ps3.take ho2
    generalize upd H3 p o2 = H4 at ps4 ⊢
    obtain ⟨n, en⟩ : ∃ n : Nat, 2 + v2 = (n : Int) := ⟨(2 + v2).toNat, by omega⟩
    have s4 : Same H H4 := fun b o q => ps4.off b o (ne_of_none q hp) q
    refine ⟨_, _, rfl, rfl, ?_⟩
    show tSeq _ _ _ [some (V.ref a), some (.ref p), some (.int (2 + v2)), none, none, none, none, none, none] _
    rw [en]
    have n2 : 2 ≤ n := by omega
    have n16 : n ≤ 16 := by omega
    clear ps1 ps2 ps3
    -- board, model
    refine ⟨_, rfl, fun b dx hb hdx ndx => ?_⟩
    have s5 : Same H4 (upd (upd H4 dx (.own b)) b (.ins (cEd K) dx [])) := same_new (same_new (Same.refl _) hdx) (by rw [upd_ne ndx.symm]; exact hb)
    have hb0 : H b = none := Same.free s4 hb
    refine ⟨b, dx, n, rfl, upd_same, by omega, n16, fun H6 F off6 ed6 gr6 => ⟨rfl, ?_⟩⟩
    have s6 : Same H4 H6 := fun x o q => off6 x o (ne_of_none q hb) (s5 _ _ q)
    have nF6 : ∀ x, F x → H x = none := fun x f => by
      rcases gr6 x f with q | q
      · rw [q]; exact hb0
      · exact Same.free (s4.trans s5) q
    refine ⟨_, rfl, n, rfl, fun m H7 G7 s7 md7 gr7 => ?_⟩
    refine ⟨_, _, _, rfl, ?_⟩
    have s47 : Same H H7 := s4.trans (s6.trans s7)
    have B7 : Both K H H7 b m n Ed.new F G7 0 := ⟨ed6.same s7, md7, s47, nF6, fun x g => Same.free (s4.trans s6) (gr7 x g), fun x f g => (ed6.nf (gr7 x g)) f⟩
    -- the loop
    have hMb : ∀ x : Int, 12 ≤ (if (if x < 63 then x else 63) > 12 then (if x < 63 then x else 63) else 12) ∧ (if (if x < 63 then x else 63) > 12 then (if x < 63 then x else 63) else 12) ≤ 63 := fun x => by
      split <;> split <;> omega
    refine ⟨_, rfl, a, _, rfl, .inl (same_sql s47 ha), _, _, rfl, _, _, rfl, ?_⟩
    have hM := hMb (((ns.map V.int).length : Nat) : Int)
    generalize (if (if (((ns.map V.int).length : Nat) : Int) < 63 then (((ns.map V.int).length : Nat) : Int) else 63) > 12 then (if (((ns.map V.int).length : Nat) : Int) < 63 then (((ns.map V.int).length : Nat) : Int) else 63) else 12) = M at hM ⊢
    refine ⟨_, _, rfl, ⟨by omega, by omega, by omega, by omega⟩, ?_⟩
    refine for_range (lo := 1) (n := (M - 1).toNat) (fun i σ Hk => ∃ (v6 v7 v8 : Option V) (S : Ed Str) (F G : Addr → Prop) (c : Nat), σ = [some (.ref a), some (.ref p), some (.int (n : Nat)), some (.ref b), some (.ref m), some (.int (S.shown.length : Nat)), v6, v7, v8] ∧ Both K H Hk b m n S F G c ∧ Inv1 n S i ∧ c ≤ 6 * i)
      ⟨none, none, none, Ed.new, F, G7, 0, rfl, B7, ⟨Ed.new_ok, fun x h => (nomatch h), fun x h => (nomatch h), Nat.le_refl _⟩, Nat.le_refl _⟩ ?_ ?_
    · rintro i σ Hk hi ⟨v6, v7, v8, S, F, G', c, rfl, BB, I, hc⟩
      have hi62 : i < 62 := by omega
      have ek : (1 : Int) + (i : Nat) = ((i + 1 : Nat) : Int) := by omega
      -- the action
      refine ⟨_, rfl, _, rfl, a, ns, i + 1, ?_, same_sql BB.sm ha, by omega, fun q H1 t1 hq pl => ?_⟩
      · show [V.ref a, V.int (1 + (i : Nat))] = _
        rw [ek]
      have B1 := BB.same t1
      have nFq : ¬ F q := BB.ed.nf hq
      have nGq : ¬ G' q := BB.md.nf hq
      have H0q : H q = none := Same.free BB.sm hq
      refine ⟨_, rfl, q, m, n, S, G', c, rfl, pl, B1.md, nGq, n2, n16, by have := I.sh; omega, fun t act H2 off2 ht0 ht ha2 => ?_⟩
      have B2 : Both K H H2 b m n S F G' c := ⟨B1.ed.same' fun x o f h => off2 x o (fun e => nFq (e ▸ f)) h, B1.md.same' fun x o f h => off2 x o (fun e => nGq (e ▸ f)) h,
        fun x o h => off2 x o (ne_of_none h H0q) (B1.sm _ _ h), B1.nF, B1.nG, B1.dj⟩
      have nFt : ¬ F t := B1.ed.nf ht0
      have nGt : ¬ G' t := B1.md.nf ht0
      obtain ⟨kk, rr, ev, eu⟩ := act.head
      -- expected
      refine ⟨_, rfl, _, rfl, m, t, n, S, G', c, act, rfl, ht, B2.md, ha2, by omega, fun x1 H3 G3 off3 gr3 md3 rv3 fr3 => ?_⟩
      have ed3 : EdAt K H3 b n S F c := B2.ed.same' fun x o f h => off3 x o (B2.dj x f) h
      have sm3 : Same H H3 := fun x o h => off3 x o (fun g => by rw [B2.nG x g] at h; cases h) (B2.sm _ _ h)
      have ht3 : H3 t = some (.tup act.v) := off3 _ _ nGt ht
      have nG3 : ∀ x, G3 x → H x = none := fun x g => (gr3.2 x g).elim (B2.nG x) fun z => Same.free B2.sm z
      have dj3 : ∀ x, F x → ¬ G3 x := fun x f g => (gr3.2 x g).elim (B2.dj x f) fun z => (B2.ed.nf z) f
      obtain ⟨I', bal⟩ := I.go act ha2
      -- what the board does
      refine ⟨_, rfl, _, rfl, b, t, n, S, F, c, act, rfl, ht3, ed3, ha2, by omega, fun x2 H4 F4 off4 gr4 ed4 rv4 => ?_⟩
      have md4 : ModAt K H4 m n (act.go S) G3 (c + 6) := md3.same' fun x o g h => off4 x o (fun f => dj3 x f g) h
      have sm4 : Same H H4 := fun x o h => off4 x o (fun f => by rw [B2.nF x f] at h; cases h) (sm3 _ _ h)
      have ht4 : H4 t = some (.tup act.v) := off4 _ _ nFt ht3
      have B4 : Both K H H4 b m n (act.go S) F4 G3 (c + 6) := ⟨ed4, md4, sm4, fun x f => (gr4.2 x f).elim (B2.nF x) fun z => Same.free sm3 z, nG3, fun x f g => (gr4.2 x f).elim (fun f' => dj3 x f' g) fun z => (md3.nf z) g⟩
      -- the tail, once what both answered is known
      have tail : ∀ (bal2 : Int), ((act.go S).shown.length : Int) = bal2 → ∀ H5, Same H4 H5 → ∃ (v6 v7 v8 : Option V) (S2 : Ed Str) (F2 G2 : Addr → Prop) (c2 : Nat), [some (V.ref a), some (.ref p), some (.int (n : Nat)), some (.ref b), some (.ref m), some (.int bal2), some (.int (1 + (i : Nat))), some (.ref t), some x1] = [some (V.ref a), some (.ref p), some (.int (n : Nat)), some (.ref b), some (.ref m), some (.int (S2.shown.length : Nat)), v6, v7, v8] ∧ Both K H H5 b m n S2 F2 G2 c2 ∧ Inv1 n S2 (i + 1) ∧ c2 ≤ 6 * (i + 1) := fun bal2 e H5 s5 => by
        subst e
        exact ⟨_, _, _, act.go S, F4, G3, c + 6, rfl, B4.same s5, I', by omega⟩
      have lenQ : ∀ H5, Same H4 H5 → EdAt K H5 b n (act.go S) F4 (c + 6) := fun H5 s5 => ed4.same s5
      rcases bal with ⟨eo, bal⟩ | ⟨eg, pp, eo, hp1, hp2⟩
      · rw [eo] at rv3 rv4
        have e1 : x1 = .non := rv3
        have e2 : x2 = .non := rv4
        subst e1 e2
        refine .inl ⟨rfl, _, rfl, .inl ⟨rfl, rfl, _, rfl, ?_⟩⟩
        rw [eq_str]
        refine iteF ⟨_, rfl, _, rfl, b, m, n, n, act.go S, F4, G3, c + 6, c + 6, rfl, ed4, md4, I'.ow, fun H5 s5 => ⟨_, rfl, iteF ?_⟩⟩
        have ht5 := s5 _ _ ht4
        rw [ev] at ht5
        refine ⟨_, rfl, rfl, _, rfl, iteT ?_⟩
        refine ⟨_, rfl, _, rfl, t, _, ((0 : Nat) : Int), V.str kk, rfl, rfl, .of ht5, atI_nat rfl, rfl, _, rfl, ?_⟩
        rw [eu]
        have wl : ((((act.go S).word.map V.int).length : Nat) : Int) = (act.go S).shown.length := by rw [List.length_map]; exact congrArg Int.ofNat (List.length_map _)
        obtain ⟨Bd, hed, _, _⟩ := id (lenQ H5 s5)
        have last : ∀ bal2 : Int, ((act.go S).shown.length : Int) = bal2 → V.int ((((act.go S).word.map V.int).length : Nat) : Int) = V.int bal2 := fun bal2 e => congrArg V.int (wl.trans e)
        cases hU : act.isU with
        | true =>
          rw [hU, if_pos rfl] at bal
          refine iteT ⟨_, rfl, _, _, rfl, rfl, ?_⟩
          refine ⟨_, rfl, b, Bd.dx, _, rfl, hed.ob, eF_word _ _ _ _ _ _ _, b, n, act.go S, F4, c + 6, rfl, lenQ H5 s5, fun r H6 s6 f6 h6 => ?_⟩
          refine ⟨r, _, rfl, .inl (.of h6), _, rfl, rfl, _, rfl, ?_⟩
          refine iteNS (last _ bal) ?_
          exact tail _ bal H6 (s5.trans s6)
        | false =>
          rw [hU, if_neg Bool.false_ne_true] at bal
          refine iteF ⟨_, _, rfl, rfl, ?_⟩
          refine ⟨_, rfl, b, Bd.dx, _, rfl, hed.ob, eF_word _ _ _ _ _ _ _, b, n, act.go S, F4, c + 6, rfl, lenQ H5 s5, fun r H6 s6 f6 h6 => ?_⟩
          refine ⟨r, _, rfl, .inl (.of h6), _, rfl, rfl, _, rfl, ?_⟩
          refine iteNS (last _ bal) ?_
          exact tail _ bal H6 (s5.trans s6)
      · rw [eo] at rv3 rv4
        obtain ⟨a3, rfl, h3⟩ := rv3
        obtain ⟨a4, rfl, h4⟩ := rv4
        have nFa : ¬ F a3 := B2.ed.nf (fr3 a3 rfl)
        have h3' := off4 _ _ nFa h3
        refine .inr ⟨a4, pp.1, pp.2, rfl, h4, pair_len hp1 hp2, _, rfl, .inr ⟨a3, pp.1, pp.2, rfl, h3', pair_len hp1 hp2, rfl, _, rfl, ?_⟩⟩
        rw [eq_str]
        refine iteF ⟨_, rfl, _, rfl, b, m, n, n, act.go S, F4, G3, c + 6, c + 6, rfl, ed4, md4, I'.ow, fun H5 s5 => ⟨_, rfl, iteF ?_⟩⟩
        refine ⟨_, rfl, rfl, _, rfl, iteF ?_⟩
        obtain ⟨Bd, hed, _, _⟩ := id (lenQ H5 s5)
        refine ⟨_, rfl, b, Bd.dx, _, rfl, hed.ob, eF_word _ _ _ _ _ _ _, b, n, act.go S, F4, c + 6, rfl, lenQ H5 s5, fun r H6 s6 f6 h6 => ?_⟩
        have wl : ((((act.go S).word.map V.int).length : Nat) : Int) = (S.shown.length : Int) := by rw [List.length_map, eg]; exact congrArg Int.ofNat (List.length_map _)
        refine ⟨r, _, rfl, .inl (.of h6), _, rfl, rfl, _, rfl, ?_⟩
        refine iteNS (congrArg V.int wl) ?_
        exact tail _ (by rw [eg]) H6 (s5.trans s6)
    · rintro σ Hk ⟨v6, v7, v8, S, F, G', c, rfl, BB, I, hc⟩
      have sh := I.sh
      refine ⟨_, rfl, _, rfl, b, m, n, S, F, G', c, c, rfl, BB.ed, BB.md, n2, I.word, fun H5 s5 => ⟨_, rfl, iteT ?_⟩⟩
      exact ⟨_, rfl, _, rfl, b, m, n, S, F, c, rfl, BB.ed.same s5, I.ow, by omega, by omega, k⟩
end
end K54
set_option maxHeartbeats 0
namespace K54
open PySem PySem.Spec PyProof.Rows L2
def insB (K : PySem.W.Frag) (C : Addr) : Bool := He.eqO (PySem.W.findIn K (.ref C) "__class__") (some (some (.builtin "object.__class__"))) && (He.eqO (PySem.W.specialIn K (.builtin "object.__class__") "__get__") (some (some (.builtin "getset_descriptor.__get__"))) &&
  (decide (PySem.W.takesIn K (.builtin "object.__class__") = some true) && (decide (PySem.W.mroIn K C (.type "object") = some true) && decide (PySem.W.kitOne K (.ref C) (.ref C) = some true))))
def exR (K : PySem.W.Frag) : Bool := rtB K (He.ga K "NothingToUndo") (He.fAd K a_NothingToUndo_init) && (rtB K (He.ga K "NothingToRedo") (He.fAd K a_NothingToRedo_init) && (decide (PySem.W.exmOne K (.ref (He.ga K "NothingToRedo")) (.ref (He.ga K "NothingToUndo")) = some false) && insB K (cDia K)))
theorem ers_of {K : PySem.W.Frag} {mg : Str → Option Value} (T : Top K mg exR) : Ers K := by
  have h := T.more
  unfold exR at h
  simp only [Bool.and_eq_true, decide_eq_true_eq] at h
  obtain ⟨h1, h2, h3, h4⟩ := h
  unfold insB at h4
  simp only [Bool.and_eq_true, decide_eq_true_eq] at h4
  obtain ⟨c1, c2, c3, c4, c5⟩ := h4
  exact ⟨rtB_ok h1, rtB_ok h2, h3, ⟨T.cl_Diagram, He.eqO_ok c1, He.eqO_ok c2, c3, c4, c5⟩⟩
abbrev R : PySem.W.OpenRow := PySem.W.OpenLaw.row PySem.Challenge.rw_cupcap_k54_whole_editors_against_their_l
/-! the hook -/
abbrev AlZ : Type := He.AlD × Bool
def obsZ (n : Nat) (g : Addr → Option Obj) : AlZ := (He.obsDG n fa fn g, exR (He.frG g (He.asD g n)))
def hookZ (n : Nat) : PySem.W.Hook where
  α := AlZ
  obs := fun s => obsZ n s.heap.get?
  val := fun _ => (He.valD fn, true)
  says := fun _ h => ∃ K : PySem.W.Frag, K.In h ∧ He.SaysD fa fn K ∧ exR K = true
  of := fun _ _ e => ⟨_, He.frG_in, congrArg (fun z : AlZ => z.1) e, congrArg (fun z : AlZ => z.2) e⟩
  keeps := fun _ _ _ ⟨K, hK, c⟩ k => ⟨K, PySem.W.Frag.In.keeps hK k, c⟩
abbrev hk : PySem.W.Hook := hookZ 4
def ob (s : PySem.W.SharedT) : AlZ := obsZ 4 (HandSHeadRun.getT s)
theorem ob_eq (s : PySem.W.SharedT) : ob s = hk.obs s.abs := by
  have e : HandSHeadRun.getT s = s.abs.heap.get? := funext (HandSHeadRun.getT_eq s)
  show obsZ 4 (HandSHeadRun.getT s) = obsZ 4 s.abs.heap.get?
  rw [e]
def loose1 : List PySem.Str := ["_wall", "__name__", "DiagramError", "InvalidDiagram", "InvalidColumns", "InvalidNumber", "InvalidName", "ColumnMismatch", "NothingToUndo", "NothingToRedo", "MAX_COLUMNS", "is_integer", "is_columns", "check_columns", "border_walk", "has_crossing", "is_partners", "Diagram", "from_arcs", "identity", "generator", "check_same_columns", "path_from", "stack", "stack_all", "is_letter", "value_of", "MAX_NAME_LENGTH", "LETTERS", "is_name"]
def loose2 : List PySem.Str := ["check_name", "Editor", "_law_pool", "_law_take", "_law_identity", "_law_path", "_law_stack", "_law_generator", "_law_value", "_law_shown", "_law_word", "_law_authors", "_law_new_model", "_law_insert", "_law_turn", "_law_expected", "_law_action", "_law_do", "_law_check", "_law_check_undone", "_law_check_state"]
abbrev loose : List PySem.Str := loose1 ++ loose2
theorem run (w : World) : HandSHeadRun.RunEq R (PySem.W.view R.prog [56]) hk ob 16000 loose w := by
  intro os
  kernel_rfl
end K54
namespace K54
open PySem PySem.Spec PyProof.Rows L2
theorem facts {P : Program} {w : World} {K : PySem.W.Frag} {h : Heap} {mg : Str → Option Value} {f : Addr} (X : K.In h) (G : h.Ns mainGlobals mg) (hfa : mg ("law" : Str) = some (.ref f)) (c : He.SaysD fa fn K) (c2 : exR K = true) :
    ∃ fd : FuncData, (∀ (s : Shared) (v : Value), BindsTo s fd ⟨[v], []⟩ [("_law_script", v)]) ∧ ∀ base : Heap, K.In base → base.Ns mainGlobals mg → FnAt P w K mg base CX0 callerA f fd ["_law_script"] (spLaw K) := by
  have T : Top K mg exR := ⟨c, c2, ⟨h, X, G⟩⟩
  have Er := ers_of T
  have e := hfa.symm.trans T.g_law
  cases e
  have b := FunD.bindsA (ps := ["_law_script"]) T.f_law fun _ _ _ _ _ _ us hl => match us, hl with | [_], _ => rfl
  exact ⟨fdOf K a_law, fun s v => b s [v] rfl, fun base _ _ => ok_law T Er⟩
end K54
open PySem PySem.W PySem.Calls PyProof.Rows
theorem PySem.Challenge.cw_cupcap_k54_whole_editors_against_their_l_holds : PySem.Challenge.rw_cupcap_k54_whole_editors_against_their_l.Holds := by
  w_on; o_law
  refine HandSHeadRun.head_any (r := OpenLaw.row PySem.Challenge.rw_cupcap_k54_whole_editors_against_their_l) (q := view (OpenLaw.row PySem.Challenge.rw_cupcap_k54_whole_editors_against_their_l).prog [56]) (H := K54.hk) (ob := K54.ob) (M := 16000) (loose := K54.loose) (d := HandSHeadRun.topDef (OpenLaw.row PySem.Challenge.rw_cupcap_k54_whole_editors_against_their_l).prog 56) (kwd := []) K54.ob_eq
    (by kernel_rfl) (fun s => by kernel_rfl) K54.run (by kernel_rfl) (by kernel_rfl) (by kernel_rfl) (by rfl) (by first | assumption | decide +kernel) (by decide +kernel) ⟨rfl, rfl, rfl, rfl, rfl, by decide +kernel⟩ ?hw ?hc
  case hw => w_witness2
  case hc =>
    refine K54.walk_at_ (l := PySem.Challenge.rw_cupcap_k54_whole_editors_against_their_l) (n := 63) (x := "_law_script") (CX := L2.CX0) rfl (by decide) (by kernel_rfl) ?F (fun _ _ _ _ z => z)
    intro w mg fa h Y G hmg0
    obtain ⟨K, KX, c, c2⟩ := Y
    have hmg : mg ("law" : PySem.Str) = some (.ref fa) := by
      have e : (HandSHeadRun.topDef (OpenLaw.row PySem.Challenge.rw_cupcap_k54_whole_editors_against_their_l).prog 56).name = ("law" : PySem.Str) := by kernel_rfl
      rw [← e]
      exact hmg0
    obtain ⟨fd, hb, hF⟩ := K54.facts (P := (PySem.Challenge.rw_cupcap_k54_whole_editors_against_their_l).prog) (w := w) KX G hmg c c2
    exact ⟨K, fd, K54.spLaw K, KX, hb, fun H a ns hl hS => ⟨a, ns, rfl, hS, Nat.le_trans hl (by decide), fun _ => rfl⟩, hF⟩
