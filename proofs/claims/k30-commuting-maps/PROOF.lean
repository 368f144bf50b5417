import PyProof.Rows.All
import Wide.All
import OpenK.AllK
import Wide.FinOn
import HandS.ForMost
import HandS.Wide
import HandS.Exc
import HandS.ExcOwn
import HandS.Small
import HandS.TryOnly
import HandS.IsInst
import KE.DataMinMax
import HandS.SortInts
import HandS.Style
import HandS.Deep
import HandS.Defaults
import HandS.Lambda
import HandS.EndTab
import KE.KNest
import HandS.TupAny
import HandS.RaiseMore
import HandS.Text
import KE.KDictList
import HandS.SortKw
import HandS.ListItems
import PyProof.ReprRoads
import HandS.ExcInit
import HandS.ExcField
import PyProof.ExcBaseAll.IndexError
import PyProof.ExcBaseAll.OverflowError
import PyProof.ExcBaseAll.LookupError
import KE.KExcIs
import HandS.ExcIs
import HandS.Rev
import HandS.TupMul
import HandS.More
import HandS.SetFor
import HandS.Strs
import HandS.SortOrd
import HandS.TupSets
import HandS.DictComp
import HandS.Conv
import HandS.Zip
import KE.GoesZip
import KE.GoesMore
import KE.GoesEnum
import HandS.Sort
import KE.KIsAll
import PySem.Challenge.RW_affinewalk_k30_commuting_maps
set_option Elab.async false
set_option linter.all false
set_option maxRecDepth 100000
set_option maxHeartbeats 4000000

set_option Elab.async false
set_option linter.all false
set_option maxRecDepth 100000
set_option maxHeartbeats 1000000
/-! data as trees, the heap's share of them, and who owns what -/
namespace DL
open PySem PySem.Spec PyProof.Rows L2

/-- the defs whose lambdas are made: their tables are tracked -/
def lamNames : List Str := ["law"]
noncomputable def lamT (K : PySem.W.Frag) : List (Addr × Str) := lamNames.filterMap fun x => (PySem.W.tabIn K x).map fun cp => (cp.2, (x ++ ".<locals>.") ++ "<lambda>")
def isTb (K : PySem.W.Frag) (a : Addr) : Prop := ∃ p ∈ lamT K, p.1 = a
/-- what stands at an address, by its kind -/
inductive Tag where
  | lst | tup
  | scr
  | dk (ks : List Key)
  | dt (ks : List (List Key))
  | ins (C : Addr) (ns : List Str)
  | exc (C : Addr) (ns : List Str)
  deriving DecidableEq
/-- data: a value without a heap, or an object with its items -/
inductive D where
  | leaf (v : V)
  | node (t : Tag) (ds : List D)

abbrev D.non : D := .leaf .non
abbrev D.bl (b : Bool) : D := .leaf (.bl b)
abbrev D.int (i : Int) : D := .leaf (.int i)
abbrev D.str (x : Str) : D := .leaf (.str x)
abbrev D.lst (ds : List D) : D := .node .lst ds
abbrev D.tup (ds : List D) : D := .node .tup ds
abbrev D.dk (ks : List Key) (ds : List D) : D := .node (.dk ks) ds

/-- at a: an exception that was caught, of the class at C, its dict at d -/
def exk (a C d : Addr) : HO := .ext fun h => ∃ (o : Obj) (vs : Array Value), h.get? a = some o ∧ o.cls = .ref C ∧ o.dict = some d ∧ o.data = .fields vs
section
variable (K : PySem.W.Frag)
/-- the object at a is of kind t and its items are xs -/
def Holds (H : Hp) (a : Addr) : Tag → List V → Prop
  | .lst, xs => H a = some (.lst xs)
  | .scr, xs => SqL K H a xs
  | .tup, xs => SqT K H a xs
  | .dk ks, xs => ks.length = xs.length ∧ Rd H a (.dK (ks.zip xs))
  | .dt ks, xs => ks.length = xs.length ∧ Rd H a (.dT (ks.zip xs))
  | .ins C ns, xs => ns.length = xs.length ∧ ∃ dx, H a = some (.ins C dx (ns.zip xs))
  | .exc C ns, xs => ns.length = xs.length ∧ ∃ d, H a = some (exk a C d) ∧ H d = some (.xd (ns.zip xs))
/-- .. where it may be changed -/
def Own (H : Hp) (a : Addr) : Tag → List V → Prop
  | .lst, xs => H a = some (.lst xs)
  | .tup, _ => False
  | .scr, _ => False
  | .dk ks, xs => ks.length = xs.length ∧ H a = some (.dK (ks.zip xs))
  | .dt ks, xs => ks.length = xs.length ∧ H a = some (.dT (ks.zip xs))
  | .ins C ns, xs => ns.length = xs.length ∧ ∃ dx, H a = some (.ins C dx (ns.zip xs))
  | .exc _ _, _ => False
mutual
/-- the value v stands for the data d, over the heap M -/
def Rep (M : Hp) : V → D → Prop
  | v, .leaf u => v = u
  | v, .node t ds => ∃ a xs, v = .ref a ∧ Holds K M a t xs ∧ Reps M xs ds
def Reps (M : Hp) : List V → List D → Prop
  | [], [] => True
  | x :: xs, d :: ds => Rep M x d ∧ Reps M xs ds
  | [], _ :: _ => False
  | _ :: _, [] => False
end
/-- the top may lie in H, its items over M -/
def RepH (M H : Hp) (v : V) : D → Prop
  | .leaf u => v = u
  | .node t ds => ∃ a xs, v = .ref a ∧ Holds K H a t xs ∧ Reps K M xs ds
end

/-- what is known of one heap stays known of another one -/
def Sub (M H : Hp) : Prop := ∀ a u, M a = some u → H a = some u
theorem Sub.refl (M : Hp) : Sub M M := fun _ _ h => h
theorem Sub.trans {A B C : Hp} (h : Sub A B) (k : Sub B C) : Sub A C := fun a u e => k a u (h a u e)
theorem Sub.nof {M H : Hp} (h : Sub M H) {a : Addr} (e : H a = none) : M a = none := by
  cases q : M a with
  | none => rfl
  | some o => rw [h a o q] at e; cases e
theorem Sub.right {M H : Hp} (h : Sub M H) {a : Addr} {o : HO} (e : M a = none) : Sub M (upd H a o) := fun b u q => by
  rw [upd_ne (ne_of_none q e)]; exact h b u q
theorem Sub.both {M H : Hp} (h : Sub M H) {a : Addr} {o : HO} : Sub (upd M a o) (upd H a o) := fun b u q => by
  by_cases e : b = a
  · subst e; rw [upd_same] at q ⊢; exact q
  · rw [upd_ne e] at q ⊢; exact h b u q
theorem Sub.laid {M : Hp} {a : Addr} {o : HO} (e : M a = none) : Sub M (upd M a o) := (Sub.refl M).right e

section
variable {K : PySem.W.Frag} {M H : Hp}
theorem Sub.rd (h : Sub M H) {a : Addr} {u : HO} (r : Rd M a u) : Rd H a u := by
  rcases r with r | ⟨o, r⟩
  · exact .inl (h _ _ r)
  · exact .inr ⟨o, h _ _ r⟩
theorem Sub.sql (h : Sub M H) {a : Addr} {xs : List V} (r : SqL K M a xs) : SqL K H a xs := by
  rcases r with r | r
  · exact .inl (h.rd r)
  · exact .inr r
theorem Sub.sqt (h : Sub M H) {a : Addr} {xs : List V} (r : SqT K M a xs) : SqT K H a xs := by
  rcases r with r | r
  · exact .inl (h.rd r)
  · exact .inr r
theorem Holds.mono (h : Sub M H) {a : Addr} {t : Tag} {xs : List V} (r : Holds K M a t xs) : Holds K H a t xs := by
  cases t with
  | lst => exact h _ _ r
  | scr => exact h.sql r
  | tup => exact h.sqt r
  | dk ks => exact ⟨r.1, h.rd r.2⟩
  | dt ks => exact ⟨r.1, h.rd r.2⟩
  | ins C ns => obtain ⟨l, dx, e⟩ := r; exact ⟨l, dx, h _ _ e⟩
  | exc C ns => obtain ⟨l, d, e1, e2⟩ := r; exact ⟨l, d, h _ _ e1, h _ _ e2⟩
mutual
theorem Rep.mono (h : Sub M H) : ∀ (d : D) (v : V), Rep K M v d → Rep K H v d
  | .leaf u, v, r => by unfold Rep at r ⊢; exact r
  | .node t ds, v, r => by
    unfold Rep at r ⊢
    obtain ⟨a, xs, e, q, rs⟩ := r
    exact ⟨a, xs, e, q.mono h, Reps.mono h ds xs rs⟩
theorem Reps.mono (h : Sub M H) : ∀ (ds : List D) (xs : List V), Reps K M xs ds → Reps K H xs ds
  | [], [], r => by unfold Reps; trivial
  | [], _ :: _, r => by unfold Reps at r; exact r.elim
  | _ :: _, [], r => by unfold Reps at r; exact r.elim
  | d :: ds, x :: xs, r => by
    unfold Reps at r ⊢
    exact ⟨Rep.mono h d x r.1, Reps.mono h ds xs r.2⟩
end
theorem Reps.nil : Reps K M [] [] := by unfold Reps; trivial
theorem Reps.cons {x : V} {d : D} {xs : List V} {ds : List D} (h : Rep K M x d) (r : Reps K M xs ds) : Reps K M (x :: xs) (d :: ds) := by unfold Reps; exact ⟨h, r⟩
theorem Reps.of_cons {x : V} {d : D} {xs : List V} {ds : List D} (r : Reps K M (x :: xs) (d :: ds)) : Rep K M x d ∧ Reps K M xs ds := by unfold Reps at r; exact r
theorem Reps.nil_of {xs : List V} (r : Reps K M xs []) : xs = [] := by
  cases xs with
  | nil => rfl
  | cons x xs => unfold Reps at r; exact r.elim
theorem Reps.cons_of {xs : List V} {d : D} {ds : List D} (r : Reps K M xs (d :: ds)) : ∃ x ys, xs = x :: ys ∧ Rep K M x d ∧ Reps K M ys ds := by
  cases xs with
  | nil => unfold Reps at r; exact r.elim
  | cons x xs => exact ⟨x, xs, rfl, r.of_cons⟩
theorem Reps.length : ∀ {xs : List V} {ds : List D}, Reps K M xs ds → xs.length = ds.length
  | [], [], _ => rfl
  | [], _ :: _, r => by unfold Reps at r; exact r.elim
  | _ :: _, [], r => by unfold Reps at r; exact r.elim
  | x :: xs, d :: ds, r => by rw [List.length_cons, List.length_cons, Reps.length r.of_cons.2]
theorem Reps.append : ∀ {xs ys : List V} {ds es : List D}, Reps K M xs ds → Reps K M ys es → Reps K M (xs ++ ys) (ds ++ es)
  | [], _, [], _, _, r => r
  | [], _, _ :: _, _, r, _ => by unfold Reps at r; exact r.elim
  | _ :: _, _, [], _, r, _ => by unfold Reps at r; exact r.elim
  | x :: xs, ys, d :: ds, es, r, q => .cons r.of_cons.1 (Reps.append r.of_cons.2 q)
theorem Reps.get : ∀ {xs : List V} {ds : List D} {i : Nat} {d : D}, Reps K M xs ds → ds[i]? = some d → ∃ x, xs[i]? = some x ∧ Rep K M x d
  | _, [], _, _, _, e => by simp at e
  | [], _ :: _, _, _, r, _ => by unfold Reps at r; exact r.elim
  | x :: xs, d :: ds, 0, e, r, h => by
    simp at h; subst h
    exact ⟨x, rfl, r.of_cons.1⟩
  | x :: xs, d :: ds, i + 1, e, r, h => by
    obtain ⟨y, h1, h2⟩ := Reps.get (i := i) r.of_cons.2 (by simpa using h)
    exact ⟨y, by simpa using h1, h2⟩
theorem Reps.set : ∀ {xs : List V} {ds : List D} {x : V} {d : D} (i : Nat), Reps K M xs ds → Rep K M x d → Reps K M (xs.set i x) (ds.set i d)
  | [], [], _, _, _, r, _ => r
  | [], _ :: _, _, _, _, r, _ => by unfold Reps at r; exact r.elim
  | _ :: _, [], _, _, _, r, _ => by unfold Reps at r; exact r.elim
  | _ :: _, _ :: _, _, _, 0, r, q => .cons q r.of_cons.2
  | _ :: _, _ :: _, _, _, i + 1, r, q => .cons r.of_cons.1 (Reps.set i r.of_cons.2 q)
theorem Reps.take : ∀ {xs : List V} {ds : List D} (i : Nat), Reps K M xs ds → Reps K M (xs.take i) (ds.take i)
  | [], [], i, _ => by simp; exact .nil
  | [], _ :: _, _, r => by unfold Reps at r; exact r.elim
  | _ :: _, [], _, r => by unfold Reps at r; exact r.elim
  | _ :: _, _ :: _, 0, _ => .nil
  | _ :: _, _ :: _, i + 1, r => .cons r.of_cons.1 (Reps.take i r.of_cons.2)
theorem Reps.drop : ∀ {xs : List V} {ds : List D} (i : Nat), Reps K M xs ds → Reps K M (xs.drop i) (ds.drop i)
  | [], [], i, _ => by simp; exact .nil
  | [], _ :: _, _, r => by unfold Reps at r; exact r.elim
  | _ :: _, [], _, r => by unfold Reps at r; exact r.elim
  | _ :: _, _ :: _, 0, r => r
  | _ :: _, _ :: _, i + 1, r => Reps.drop i r.of_cons.2
theorem Reps.eraseIdx : ∀ {xs : List V} {ds : List D} (i : Nat), Reps K M xs ds → Reps K M (xs.eraseIdx i) (ds.eraseIdx i)
  | [], [], i, _ => by simp; exact .nil
  | [], _ :: _, _, r => by unfold Reps at r; exact r.elim
  | _ :: _, [], _, r => by unfold Reps at r; exact r.elim
  | _ :: _, _ :: _, 0, r => r.of_cons.2
  | _ :: _, _ :: _, i + 1, r => .cons r.of_cons.1 (Reps.eraseIdx i r.of_cons.2)
theorem Reps.dropLast {xs : List V} {ds : List D} (r : Reps K M xs ds) : Reps K M xs.dropLast ds.dropLast := by
  rw [List.dropLast_eq_take, List.dropLast_eq_take, r.length]
  exact r.take _
theorem Reps.reverse : ∀ {xs : List V} {ds : List D}, Reps K M xs ds → Reps K M xs.reverse ds.reverse
  | [], [], _ => .nil
  | [], _ :: _, r => by unfold Reps at r; exact r.elim
  | _ :: _, [], r => by unfold Reps at r; exact r.elim
  | _ :: _, _ :: _, r => by
    rw [List.reverse_cons, List.reverse_cons]
    exact (Reps.reverse r.of_cons.2).append (.cons r.of_cons.1 .nil)
theorem RepH.mono {M' H' : Hp} (h : Sub M M') (k : Sub H H') {v : V} {d : D} (r : RepH K M H v d) : RepH K M' H' v d := by
  cases d with
  | leaf u => exact r
  | node t ds => obtain ⟨a, xs, e, q, rs⟩ := r; exact ⟨a, xs, e, q.mono k, Reps.mono h ds xs rs⟩
theorem Rep.toH (h : Sub M H) {v : V} {d : D} (r : Rep K M v d) : RepH K M H v d := by
  cases d with
  | leaf u => unfold Rep at r; exact r
  | node t ds => unfold Rep at r; obtain ⟨a, xs, e, q, rs⟩ := r; exact ⟨a, xs, e, q.mono h, rs⟩
theorem RepH.full (h : Sub M H) {v : V} {d : D} (r : RepH K M H v d) : Rep K H v d := by
  cases d with
  | leaf u => unfold Rep; exact r
  | node t ds => obtain ⟨a, xs, e, q, rs⟩ := r; unfold Rep; exact ⟨a, xs, e, q, Reps.mono h ds xs rs⟩
theorem Own.holds {a : Addr} {t : Tag} {xs : List V} (h : Own H a t xs) : Holds K H a t xs := by
  cases t with
  | lst => exact h
  | scr => exact h.elim
  | tup => exact h.elim
  | dk ks => exact ⟨h.1, .inl h.2⟩
  | dt ks => exact ⟨h.1, .inl h.2⟩
  | ins C ns => exact h
  | exc C ns => exact h.elim
theorem Own.tracked {a : Addr} {t : Tag} {xs : List V} (h : Own H a t xs) : ∃ o, H a = some o := by
  cases t with
  | lst => exact ⟨_, h⟩
  | scr => exact h.elim
  | tup => exact h.elim
  | dk ks => exact ⟨_, h.2⟩
  | dt ks => exact ⟨_, h.2⟩
  | ins C ns => obtain ⟨_, dx, e⟩ := h; exact ⟨_, e⟩
  | exc C ns => exact h.elim
theorem Own.moved {H' : Hp} {a : Addr} {t : Tag} {xs : List V} (h : Own H a t xs) (e : H' a = H a) : Own H' a t xs := by
  cases t with
  | lst => show H' a = _; rw [e]; exact h
  | scr => exact h.elim
  | tup => exact h.elim
  | dk ks => exact ⟨h.1, by rw [e]; exact h.2⟩
  | dt ks => exact ⟨h.1, by rw [e]; exact h.2⟩
  | ins C ns => obtain ⟨l, dx, q⟩ := h; exact ⟨l, dx, by rw [e]; exact q⟩
  | exc C ns => exact h.elim
/-- frozen: the object's own row is put into M -/
theorem Own.frozen {o : HO} {a : Addr} {t : Tag} {xs : List V} (h : Own H a t xs) (e : H a = some o) : Holds K (upd M a o) a t xs :=
  Own.holds (h.moved (H' := upd M a o) (by rw [upd_same, e]))
end
end DL

set_option Elab.async false
set_option linter.all false
set_option maxRecDepth 100000
set_option maxHeartbeats 1000000
/-! who owns what: the state of a def's body, its pending values ahead -/
namespace DL
open PySem PySem.Spec PyProof.Rows L2

/-- shared data; an object of one's own; one that the caller lends; what slot i holds -/
inductive O where
  | sh (d : D)
  | ow (t : Tag) (os : List O)
inductive Cell where
  | sh (d : D)
  | ow (t : Tag) (ds : List D)
  | rf (t : Tag) (ds : List D)
  | br (i : Nat)
  | on (t : Tag) (os : List O)
abbrev Gam := List (Option Cell)
/-- what stands around a def's body: the callers' objects, what they share, the arguments -/
structure Frm where
  B : Hp
  M0 : Hp
  vs : List V

/-! objects of one's own that hold such objects -/
mutual
/-- the addresses of the tree at v -/
def Ft (H : Hp) : V → O → Addr → Prop
  | _, .sh _, _ => False
  | v, .ow t os, a => ∃ b xs, v = .ref b ∧ Own H b t xs ∧ (a = b ∨ Fts H xs os a)
def Fts (H : Hp) : List V → List O → Addr → Prop
  | x :: xs, o :: os, a => Ft H x o a ∨ Fts H xs os a
  | [], _, _ => False
  | _ :: _, [], _ => False
end
mutual
/-- the tree stands in H, what is shared over M -/
def Tr (K : PySem.W.Frag) (M H : Hp) : V → O → Prop
  | v, .sh d => Rep K M v d
  | v, .ow t os => ∃ b xs, v = .ref b ∧ Own H b t xs ∧ ¬ Fts H xs os b ∧ Trs K M H xs os
def Trs (K : PySem.W.Frag) (M H : Hp) : List V → List O → Prop
  | [], [] => True
  | x :: xs, o :: os => Tr K M H x o ∧ Trs K M H xs os ∧ ∀ a, Ft H x o a → ¬ Fts H xs os a
  | [], _ :: _ => False
  | _ :: _, [] => False
end
theorem Fts_cons {H : Hp} {x : V} {xs : List V} {o : O} {os : List O} {a : Addr} : Fts H (x :: xs) (o :: os) a ↔ Ft H x o a ∨ Fts H xs os a := by
  conv => lhs; unfold Fts
theorem Trs_cons {K : PySem.W.Frag} {M H : Hp} {x : V} {xs : List V} {o : O} {os : List O} : Trs K M H (x :: xs) (o :: os) ↔ Tr K M H x o ∧ Trs K M H xs os ∧ ∀ a, Ft H x o a → ¬ Fts H xs os a := by
  conv => lhs; unfold Trs
def own (H : Hp) (v : V) : Cell → Addr → Prop
  | .ow _ _, a => v = .ref a
  | .rf _ _, a => v = .ref a
  | .on t os, a => Ft H v (.ow t os) a
  | .sh _, _ => False
  | .br _, _ => False
theorem own_uniq {H : Hp} {a : Addr} {t : Tag} {xs ys : List V} (h : Own H a t xs) (h' : Own H a t ys) : xs = ys := by
  have zz : ∀ {κ : Type} {ks : List κ} {xs ys : List V}, ks.length = xs.length → ks.length = ys.length → ks.zip xs = ks.zip ys → xs = ys := by
    intro κ ks
    induction ks with
    | nil =>
      intro xs ys h1 h2 _
      cases xs with
      | nil => cases ys with
        | nil => rfl
        | cons _ _ => cases h2
      | cons _ _ => cases h1
    | cons k ks ih =>
      intro xs ys h1 h2 e
      cases xs with
      | nil => cases h1
      | cons x xs =>
        cases ys with
        | nil => cases h2
        | cons y ys =>
          rw [List.zip_cons_cons, List.zip_cons_cons] at e
          injection e with e1 e2
          injection e1 with _ e1
          rw [e1, ih (by simpa using h1) (by simpa using h2) e2]
  cases t with
  | lst =>
    have h1 : H a = some (.lst xs) := h
    have h2 : H a = some (.lst ys) := h'
    rw [h1] at h2
    injection h2 with h2
    injection h2
  | tup => exact h.elim
  | scr => exact h.elim
  | dk ks =>
    obtain ⟨l1, h1⟩ := h
    obtain ⟨l2, h2⟩ := h'
    rw [h1] at h2
    injection h2 with h2
    injection h2 with h2
    exact zz l1 l2 h2
  | dt ks =>
    obtain ⟨l1, h1⟩ := h
    obtain ⟨l2, h2⟩ := h'
    rw [h1] at h2
    injection h2 with h2
    injection h2 with h2
    exact zz l1 l2 h2
  | ins C ns =>
    obtain ⟨l1, d1, h1⟩ := h
    obtain ⟨l2, d2, h2⟩ := h'
    rw [h1] at h2
    injection h2 with h2
    injection h2 with _ _ h2
    exact zz l1 l2 h2
  | exc C ns => exact h.elim
mutual
theorem Ft.tracked {H : Hp} : ∀ {o : O} {v : V} {a : Addr}, Ft H v o a → ∃ u, H a = some u
  | .sh _, _, _, h => by unfold Ft at h; exact h.elim
  | .ow t os, v, a, h => by
    unfold Ft at h
    obtain ⟨b, xs, e, h1, h2⟩ := h
    rcases h2 with h2 | h2
    · rw [h2]; exact h1.tracked
    · exact Fts.tracked h2
theorem Fts.tracked {H : Hp} : ∀ {os : List O} {xs : List V} {a : Addr}, Fts H xs os a → ∃ u, H a = some u
  | [], [], _, h => by unfold Fts at h; exact h.elim
  | [], _ :: _, _, h => by unfold Fts at h; exact h.elim
  | _ :: _, [], _, h => by unfold Fts at h; exact h.elim
  | o :: os, x :: xs, a, h => by
    unfold Fts at h
    rcases h with h | h
    · exact Ft.tracked h
    · exact Fts.tracked h
end
mutual
theorem Ft.own {H : Hp} : ∀ {o : O} {v : V} {a : Addr}, Ft H v o a → ∃ t xs, Own H a t xs
  | .sh _, _, _, h => by unfold Ft at h; exact h.elim
  | .ow t os, v, a, h => by
    unfold Ft at h
    obtain ⟨b, xs, e, h1, h2⟩ := h
    rcases h2 with h2 | h2
    · rw [h2]; exact ⟨_, _, h1⟩
    · exact Fts.own h2
theorem Fts.own {H : Hp} : ∀ {os : List O} {xs : List V} {a : Addr}, Fts H xs os a → ∃ t xs, Own H a t xs
  | [], [], _, h => by unfold Fts at h; exact h.elim
  | [], _ :: _, _, h => by unfold Fts at h; exact h.elim
  | _ :: _, [], _, h => by unfold Fts at h; exact h.elim
  | o :: os, x :: xs, a, h => by
    unfold Fts at h
    rcases h with h | h
    · exact Ft.own h
    · exact Fts.own h
end
mutual
/-- M grows, H changes nowhere in the tree -/
theorem Tr.step {K : PySem.W.Frag} {M M' H H' : Hp} (s : ∀ d v, Rep K M v d → Rep K M' v d) : ∀ (o : O) (v : V), Tr K M H v o → (∀ a, Ft H v o a → H' a = H a) → Tr K M' H' v o ∧ ∀ a, Ft H' v o a ↔ Ft H v o a
  | .sh d, v, r, _ => by
    unfold Tr at r ⊢
    unfold Ft
    exact ⟨s _ _ r, fun _ => Iff.rfl⟩
  | .ow t os, v, r, k => by
    unfold Tr at r ⊢
    unfold Ft at k ⊢
    obtain ⟨b, xs, rfl, hy, hb, rs⟩ := r
    have eb := k b ⟨b, xs, rfl, hy, .inl rfl⟩
    have hy' := hy.moved eb
    obtain ⟨r', f'⟩ := Trs.step s os xs rs fun a ha => k a ⟨b, xs, rfl, hy, .inr ha⟩
    refine ⟨⟨b, xs, rfl, hy', fun z => hb ((f' b).mp z), r'⟩, fun a => ?_⟩
    constructor
    · rintro ⟨b', ys, e, h1, h2⟩
      cases e
      obtain rfl := own_uniq h1 hy'
      refine ⟨b, ys, rfl, hy, ?_⟩
      rcases h2 with h2 | h2
      · exact .inl h2
      · exact .inr ((f' a).mp h2)
    · rintro ⟨b', ys, e, h1, h2⟩
      cases e
      obtain rfl := own_uniq h1 hy
      refine ⟨b, ys, rfl, hy', ?_⟩
      rcases h2 with h2 | h2
      · exact .inl h2
      · exact .inr ((f' a).mpr h2)
theorem Trs.step {K : PySem.W.Frag} {M M' H H' : Hp} (s : ∀ d v, Rep K M v d → Rep K M' v d) : ∀ (os : List O) (xs : List V), Trs K M H xs os → (∀ a, Fts H xs os a → H' a = H a) → Trs K M' H' xs os ∧ ∀ a, Fts H' xs os a ↔ Fts H xs os a
  | [], [], r, _ => by unfold Trs Fts; exact ⟨trivial, fun _ => Iff.rfl⟩
  | [], _ :: _, r, _ => by unfold Trs at r; exact r.elim
  | _ :: _, [], r, _ => by unfold Trs at r; exact r.elim
  | o :: os, x :: xs, r, k => by
    obtain ⟨r1, r2, r3⟩ := Trs_cons.mp r
    obtain ⟨q1, f1⟩ := Tr.step s o x r1 fun a h => k a (Fts_cons.mpr (.inl h))
    obtain ⟨q2, f2⟩ := Trs.step s os xs r2 fun a h => k a (Fts_cons.mpr (.inr h))
    exact ⟨Trs_cons.mpr ⟨q1, q2, fun a h z => r3 a ((f1 a).mp h) ((f2 a).mp z)⟩, fun a => Fts_cons.trans ((or_congr (f1 a) (f2 a)).trans Fts_cons.symm)⟩
end
abbrev Ix := Nat ⊕ Nat
def ent (τ : List V) (T : List Cell) (σ : L2.St) (Γ : Gam) : Ix → Option (V × Cell)
  | .inl j => match τ[j]?, T[j]? with
    | some v, some c => some (v, c)
    | _, _ => none
  | .inr i => match σ[i]?, Γ[i]? with
    | some (some v), some (some c) => some (v, c)
    | _, _ => none

section
variable (K : PySem.W.Frag)
def OwnOk (f : Frm) (M H : Hp) (v : V) (t : Tag) (ds : List D) : Prop := ∃ a xs, v = .ref a ∧ Own H a t xs ∧ Reps K M xs ds ∧ M a = none ∧ f.B a = none
def COk (f : Frm) (M H : Hp) (σ : L2.St) (v : V) : Cell → Prop
  | .sh d => Rep K M v d
  | .ow t ds => OwnOk K f M H v t ds
  | .rf t ds => OwnOk K f M H v t ds
  | .br i => σ[i]? = some (some v)
  | .on t os => Tr K M H v (.ow t os) ∧ ∀ a, Ft H v (.ow t os) a → M a = none ∧ f.B a = none
/-- the tables of code objects stand; they are nobody's -/
structure TabG (B M H : Hp) : Prop where
  t : LamX.Tabs (lamT K) H
  nm : ∀ a ps, M a ≠ some (.tbl ps)
  nb : ∀ a ps, B a ≠ some (.tbl ps)
structure Good (f : Frm) (M H : Hp) (τ : List V) (T : List Cell) (σ : L2.St) (Γ : Gam) : Prop where
  bys : Sub f.B H
  sub : Sub M H
  m0 : Sub f.M0 M
  new : ∀ a o u, M a = some o → f.B a = some u → ∃ w, f.M0 a = some w
  tl : τ.length = T.length
  sl : σ.length = Γ.length
  has : ∀ (i : Nat) (c : Cell), Γ[i]? = some (some c) → ∃ v, σ[i]? = some (some v)
  ok : ∀ k v c, ent τ T σ Γ k = some (v, c) → COk K f M H σ v c
  inj : ∀ k k' v c v' c' a, ent τ T σ Γ k = some (v, c) → ent τ T σ Γ k' = some (v', c') → own H v c a → own H v' c' a → k = k'
  nbr : ∀ (i j : Nat), Γ[i]? ≠ some (some (.br j))
  args : ∀ (i : Nat) (t : Tag) (ds : List D), Γ[i]? = some (some (.rf t ds)) → σ[i]? = some (f.vs[i]?)
  tabs : TabG K f.B M H
end
/-- no table, no code object -/
def NotT (u : HO) : Prop := (∀ ps, u ≠ .tbl ps) ∧ ∀ c q, u ≠ LamX.CodeO c q
theorem Own.notT {H : Hp} {a : Addr} {t : Tag} {xs : List V} (h : Own H a t xs) : ∃ u, H a = some u ∧ NotT u := by
  have z : ∀ {u : HO}, (∀ ps, u ≠ .tbl ps) → (∀ P, u ≠ .ext P) → NotT u := fun {u} h1 h2 => ⟨h1, fun c q => h2 _⟩
  cases t with
  | lst => exact ⟨_, h, z (fun _ e => by cases e) fun _ e => by cases e⟩
  | scr => exact h.elim
  | tup => exact h.elim
  | dk ks => exact ⟨_, h.2, z (fun _ e => by cases e) fun _ e => by cases e⟩
  | dt ks => exact ⟨_, h.2, z (fun _ e => by cases e) fun _ e => by cases e⟩
  | ins C ns => obtain ⟨_, dx, e⟩ := h; exact ⟨_, e, z (fun _ e => by cases e) fun _ e => by cases e⟩
  | exc C ns => exact h.elim
theorem tabs_step {K : PySem.W.Frag} {H H' : Hp} (t : LamX.Tabs (lamT K) H) (k : ∀ a u, H a = some u → ¬ NotT u → H' a = some u) : LamX.Tabs (lamT K) H' := fun p hp => by
  obtain ⟨ps, h1, h2, h3⟩ := t p hp
  refine ⟨ps, k _ _ h1 fun z => z.1 _ rfl, h2, fun pos cv hc => ?_⟩
  obtain ⟨c, e1, e2⟩ := h3 pos cv hc
  exact ⟨c, e1, k _ _ e2 fun z => z.2 _ _ rfl⟩
theorem TabG.upd {K : PySem.W.Frag} {B M H : Hp} {p : Addr} {o : HO} (g : TabG K B M H) (h : ∀ u, H p = some u → NotT u) : TabG K B M (upd H p o) :=
  ⟨tabs_step g.t fun a u e n => by rw [upd_ne (fun z => n (h u (by rw [← z]; exact e)))]; exact e, g.nm, g.nb⟩
theorem TabG.offO {K : PySem.W.Frag} {B M H : Hp} {a : Addr} {t : Tag} {xs : List V} (_g : TabG K B M H) (h : Own H a t xs) : ∀ ps, H a ≠ some (.tbl ps) := fun ps z => by
  obtain ⟨u, e, n⟩ := h.notT
  rw [z] at e
  exact n.1 ps (Option.some.inj e).symm
theorem TabG.take {K : PySem.W.Frag} {B M H : Hp} {a : Addr} {o : HO} (g : TabG K B M H) (h : ∀ ps, o ≠ .tbl ps) : TabG K B (L2.upd M a o) H :=
  ⟨g.t, fun b ps z => by
    by_cases e : b = a
    · subst e; rw [upd_same] at z; exact h ps (Option.some.inj z)
    · rw [upd_ne e] at z; exact g.nm b ps z, g.nb⟩
/-- what stands, the tables left out -/
def noTb (_K : PySem.W.Frag) (H : Hp) : Hp := fun a => match H a with
  | some (.tbl _) => none
  | u => u
theorem noTb_of {K : PySem.W.Frag} {H : Hp} {a : Addr} (n : ∀ ps, H a ≠ some (.tbl ps)) : noTb K H a = H a := by
  unfold noTb
  split
  · rename_i ps e; exact absurd e (n ps)
  · rfl
theorem noTb_some {K : PySem.W.Frag} {H : Hp} {a : Addr} {u : HO} (e : noTb K H a = some u) : (∀ ps, u ≠ .tbl ps) ∧ H a = some u := by
  unfold noTb at e
  split at e
  · cases e
  · rename_i n; exact ⟨fun ps z => n ps (by rw [e, z]), e⟩
theorem noTb_no {K : PySem.W.Frag} {H : Hp} (a : Addr) (ps : Array Value) : noTb K H a ≠ some (.tbl ps) := fun e => (noTb_some e).1 ps rfl

theorem ent_slot {τ : List V} {T : List Cell} {σ : L2.St} {Γ : Gam} {i : Nat} {v : V} {c : Cell} : ent τ T σ Γ (.inr i) = some (v, c) ↔ σ[i]? = some (some v) ∧ Γ[i]? = some (some c) := by
  constructor
  · intro h
    unfold ent at h
    dsimp only at h
    split at h
    · rename_i h1 h2; cases h; exact ⟨h1, h2⟩
    · cases h
  · rintro ⟨h1, h2⟩
    unfold ent
    dsimp only
    rw [h1, h2]
theorem ent_temp {τ : List V} {T : List Cell} {σ : L2.St} {Γ : Gam} {j : Nat} {v : V} {c : Cell} : ent τ T σ Γ (.inl j) = some (v, c) ↔ τ[j]? = some v ∧ T[j]? = some c := by
  constructor
  · intro h
    unfold ent at h
    dsimp only at h
    split at h
    · rename_i h1 h2; cases h; exact ⟨h1, h2⟩
    · cases h
  · rintro ⟨h1, h2⟩
    unfold ent
    dsimp only
    rw [h1, h2]
theorem own_sh {H : Hp} {v : V} {d : D} {a : Addr} (h : own H v (.sh d) a) : False := h
theorem own_br {H : Hp} {v : V} {i : Nat} {a : Addr} (h : own H v (.br i) a) : False := h
section
variable {K : PySem.W.Frag} {f : Frm} {M H M' H' : Hp} {τ : List V} {T : List Cell} {σ : L2.St} {Γ : Gam} {v : V} {c : Cell} {a p : Addr} {t : Tag} {ds : List D} {d : D} {o : HO} {xs : List V}
theorem COk.own_ok (h : COk K f M H σ v c) (e : own H v c a) : ∃ t xs, Own H a t xs ∧ M a = none ∧ f.B a = none := by
  cases c with
  | sh d => exact e.elim
  | br i => exact e.elim
  | ow t ds => obtain ⟨b, xs, e1, h1, h2, h3, h4⟩ := h; cases e1; cases e; exact ⟨t, xs, h1, h3, h4⟩
  | rf t ds => obtain ⟨b, xs, e1, h1, h2, h3, h4⟩ := h; cases e1; cases e; exact ⟨t, xs, h1, h3, h4⟩
  | on t os =>
    obtain ⟨h1, h2⟩ := h
    obtain ⟨t', xs, h3⟩ := Ft.own (show Ft H v (.ow t os) a from e)
    exact ⟨t', xs, h3, h2 a e⟩
theorem Good.offB (G : Good K f M H τ T σ Γ) {u : HO} (e : f.B a = some u) : ∀ ps, H a ≠ some (.tbl ps) := fun ps z => by
  rw [G.bys a u e] at z
  exact G.tabs.nb a ps (e.trans z)
/-- the state moves on: M grows, H changes nowhere that the value v owns -/
theorem OwnOk.step (s : Sub M M') (h : OwnOk K f M H v t ds) (k : ∀ a, v = .ref a → H' a = H a ∧ M' a = none) : OwnOk K f M' H' v t ds := by
  obtain ⟨a, xs, e1, h1, h2, h3, h4⟩ := h
  obtain ⟨k1, k2⟩ := k a e1
  exact ⟨a, xs, e1, h1.moved k1, Reps.mono s _ _ h2, k2, h4⟩
theorem COk.step (s : Sub M M') (h : COk K f M H σ v c) (k : ∀ a, own H v c a → H' a = H a ∧ M' a = none) : COk K f M' H' σ v c ∧ ∀ a, own H' v c a ↔ own H v c a := by
  cases c with
  | sh d => exact ⟨Rep.mono s _ _ h, fun _ => Iff.rfl⟩
  | ow t ds => exact ⟨OwnOk.step s h fun a e => k a e, fun _ => Iff.rfl⟩
  | rf t ds => exact ⟨OwnOk.step s h fun a e => k a e, fun _ => Iff.rfl⟩
  | br i => exact ⟨h, fun _ => Iff.rfl⟩
  | on t os =>
    obtain ⟨h1, h2⟩ := h
    obtain ⟨r, e⟩ := Tr.step (Rep.mono s) _ _ h1 fun a ha => (k a ha).1
    exact ⟨⟨r, fun a ha => ⟨(k a ((e a).mp ha)).2, (h2 a ((e a).mp ha)).2⟩⟩, e⟩
theorem COk.conv {f' : Frm} (h : COk K f M H σ v c) (s : ∀ d v, Rep K M v d → Rep K M' v d) (so : ∀ t ds, OwnOk K f M H v t ds → OwnOk K f' M' H' v t ds) (k : ∀ a, own H v c a → H' a = H a ∧ M' a = none ∧ f'.B a = none) : COk K f' M' H' σ v c ∧ ∀ a, own H' v c a ↔ own H v c a := by
  cases c with
  | sh d => exact ⟨s _ _ h, fun _ => Iff.rfl⟩
  | ow t ds => exact ⟨so t ds h, fun _ => Iff.rfl⟩
  | rf t ds => exact ⟨so t ds h, fun _ => Iff.rfl⟩
  | br i => exact ⟨h, fun _ => Iff.rfl⟩
  | on t os =>
    obtain ⟨h1, h2⟩ := h
    obtain ⟨r, e⟩ := Tr.step s _ _ h1 fun a ha => (k a ha).1
    exact ⟨⟨r, fun a ha => (k a ((e a).mp ha)).2⟩, e⟩
/-- a pending value more -/
theorem Good.push (G : Good K f M H τ T σ Γ) (h : COk K f M H σ v c) (n : ∀ a, own H v c a → ∀ k v' c', ent τ T σ Γ k = some (v', c') → ¬ own H v' c' a) : Good K f M H (v :: τ) (c :: T) σ Γ where
  bys := G.bys
  sub := G.sub
  m0 := G.m0
  new := G.new
  tl := by rw [List.length_cons, List.length_cons, G.tl]
  sl := G.sl
  has := G.has
  ok := fun k u e q => by
    match k with
    | .inl 0 => cases q; exact h
    | .inl (j + 1) => exact G.ok (.inl j) u e q
    | .inr i => exact G.ok (.inr i) u e q
  inj := fun k k' u e u' e' a q q' r r' => by
    match k, k' with
    | .inl 0, .inl 0 => rfl
    | .inl 0, .inl (j + 1) => cases q; exact (n a r (.inl j) u' e' q' r').elim
    | .inl 0, .inr i => cases q; exact (n a r (.inr i) u' e' q' r').elim
    | .inl (j + 1), .inl 0 => cases q'; exact (n a r' (.inl j) u e q r).elim
    | .inr i, .inl 0 => cases q'; exact (n a r' (.inr i) u e q r).elim
    | .inl (j + 1), .inl (j' + 1) =>
      have z := G.inj (.inl j) (.inl j') u e u' e' a q q' r r'
      cases z; rfl
    | .inl (j + 1), .inr i' =>
      have z := G.inj (.inl j) (.inr i') u e u' e' a q q' r r'
      cases z
    | .inr i, .inl (j' + 1) =>
      have z := G.inj (.inr i) (.inl j') u e u' e' a q q' r r'
      cases z
    | .inr i, .inr i' => exact G.inj (.inr i) (.inr i') u e u' e' a q q' r r'
  nbr := G.nbr
  args := G.args
  tabs := G.tabs
theorem Good.pushSh (G : Good K f M H τ T σ Γ) (h : Rep K M v d) : Good K f M H (v :: τ) (.sh d :: T) σ Γ :=
  G.push h fun a e => (own_sh e).elim
theorem Good.pushBr {i : Nat} (G : Good K f M H τ T σ Γ) (h : σ[i]? = some (some v)) : Good K f M H (v :: τ) (.br i :: T) σ Γ :=
  G.push h fun a e => (own_br e).elim
theorem Good.pop (G : Good K f M H (v :: τ) (c :: T) σ Γ) : Good K f M H τ T σ Γ where
  bys := G.bys
  sub := G.sub
  m0 := G.m0
  new := G.new
  tl := by have := G.tl; simp only [List.length_cons] at this; omega
  sl := G.sl
  has := G.has
  ok := fun k u e q => match k with
    | .inl j => G.ok (.inl (j + 1)) u e q
    | .inr i => G.ok (.inr i) u e q
  inj := fun k k' u e u' e' a q q' r r' => by
    match k, k' with
    | .inl j, .inl j' =>
      have z := G.inj (.inl (j + 1)) (.inl (j' + 1)) u e u' e' a q q' r r'
      cases z; rfl
    | .inl j, .inr i' =>
      have z := G.inj (.inl (j + 1)) (.inr i') u e u' e' a q q' r r'
      cases z
    | .inr i, .inl j' =>
      have z := G.inj (.inr i) (.inl (j' + 1)) u e u' e' a q q' r r'
      cases z
    | .inr i, .inr i' => exact G.inj (.inr i) (.inr i') u e u' e' a q q' r r'
  nbr := G.nbr
  args := G.args
  tabs := G.tabs
theorem Good.notB (G : Good K f M H τ T σ Γ) (h : H p = none) : f.B p = none := G.bys.nof h
theorem Good.notM (G : Good K f M H τ T σ Γ) (h : H p = none) : M p = none := G.sub.nof h
/-- M grows, H changes nowhere that is owned -/
theorem Good.stepAll (G : Good K f M H τ T σ Γ) (s : Sub M M') (k : ∀ j v c a, ent τ T σ Γ j = some (v, c) → own H v c a → H' a = H a ∧ M' a = none) :
    (∀ j v c, ent τ T σ Γ j = some (v, c) → COk K f M' H' σ v c) ∧ (∀ j v c a, ent τ T σ Γ j = some (v, c) → (own H' v c a ↔ own H v c a)) ∧
      ∀ k k' v c v' c' a, ent τ T σ Γ k = some (v, c) → ent τ T σ Γ k' = some (v', c') → own H' v c a → own H' v' c' a → k = k' := by
  have st := fun j v c (q : ent τ T σ Γ j = some (v, c)) => (G.ok j v c q).step s fun a e => k j v c a q e
  exact ⟨fun j v c q => (st j v c q).1, fun j v c a q => (st j v c q).2 a, fun k k' v c v' c' a q q' r r' => G.inj k k' v c v' c' a q q' (((st k v c q).2 a).mp r) (((st k' v' c' q').2 a).mp r')⟩
/-- the abstract heap changes at one address that nobody owns and nobody shares -/
theorem Good.layK (G : Good K f M H τ T σ Γ) (ho : ∀ k v c, ent τ T σ Γ k = some (v, c) → ¬ own H v c p) (o : HO) : ∀ j v c a, ent τ T σ Γ j = some (v, c) → own H v c a → upd H p o a = H a ∧ M a = none := fun j v c a q e => by
  have hne : a ≠ p := fun z => ho j v c q (z ▸ e)
  obtain ⟨t, xs, h1, h3, h4⟩ := (G.ok j v c q).own_ok e
  exact ⟨upd_ne hne, h3⟩
theorem Good.lay (G : Good K f M H τ T σ Γ) (hm : M p = none) (hb : f.B p = none) (hT : ∀ u, H p = some u → NotT u) (ho : ∀ k v c, ent τ T σ Γ k = some (v, c) → ¬ own H v c p) (o : HO) : Good K f M (upd H p o) τ T σ Γ where
  bys := G.bys.right hb
  sub := G.sub.right hm
  m0 := G.m0
  new := G.new
  tl := G.tl
  sl := G.sl
  has := G.has
  ok := (G.stepAll (Sub.refl M) (G.layK ho o)).1
  inj := (G.stepAll (Sub.refl M) (G.layK ho o)).2.2
  nbr := G.nbr
  args := G.args
  tabs := G.tabs.upd hT
theorem Good.layOwn (G : Good K f M H τ T σ Γ) (ho : ∀ k v c, ent τ T σ Γ k = some (v, c) → ¬ own H v c p) (o : HO) : ∀ j v c a, ent τ T σ Γ j = some (v, c) → (own (upd H p o) v c a ↔ own H v c a) := (G.stepAll (Sub.refl M) (G.layK ho o)).2.1
theorem Good.ownedSome (G : Good K f M H τ T σ Γ) {k : Ix} (q : ent τ T σ Γ k = some (v, c)) (e : own H v c a) : ∃ o, H a = some o := by
  obtain ⟨t, xs, h1, _⟩ := (G.ok k v c q).own_ok e
  exact h1.tracked
/-- a new object that one owns -/
theorem Good.alloc (G : Good K f M H τ T σ Γ) (h : H p = none) (ho : Own (upd H p o) p t xs) (r : Reps K M xs ds) : Good K f M (upd H p o) (.ref p :: τ) (.ow t ds :: T) σ Γ := by
  have fresh : ∀ k v c, ent τ T σ Γ k = some (v, c) → ¬ own H v c p := fun k v c q e => by
    obtain ⟨o, z⟩ := G.ownedSome q e
    rw [h] at z; cases z
  refine (G.lay (G.notM h) (G.notB h) (fun u e => by rw [h] at e; cases e) fresh o).push ⟨p, xs, rfl, ho, r, G.notM h, G.notB h⟩ fun a e k v' c' q => ?_
  have e' : p = a := by
    have e2 : V.ref p = V.ref a := e
    injection e2
  subst e'
  exact fun z => fresh k v' c' q ((G.layOwn fresh o k v' c' p q).mp z)
/-- M takes over an address that nobody else owns -/
theorem Good.take1 (G : Good K f M H τ T σ Γ) (hm : M a = none) (hb : f.B a = none) (hT : ∀ ps, o ≠ .tbl ps) (ho : ∀ k v c, ent τ T σ Γ k = some (v, c) → ¬ own H v c a) (e : H a = some o) : Good K f (upd M a o) H τ T σ Γ where
  bys := G.bys
  sub := fun b u q => by
    by_cases z : b = a
    · subst z; rw [upd_same] at q; rw [e]; exact q
    · rw [upd_ne z] at q; exact G.sub b u q
  m0 := fun b u q => by
    have z : b ≠ a := fun z => by have := G.m0 b u q; rw [z, hm] at this; cases this
    rw [upd_ne z]; exact G.m0 b u q
  new := fun b u w q r => by
    by_cases z : b = a
    · subst z; rw [hb] at r; cases r
    · rw [upd_ne z] at q; exact G.new b u w q r
  tl := G.tl
  sl := G.sl
  has := G.has
  ok := (G.stepAll (Sub.laid hm) fun k v c b q r => by
    have hne : b ≠ a := fun z => ho k v c q (z ▸ r)
    obtain ⟨t, xs, h1, h3, h4⟩ := (G.ok k v c q).own_ok r
    exact ⟨rfl, by rw [upd_ne hne]; exact h3⟩).1
  inj := G.inj
  nbr := G.nbr
  args := G.args
  tabs := G.tabs.take hT
/-- a new object, shared from here on -/
theorem Good.layTake (G : Good K f M H τ T σ Γ) (hm : M p = none) (hb : f.B p = none) (hT : H p = none) (ho : ∀ k v c, ent τ T σ Γ k = some (v, c) → ¬ own H v c p) (o : HO) (hN : ∀ ps, o ≠ .tbl ps) : Good K f (upd M p o) (upd H p o) τ T σ Γ :=
  (G.lay hm hb (fun u e => by rw [hT] at e; cases e) ho o).take1 hm hb hN (fun k v c q z => ho k v c q ((G.layOwn ho o k v c p q).mp z)) upd_same
/-- the first pending value is shared from here on -/
theorem Good.freeze0 (G : Good K f M H (v :: τ) (.ow t ds :: T) σ Γ) : ∃ M', Good K f M' H (v :: τ) (.sh (.node t ds) :: T) σ Γ := by
  obtain ⟨a, xs, rfl, h1, h2, h3, h4⟩ := G.ok (.inl 0) v _ rfl
  obtain ⟨o, e⟩ := h1.tracked
  have G1 := G.pop.take1 h3 h4 (fun ps z => G.tabs.offO h1 ps (by rw [← z]; exact e)) (fun k v c q r => by
    match k with
    | .inl j => have z := G.inj (.inl 0) (.inl (j + 1)) _ _ v c a rfl q rfl r; cases z
    | .inr i => have z := G.inj (.inl 0) (.inr i) _ _ v c a rfl q rfl r; cases z) e
  refine ⟨upd M a o, G1.pushSh ?_⟩
  unfold Rep
  exact ⟨a, xs, rfl, h1.frozen e, Reps.mono (Sub.laid h3) _ _ h2⟩
theorem Good.allocF (G : Good K f M H τ T σ Γ) (h : H p = none) (r : Reps K M xs ds) : ∃ M', Good K f M' (upd H p (.tup xs)) (.ref p :: τ) (.sh (.node .tup ds) :: T) σ Γ := by
  have fresh : ∀ k v c, ent τ T σ Γ k = some (v, c) → ¬ own H v c p := fun k v c q e => by
    obtain ⟨o, z⟩ := G.ownedSome q e
    rw [h] at z; cases z
  have G1 := (G.lay (G.notM h) (G.notB h) (fun u e => by rw [h] at e; cases e) fresh (.tup xs)).take1 (G.notM h) (G.notB h) (fun ps z => by cases z) (fun k v c q z => fresh k v c q ((G.layOwn fresh _ k v c p q).mp z)) (o := .tup xs) upd_same
  refine ⟨upd M p (.tup xs), G1.pushSh ?_⟩
  unfold Rep
  exact ⟨p, xs, rfl, .of (by rw [upd_same]), Reps.mono (Sub.laid (G.notM h)) _ _ r⟩

/-! ### slots -/
theorem ent_setG {i : Nat} {x : Option Cell} {k : Ix} (h : k ≠ .inr i) : ent τ T σ (Γ.set i x) k = ent τ T σ Γ k := by
  match k with
  | .inl j => rfl
  | .inr j =>
    have hij : i ≠ j := fun z => h (by rw [z])
    unfold ent
    dsimp only
    rw [List.getElem?_set_ne hij]
theorem ent_setG_self {i : Nat} {x : Cell} (hs : σ[i]? = some (some v)) (hl : i < Γ.length) : ent τ T σ (Γ.set i (some x)) (.inr i) = some (v, x) := by
  rw [ent_slot]
  exact ⟨hs, by rw [List.getElem?_set_self hl]⟩
theorem lt_of_get {α : Type} {l : List α} {i : Nat} {x : α} (h : l[i]? = some x) : i < l.length := (List.getElem?_eq_some_iff.mp h).1
/-- an owned object of a slot is shared from here on -/
theorem Good.freezeS {i : Nat} (G : Good K f M H τ T σ Γ) (hc : Γ[i]? = some (some (.ow t ds))) : ∃ M', Good K f M' H τ T σ (Γ.set i (some (.sh (.node t ds)))) := by
  obtain ⟨v, hs⟩ := G.has i _ hc
  have hi : ent τ T σ Γ (.inr i) = some (v, .ow t ds) := ent_slot.mpr ⟨hs, hc⟩
  obtain ⟨a, xs, rfl, h1, h2, h3, h4⟩ := G.ok (.inr i) v _ hi
  obtain ⟨o, e⟩ := h1.tracked
  -- first forget the slot, then M takes the address over, then the slot is told anew
  have hl := lt_of_get hc
  have cs : ∀ k u e, ent τ T σ (Γ.set i none) k = some (u, e) → k ≠ .inr i ∧ ent τ T σ Γ k = some (u, e) := fun k u e q => by
    by_cases hk : k = .inr i
    · subst hk
      have q2 := (ent_slot.mp q).2
      rw [List.getElem?_set_self hl] at q2
      cases q2
    · rw [ent_setG hk] at q
      exact ⟨hk, q⟩
  have G0 : Good K f M H τ T σ (Γ.set i none) := by
    refine ⟨G.bys, G.sub, G.m0, G.new, G.tl, by rw [List.length_set]; exact G.sl, fun j e q => ?_, fun k u e q => G.ok k u e (cs k u e q).2, fun k k' u e u' e' a q q' r r' => G.inj _ _ _ _ _ _ a (cs _ _ _ q).2 (cs _ _ _ q').2 r r', fun j k q => ?_, fun j t ds q => ?_, G.tabs⟩
    · by_cases hj : i = j
      · subst hj; rw [List.getElem?_set_self hl] at q; cases q
      · rw [List.getElem?_set_ne hj] at q; exact G.has j e q
    · by_cases hj : i = j
      · subst hj; rw [List.getElem?_set_self hl] at q; cases q
      · rw [List.getElem?_set_ne hj] at q; exact G.nbr j k q
    · by_cases hj : i = j
      · subst hj; rw [List.getElem?_set_self hl] at q; cases q
      · rw [List.getElem?_set_ne hj] at q; exact G.args j t ds q
  have G1 := G0.take1 h3 h4 (fun ps z => G.tabs.offO h1 ps (by rw [← z]; exact e)) (fun k v c q r => by
    obtain ⟨hk, q⟩ := cs k v c q
    exact hk (G.inj _ _ _ _ _ _ a q hi r rfl)) e
  have hrep : Rep K (upd M a o) (.ref a) (.node t ds) := by
    unfold Rep
    exact ⟨a, xs, rfl, h1.frozen e, Reps.mono (Sub.laid h3) _ _ h2⟩
  have cs2 : ∀ k u e, ent τ T σ (Γ.set i (some (.sh (.node t ds)))) k = some (u, e) → (k = .inr i ∧ u = .ref a ∧ e = .sh (.node t ds)) ∨ ent τ T σ (Γ.set i none) k = some (u, e) := fun k u e q => by
    by_cases hk : k = .inr i
    · subst hk
      rw [ent_setG_self hs hl] at q; cases q
      exact .inl ⟨rfl, rfl, rfl⟩
    · rw [ent_setG hk] at q
      rw [ent_setG hk]
      exact .inr q
  refine ⟨upd M a o, ⟨G1.bys, G1.sub, G1.m0, G1.new, G1.tl, by rw [List.length_set]; exact G.sl, fun j e q => ?_, fun k u e q => ?_, fun k k' u e u' e' a q q' r r' => ?_, fun j k q => ?_, fun j t ds q => ?_, G1.tabs⟩⟩
  · by_cases hj : i = j
    · subst hj; exact ⟨_, hs⟩
    · rw [List.getElem?_set_ne hj] at q; exact G.has j e q
  · rcases cs2 k u e q with ⟨rfl, rfl, rfl⟩ | q
    · exact hrep
    · exact G1.ok k u e q
  · rcases cs2 k u e q with ⟨rfl, rfl, rfl⟩ | q
    · exact (own_sh r).elim
    · rcases cs2 k' u' e' q' with ⟨rfl, rfl, rfl⟩ | q'
      · exact (own_sh r').elim
      · exact G1.inj _ _ _ _ _ _ a q q' r r'
  · by_cases hj : i = j
    · subst hj; rw [List.getElem?_set_self hl] at q; cases q
    · rw [List.getElem?_set_ne hj] at q; exact G.nbr j k q
  · by_cases hj : i = j
    · subst hj; rw [List.getElem?_set_self hl] at q; cases q
    · rw [List.getElem?_set_ne hj] at q; exact G.args j t ds q

/-! ### data of cells -/
/-- the data of a pending cell -/
def look (Γ : Gam) : Cell → Option D
  | .sh d => some d
  | .ow t ds => some (.node t ds)
  | .rf t ds => some (.node t ds)
  | .br i => match Γ[i]? with
    | some (some (.sh d)) => some d
    | some (some (.ow t ds)) => some (.node t ds)
    | some (some (.rf t ds)) => some (.node t ds)
    | _ => none
  | .on _ _ => none
/-- .. to be kept somewhere: shared from here on -/
def keep (Γ : Gam) : Cell → Option (D × Gam)
  | .sh d => some (d, Γ)
  | .ow t ds => some (.node t ds, Γ)
  | .rf _ _ => none
  | .br i => match Γ[i]? with
    | some (some (.sh d)) => some (d, Γ)
    | some (some (.ow t ds)) => some (.node t ds, Γ.set i (some (.sh (.node t ds))))
    | _ => none
  | .on _ _ => none
theorem OwnOk.repH (h : OwnOk K f M H v t ds) : RepH K M H v (.node t ds) := by
  obtain ⟨a, xs, rfl, h1, h2, _⟩ := h
  exact ⟨a, xs, rfl, h1.holds, h2⟩
theorem Good.look (G : Good K f M H τ T σ Γ) {k : Ix} (q : ent τ T σ Γ k = some (v, c)) (e : look Γ c = some d) : RepH K M H v d := by
  have h := G.ok k v c q
  cases c with
  | sh d' => cases e; exact Rep.toH G.sub h
  | ow t ds => cases e; exact OwnOk.repH h
  | rf t ds => cases e; exact OwnOk.repH h
  | on t os => cases e
  | br i =>
    have hs : σ[i]? = some (some v) := h
    unfold DL.look at e
    dsimp only at e
    split at e
    · rename_i d' hc
      cases e
      exact Rep.toH G.sub (G.ok (.inr i) v _ (ent_slot.mpr ⟨hs, hc⟩))
    · rename_i t ds hc
      cases e
      exact OwnOk.repH (G.ok (.inr i) v _ (ent_slot.mpr ⟨hs, hc⟩))
    · rename_i t ds hc
      cases e
      exact OwnOk.repH (G.ok (.inr i) v _ (ent_slot.mpr ⟨hs, hc⟩))
    · cases e
theorem Good.keep {Γ' : Gam} (G : Good K f M H (v :: τ) (c :: T) σ Γ) (e : keep Γ c = some (d, Γ')) : ∃ M', Good K f M' H (v :: τ) (.sh d :: T) σ Γ' := by
  cases c with
  | sh d' => cases e; exact ⟨M, G⟩
  | ow t ds => cases e; exact G.freeze0
  | rf t ds => cases e
  | on t os => cases e
  | br i =>
    have hs : σ[i]? = some (some v) := G.ok (.inl 0) v _ rfl
    unfold DL.keep at e
    dsimp only at e
    split at e
    · rename_i d' hc
      cases e
      exact ⟨M, G.pop.pushSh (G.ok (.inr i) v _ (ent_slot.mpr ⟨hs, hc⟩))⟩
    · rename_i t ds hc
      cases e
      obtain ⟨M', G'⟩ := G.freezeS hc
      have hc2 : (Γ.set i (some (.sh (.node t ds))))[i]? = some (some (.sh (.node t ds))) := by rw [List.getElem?_set_self (lt_of_get hc)]
      exact ⟨M', G'.pop.pushSh (G'.ok (.inr i) v _ (ent_slot.mpr ⟨hs, hc2⟩))⟩
    · cases e
end
end DL

set_option Elab.async false
set_option linter.all false
set_option maxRecDepth 100000
set_option maxHeartbeats 1000000
/-! readings by mirror functions -/
namespace DL
open PySem PySem.Spec PyProof.Rows L2

/-- an exception of an own class: its fields -/
structure Exc where
  cls : Addr
  ns : List Str
  ds : List D
inductive Res where
  | val (c : Cell)
  | exc (x : Exc)
/-- an expression's mirror -/
abbrev EF := Gam → Option (Res × Gam)
inductive ResB where
  | val (b : Bool)
  | exc (x : Exc)
abbrev TF := Gam → Option (ResB × Gam)
inductive ResL where
  | val (cs : List Cell)
  | exc (x : Exc)
abbrev AF := Gam → Option (ResL × Gam)

section
variable (K : PySem.W.Frag)
def XOk (M : Hp) (d : Addr) (x : Exc) : Prop := ∃ xs, x.ns.length = xs.length ∧ M d = some (.xd (x.ns.zip xs)) ∧ Reps K M xs x.ds
def PostX (W : WX) (f : Frm) (τ : List V) (T : List Cell) (σ : L2.St) (x : Exc) (Γ' : Gam) : Prop :=
  ∀ d H' M', Good K f M' H' τ T σ Γ' → XOk K M' d x → W (.ref x.cls) (some d) σ H'
def PostE (W : WX) (f : Frm) (τ : List V) (T : List Cell) (σ : L2.St) (Q : VK) (r : Res) (Γ' : Gam) : Prop :=
  match r with
  | .val c => ∀ v H' M', Good K f M' H' (v :: τ) (c :: T) σ Γ' → Q v H'
  | .exc x => PostX K W f τ T σ x Γ'
def tE (W : WX) (F : EF) : TE := fun σ H Q => ∃ f M τ T Γ r Γ', Good K f M H τ T σ Γ ∧ F Γ = some (r, Γ') ∧ PostE K W f τ T σ Q r Γ'
def PostB (W : WX) (f : Frm) (τ : List V) (T : List Cell) (σ : L2.St) (Q : Bool → Hp → Prop) (r : ResB) (Γ' : Gam) : Prop :=
  match r with
  | .val b => ∀ H' M', Good K f M' H' τ T σ Γ' → Q b H'
  | .exc x => PostX K W f τ T σ x Γ'
def tB (W : WX) (F : TF) : TT := fun σ H Q => ∃ f M τ T Γ r Γ', Good K f M H τ T σ Γ ∧ F Γ = some (r, Γ') ∧ PostB K W f τ T σ Q r Γ'
def PostL (W : WX) (f : Frm) (τ : List V) (T : List Cell) (σ : L2.St) (Q : List V → Hp → Prop) (r : ResL) (Γ' : Gam) : Prop :=
  match r with
  | .val cs => ∀ vs H' M', vs.length = cs.length → Good K f M' H' (vs.reverse ++ τ) (cs.reverse ++ T) σ Γ' → Q vs H'
  | .exc x => PostX K W f τ T σ x Γ'
def tL (W : WX) (F : AF) : TA := fun σ H Q => ∃ f M τ T Γ r Γ', Good K f M H τ T σ Γ ∧ F Γ = some (r, Γ') ∧ PostL K W f τ T σ Q r Γ'
end

abbrev DE (X : Cx) (W : WX) (e : Expr) (F : EF) : Prop := PE X e (tE X.K W F)
abbrev DT (X : Cx) (W : WX) (e : Expr) (F : TF) : Prop := PT X e (tB X.K W F)
abbrev DA (X : Cx) (W : WX) (es : List Expr) (F : AF) : Prop := PA X es (tL X.K W F)

theorem PEimp {X : Cx} {e : Expr} {t t' : TE} (h : PE X e t) (k : ∀ σ H Q, t' σ H Q → t σ H Q) : PE X e t' := ⟨fun pins s σ H Q I q => h.run pins s σ H Q I (k σ H Q q)⟩
theorem PTimp {X : Cx} {e : Expr} {t t' : TT} (h : PT X e t) (k : ∀ σ H Q, t' σ H Q → t σ H Q) : PT X e t' := ⟨fun pins s σ H Q I q => h.run pins s σ H Q I (k σ H Q q)⟩
theorem PWimp {X : Cx} {e : Expr} {t t' : TT} (h : PW X e t) (k : ∀ σ H Q, t' σ H Q → t σ H Q) : PW X e t' := ⟨fun w pins s σ H Q I q => h.run w pins s σ H Q I (k σ H Q q)⟩
theorem PAimp {X : Cx} {es : List Expr} {t t' : TA} (h : PA X es t) (k : ∀ σ H Q, t' σ H Q → t σ H Q) : PA X es t' := ⟨fun pos pins s σ H Q I q => h.run pos pins s σ H Q I (k σ H Q q)⟩
/-! ### one part after another -/
def bindE (A : EF) (k : Cell → EF) : EF := fun Γ => match A Γ with
  | some (.val c, Γ1) => k c Γ1
  | some (.exc x, Γ1) => some (.exc x, Γ1)
  | none => none
def bindB (A : EF) (k : Cell → TF) : TF := fun Γ => match A Γ with
  | some (.val c, Γ1) => k c Γ1
  | some (.exc x, Γ1) => some (.exc x, Γ1)
  | none => none
def bindL (A : AF) (k : List Cell → EF) : EF := fun Γ => match A Γ with
  | some (.val cs, Γ1) => k cs Γ1
  | some (.exc x, Γ1) => some (.exc x, Γ1)
  | none => none
section
variable {K : PySem.W.Frag} {W : WX} {f : Frm} {M H : Hp} {τ : List V} {T : List Cell} {σ : L2.St} {Γ Γ' : Gam} {Q : VK}
/-- the first part runs, the rest is what it is asked for -/
theorem run1 {A : EF} {k : Cell → EF} {r : Res} {R : VK} (G : Good K f M H τ T σ Γ) (e : bindE A k Γ = some (r, Γ')) (p : PostE K W f τ T σ Q r Γ')
    (h : ∀ c Γ1 v H1 M1, Good K f M1 H1 (v :: τ) (c :: T) σ Γ1 → k c Γ1 = some (r, Γ') → R v H1) : tE K W A σ H R := by
  unfold bindE at e
  cases hA : A Γ with
  | none => rw [hA] at e; cases e
  | some q =>
    obtain ⟨ra, Γ1⟩ := q
    rw [hA] at e
    cases ra with
    | val c => exact ⟨f, M, τ, T, Γ, .val c, Γ1, G, hA, fun v H1 M1 G1 => h c Γ1 v H1 M1 G1 e⟩
    | exc x =>
      cases e
      exact ⟨f, M, τ, T, Γ, .exc x, Γ', G, hA, p⟩
theorem PostX.pop {f : Frm} {v : V} {c : Cell} {x : Exc} (p : PostX K W f τ T σ x Γ') : PostX K W f (v :: τ) (c :: T) σ x Γ' := fun d H' M' G' h => p d H' M' G'.pop h
/-- the second part, the first one's value pending -/
theorem run2 {A : EF} {k : Cell → EF} {r : Res} {R : VK} {v : V} {c : Cell} (G : Good K f M H (v :: τ) (c :: T) σ Γ) (e : bindE A k Γ = some (r, Γ')) (p : PostE K W f τ T σ Q r Γ')
    (h : ∀ c' Γ1 v' H1 M1, Good K f M1 H1 (v' :: v :: τ) (c' :: c :: T) σ Γ1 → k c' Γ1 = some (r, Γ') → R v' H1) : tE K W A σ H R := by
  unfold bindE at e
  cases hA : A Γ with
  | none => rw [hA] at e; cases e
  | some q =>
    obtain ⟨ra, Γ1⟩ := q
    rw [hA] at e
    cases ra with
    | val c' => exact ⟨f, M, _, _, Γ, .val c', Γ1, G, hA, fun v' H1 M1 G1 => h c' Γ1 v' H1 M1 G1 e⟩
    | exc x =>
      cases e
      exact ⟨f, M, _, _, Γ, .exc x, Γ', G, hA, PostX.pop p⟩
theorem run3 {A : EF} {k : Cell → EF} {r : Res} {R : VK} {v v2 : V} {c c2 : Cell} (G : Good K f M H (v2 :: v :: τ) (c2 :: c :: T) σ Γ) (e : bindE A k Γ = some (r, Γ')) (p : PostE K W f τ T σ Q r Γ')
    (h : ∀ c' Γ1 v' H1 M1, Good K f M1 H1 (v' :: v2 :: v :: τ) (c' :: c2 :: c :: T) σ Γ1 → k c' Γ1 = some (r, Γ') → R v' H1) : tE K W A σ H R := by
  unfold bindE at e
  cases hA : A Γ with
  | none => rw [hA] at e; cases e
  | some q =>
    obtain ⟨ra, Γ1⟩ := q
    rw [hA] at e
    cases ra with
    | val c' => exact ⟨f, M, _, _, Γ, .val c', Γ1, G, hA, fun v' H1 M1 G1 => h c' Γ1 v' H1 M1 G1 e⟩
    | exc x =>
      cases e
      exact ⟨f, M, _, _, Γ, .exc x, Γ', G, hA, PostX.pop (PostX.pop p)⟩
end

/-! ### names and constants -/
section
variable {X : Cx} {W : WX} {pos : Pos} {e a b : Expr} {A B C : EF}
def eVar (i : Nat) : EF := fun Γ => match Γ[i]? with
  | some (some _) => some (.val (.br i), Γ)
  | _ => none
theorem de_var (i : Nat) {x : Str} (hN : X.N[i]? = some x := by rfl) (hv : Vis X.env.scope x := by first | exact Or.inl rfl | exact Or.inr (Or.inl rfl) | exact Or.inr (Or.inr rfl)) (hd : (x == ("__debug__" : Str)) = false := by decide)
    (hcd : (x == ("__classdict__" : Str)) = false := by decide) : DE X W (.Name x pos) (eVar i) := by
  refine PEimp (pe_var hN hv hd hcd) fun σ H Q h => ?_
  obtain ⟨f, M, τ, T, Γ, r, Γ', G, hF, p⟩ := h
  unfold eVar at hF
  split at hF
  · rename_i c hc
    cases hF
    obtain ⟨v, hs⟩ := G.has i c hc
    exact ⟨v, hs, p v H M (G.pushBr hs)⟩
  · cases hF
/-- a value that is no object -/
def eC (v : V) : EF := fun Γ => some (.val (.sh (.leaf v)), Γ)
theorem de_const {v : V} (h : PE X e (tC v)) : DE X W e (eC v) := by
  refine PEimp h fun σ H Q h => ?_
  obtain ⟨f, M, τ, T, Γ, r, Γ', G, hF, p⟩ := h
  cases hF
  exact p v H M (G.pushSh (by unfold Rep; rfl))
/-- a name of the module that holds data of the written part -/
def eD (d : D) : EF := fun Γ => some (.val (.sh d), Γ)
theorem de_glob {x : Str} {v : V} {d : D} (h : PE X (.Name x pos) (tC v)) (r : Rep X.K (fun _ => none) v d) : DE X W (.Name x pos) (eD d) := by
  refine PEimp h fun σ H Q h => ?_
  obtain ⟨f, M, τ, T, Γ, r', Γ', G, hF, p⟩ := h
  cases hF
  exact p v H M (G.pushSh (Rep.mono (fun _ _ q => by cases q) _ _ r))

/-- kept from here on -/
def eKeep (A : EF) : EF := bindE A fun c Γ => match keep Γ c with
  | some (d, Γ') => some (.val (.sh d), Γ')
  | none => none
theorem de_keep (h : DE X W e A) : DE X W e (eKeep A) := by
  refine PEimp h fun σ H Q h => ?_
  obtain ⟨f, M, τ, T, Γ, r, Γ', G, hF, p⟩ := h
  refine run1 G hF p fun c Γ1 v H1 M1 G1 e => ?_
  split at e
  · rename_i d Γ2 hk
    cases e
    obtain ⟨M2, G2⟩ := G1.keep hk
    exact p v H1 M2 G2
  · cases e

/-! ### operators by values -/
/-- what an operation gives: a value there already, or a new object -/
inductive Out where
  | old (d : D)
  | new (t : Tag) (ds : List D)
def Out.cell : Out → Cell
  | .old d => .sh d
  | .new .tup ds => .sh (.node .tup ds)
  | .new t ds => .ow t ds
/-- the object of a kind, with its items -/
def mkO : Tag → List V → HO
  | .lst, xs => .lst xs
  | .tup, xs => .tup xs
  | .scr, xs => .lst xs
  | .dk ks, xs => .dK (ks.zip xs)
  | .dt ks, xs => .dT (ks.zip xs)
  | .ins C ns, xs => .ins C 0 (ns.zip xs)
  | .exc _ _, xs => .lst xs
def newable : Tag → List D → Prop
  | .dk ks, ds => ks.length = ds.length
  | .dt ks, ds => ks.length = ds.length
  | .ins _ _, _ => False
  | .exc _ _, _ => False
  | .scr, _ => False
  | _, _ => True
def OutOk (K : PySem.W.Frag) (M H : Hp) (o : Out) (Q : VK) : Prop := match o with
  | .old d => ∀ v, Rep K M v d → Q v H
  | .new t ds => newable t ds ∧ ∀ p xs, H p = none → Reps K M xs ds → Q (.ref p) (upd H p (mkO t xs))
def S1 (K : PySem.W.Frag) (r : V → Hp → VK → Prop) (g : D → Option Out) : Prop := ∀ M H x d o Q, Sub M H → RepH K M H x d → g d = some o → (OutOk K M H o Q → r x H Q)
def S2 (K : PySem.W.Frag) (r : R2) (g : D → D → Option Out) : Prop := ∀ M H x y d e o Q, Sub M H → RepH K M H x d → RepH K M H y e → g d e = some o → (OutOk K M H o Q → r x y H Q)
section
variable {K : PySem.W.Frag} {f : Frm} {M H : Hp} {τ : List V} {T : List Cell} {σ : L2.St} {Γ : Gam} {Q : VK} {o : Out}
/-- what is wanted of an operation's outcome, from what is wanted of its cell -/
theorem Good.out (G : Good K f M H τ T σ Γ) (hn : ∀ t ds, o = .new t ds → newable t ds) (p : ∀ v H' M', Good K f M' H' (v :: τ) (o.cell :: T) σ Γ → Q v H') : OutOk K M H o Q := by
  cases o with
  | old d => exact fun v r => p v H M (G.pushSh r)
  | new t ds =>
    have nw := hn t ds rfl
    refine ⟨nw, fun q xs e r => ?_⟩
    cases t with
    | lst => exact p _ _ M (G.alloc e (by show (upd H q (.lst xs)) q = _; rw [upd_same]) r)
    | tup =>
      obtain ⟨M', G'⟩ := G.allocF e r
      exact p _ _ M' G'
    | dk ks => exact p _ _ M (G.alloc e ⟨by rw [r.length]; exact nw, by show (upd H q (.dK (ks.zip xs))) q = _; rw [upd_same]⟩ r)
    | dt ks => exact p _ _ M (G.alloc e ⟨by rw [r.length]; exact nw, by show (upd H q (.dT (ks.zip xs))) q = _; rw [upd_same]⟩ r)
    | ins C ns => exact nw.elim
    | exc C ns => exact nw.elim
    | scr => exact nw.elim
end
def okNew (o : Out) : Bool := match o with
  | .new (.dk ks) ds => ks.length == ds.length
  | .new (.dt ks) ds => ks.length == ds.length
  | .new (.ins _ _) _ => false
  | .new (.exc _ _) _ => false
  | .new .scr _ => false
  | _ => true
theorem okNew_of {o : Out} (h : okNew o = true) : ∀ t ds, o = .new t ds → newable t ds := by
  rintro t ds rfl
  cases t with
  | lst => trivial
  | tup => trivial
  | dk ks => exact beq_iff_eq.mp h
  | dt ks => exact beq_iff_eq.mp h
  | ins C ns => cases h
  | exc C ns => cases h
  | scr => cases h
def eOut (o : Option Out) : EF := fun Γ => match o with
  | some o => if okNew o then some (.val o.cell, Γ) else none
  | none => none
theorem eOut_some {o : Option Out} {Γ Γ' : Gam} {r : Res} (h : eOut o Γ = some (r, Γ')) : ∃ o', o = some o' ∧ okNew o' = true ∧ r = .val o'.cell ∧ Γ' = Γ := by
  unfold eOut at h
  cases o with
  | none => cases h
  | some o' =>
    dsimp only at h
    split at h
    · rename_i hk; cases h; exact ⟨o', rfl, hk, rfl, rfl⟩
    · cases h
def eUn (g : D → Option Out) (A : EF) : EF := bindE A fun c Γ => match look Γ c with
  | some d => eOut (g d) Γ
  | none => none
def eBin (g : D → D → Option Out) (A B : EF) : EF := bindE A fun c => bindE B fun c' Γ => match look Γ c, look Γ c' with
  | some d, some d' => eOut (g d d') Γ
  | _, _ => none
theorem un_core {r : V → Hp → VK → Prop} {g : D → Option Out} (hs : S1 X.K r g) {σ : L2.St} {H : Hp} {Q : VK} (h : tE X.K W (eUn g A) σ H Q) : (tE X.K W A) σ H fun x H1 => r x H1 Q := by
  obtain ⟨f, M, τ, T, Γ, ra, Γ', G, hF, p⟩ := h
  refine run1 G hF p fun c Γ1 v H1 M1 G1 e => ?_
  split at e
  · rename_i d hd
    obtain ⟨o, ho, hk, rfl, rfl⟩ := eOut_some e
    exact hs M1 H1 v d o Q G1.sub (G1.look (k := .inl 0) rfl hd) ho (G1.pop.out (okNew_of hk) p)
  · cases e
theorem bin_core {r : R2} {g : D → D → Option Out} (hs : S2 X.K r g) {σ : L2.St} {H : Hp} {Q : VK} (h : tE X.K W (eBin g A B) σ H Q) : (tE X.K W A) σ H fun x H1 => (tE X.K W B) σ H1 fun y H2 => r x y H2 Q := by
  obtain ⟨f, M, τ, T, Γ, ra, Γ', G, hF, p⟩ := h
  refine run1 G hF p fun c Γ1 v H1 M1 G1 e => ?_
  refine run2 G1 e p fun c' Γ2 v' H2 M2 G2 e2 => ?_
  split at e2
  · rename_i d d' hd hd'
    obtain ⟨o, ho, hk, rfl, rfl⟩ := eOut_some e2
    exact hs M2 H2 v v' d d' o Q G2.sub (G2.look (k := .inl 1) rfl hd) (G2.look (k := .inl 0) rfl hd') ho (G2.pop.pop.out (okNew_of hk) p)
  · cases e2
/-- a tuple is seen over the frozen heap -/
def TupR (K : PySem.W.Frag) (M : Hp) (x : V) (d : D) : Prop := ∀ ds, d = .node .tup ds → Rep K M x d
theorem TupR.own {K : PySem.W.Frag} {f : Frm} {M H : Hp} {v : V} {t : Tag} {ds : List D} (h : OwnOk K f M H v t ds) : TupR K M v (.node t ds) := by
  intro es e
  cases e
  obtain ⟨a, xs, rfl, h1, h2, _⟩ := h
  exact (h1 : False).elim
theorem Good.lookT {K : PySem.W.Frag} {f : Frm} {M H : Hp} {τ : List V} {T : List Cell} {σ : L2.St} {Γ : Gam} {v : V} {c : Cell} {d : D} (G : Good K f M H τ T σ Γ) {k : Ix} (q : ent τ T σ Γ k = some (v, c)) (e : DL.look Γ c = some d) : TupR K M v d := by
  have h := G.ok k v c q
  cases c with
  | sh d' => cases e; exact fun _ _ => h
  | ow t ds => cases e; exact TupR.own h
  | rf t ds => cases e; exact TupR.own h
  | on t os => cases e
  | br i =>
    have hs : σ[i]? = some (some v) := h
    unfold DL.look at e
    dsimp only at e
    split at e
    · rename_i d' hc
      cases e
      exact fun _ _ => G.ok (.inr i) v _ (ent_slot.mpr ⟨hs, hc⟩)
    · rename_i t ds hc
      cases e
      exact TupR.own (G.ok (.inr i) v _ (ent_slot.mpr ⟨hs, hc⟩))
    · rename_i t ds hc
      cases e
      exact TupR.own (G.ok (.inr i) v _ (ent_slot.mpr ⟨hs, hc⟩))
    · cases e
def S2T (K : PySem.W.Frag) (r : R2) (g : D → D → Option Out) : Prop := ∀ M H x y d e o Q, Sub M H → RepH K M H x d → RepH K M H y e → TupR K M x d → TupR K M y e → g d e = some o → (OutOk K M H o Q → r x y H Q)
theorem bin_coreT {r : R2} {g : D → D → Option Out} (hs : S2T X.K r g) {σ : L2.St} {H : Hp} {Q : VK} (h : tE X.K W (eBin g A B) σ H Q) : (tE X.K W A) σ H fun x H1 => (tE X.K W B) σ H1 fun y H2 => r x y H2 Q := by
  obtain ⟨f, M, τ, T, Γ, ra, Γ', G, hF, p⟩ := h
  refine run1 G hF p fun c Γ1 v H1 M1 G1 e => ?_
  refine run2 G1 e p fun c' Γ2 v' H2 M2 G2 e2 => ?_
  split at e2
  · rename_i d d' hd hd'
    obtain ⟨o, ho, hk, rfl, rfl⟩ := eOut_some e2
    exact hs M2 H2 v v' d d' o Q G2.sub (G2.look (k := .inl 1) rfl hd) (G2.look (k := .inl 0) rfl hd') (G2.lookT (k := .inl 1) rfl hd) (G2.lookT (k := .inl 0) rfl hd') ho (G2.pop.pop.out (okNew_of hk) p)
  · cases e2
theorem de_opT {op : Operator} {r : R2} {g : D → D → Option Out} (ho : OpR X (binaryOp op) r) (hs : S2T X.K r g) (ha : DE X W a A) (hb : DE X W b B) : DE X W (.BinOp a op b pos) (eBin g A B) :=
  PEimp (pe_op ho ha hb) fun _ _ _ h => bin_coreT hs h
theorem de_un {op : UnaryOp} {r : V → Hp → VK → Prop} {g : D → Option Out} (ho : UnR X (unaryOp op) r) (hs : S1 X.K r g) (ha : DE X W a A) : DE X W (.UnaryOp op a pos) (eUn g A) :=
  PEimp (pe_un ho ha) fun _ _ _ h => un_core hs h
theorem de_op {op : Operator} {r : R2} {g : D → D → Option Out} (ho : OpR X (binaryOp op) r) (hs : S2 X.K r g) (ha : DE X W a A) (hb : DE X W b B) : DE X W (.BinOp a op b pos) (eBin g A B) :=
  PEimp (pe_op ho ha hb) fun _ _ _ h => bin_core hs h
theorem de_cmp {op : CmpOp} {r : R2} {g : D → D → Option Out} (ho : OpR X (compareOp op) r) (hs : S2 X.K r g) (ha : DE X W a A) (hb : DE X W b B) (hm : behindInMarks op b = false) : DE X W (.Compare a [op] [b] pos) (eBin g A B) :=
  PEimp (pe_cmpR ho ha hb hm) fun _ _ _ h => bin_core hs h
theorem de_ix {r : R2} {g : D → D → Option Out} (ho : IxR X r) (hs : S2 X.K r g) (ha : DE X W a A) (hb : DE X W b B) (hx : PlainIx b) : DE X W (.Subscript a b pos) (eBin g A B) :=
  PEimp (pe_ix ho ha hb hx) fun _ _ _ h => bin_core hs h
/-- a test by the value of an expression that gives a bool -/
def tOf (A : EF) : TF := bindB A fun c Γ => match look Γ c with
  | some (.leaf (.bl k)) => some (.val k, Γ)
  | _ => none
theorem ofB {σ : L2.St} {H : Hp} {Q : Bool → Hp → Prop} (h : DL.tB X.K W (tOf A) σ H Q) : tE X.K W A σ H fun x H' => ∃ k, x = .bl k ∧ Q k H' := by
  obtain ⟨f, M, τ, T, Γ, r, Γ', G, hF, p⟩ := h
  unfold tOf bindB at hF
  cases hA : A Γ with
  | none => rw [hA] at hF; cases hF
  | some q =>
    obtain ⟨ra, Γ1⟩ := q
    rw [hA] at hF
    cases ra with
    | exc x => cases hF; exact ⟨f, M, τ, T, Γ, .exc x, Γ', G, hA, p⟩
    | val c =>
      refine ⟨f, M, τ, T, Γ, .val c, Γ1, G, hA, fun v H1 M1 G1 => ?_⟩
      dsimp only at hF
      split at hF
      · rename_i k hd
        cases hF
        exact ⟨k, G1.look (k := .inl 0) rfl hd, p H1 M1 G1.pop⟩
      · cases hF
theorem dt_cmp {op : CmpOp} {r : R2} {g : D → D → Option Out} (ho : OpR X (compareOp op) r) (hs : S2 X.K r g) (ha : DE X W a A) (hb : DE X W b B) (hm : behindInMarks op b = false) : DT X W (.Compare a [op] [b] pos) (tOf (eBin g A B)) := by
  refine PTimp (pt_cmpR ho ha hb hm) fun σ H Q h => ?_
  exact bin_core hs (ofB h)
theorem dt_val (h : DE X W e A) (he : ∀ whole, isTrue e X.env whole = (do let v ← whole; standAt e.pos; holding [v] (truthy v)) := by intro _; rfl) : DT X W e (tOf A) :=
  PTimp (pt_val h he) fun σ H Q h => ofB h

/-! ### and, or, not, if -/
def tAndD (t u : TF) : TF := fun Γ => match t Γ with
  | some (.val true, Γ1) => u Γ1
  | o => o
def tOrD (t u : TF) : TF := fun Γ => match t Γ with
  | some (.val false, Γ1) => u Γ1
  | o => o
def tNotD (t : TF) : TF := fun Γ => match t Γ with
  | some (.val b, Γ1) => some (.val (!b), Γ1)
  | o => o
variable {tA tB' : TF} {rest : List Expr}
abbrev DW (X : Cx) (W : WX) (e : Expr) (F : TF) : Prop := PW X e (tB X.K W F)
theorem dw_and1 (ha : DT X W a tA) : DW X W (.BoolOp .And [a] pos) tA := pw_and1 ha
theorem dw_or1 (ha : DT X W a tA) : DW X W (.BoolOp .Or [a] pos) tA := pw_or1 ha
theorem dw_and (ha : DT X W a tA) (hb : DW X W (.BoolOp .And (b :: rest) pos) tB') : DW X W (.BoolOp .And (a :: b :: rest) pos) (tAndD tA tB') := by
  refine PWimp (pw_and ha hb) fun σ H Q h => ?_
  obtain ⟨f, M, τ, T, Γ, r, Γ', G, hF, p⟩ := h
  unfold tAndD at hF
  split at hF
  · rename_i Γ1 h1
    exact ⟨f, M, τ, T, Γ, _, Γ1, G, h1, fun H1 M1 G1 => iteT (⟨f, M1, τ, T, Γ1, r, Γ', G1, hF, p⟩)⟩
  · rename_i hne
    refine ⟨f, M, τ, T, Γ, r, Γ', G, hF, ?_⟩
    cases r with
    | exc x => exact p
    | val k => cases k with
      | true => exact (hne Γ' hF).elim
      | false => exact fun H1 M1 G1 => iteF (p H1 M1 G1)
theorem dw_or (ha : DT X W a tA) (hb : DW X W (.BoolOp .Or (b :: rest) pos) tB') : DW X W (.BoolOp .Or (a :: b :: rest) pos) (tOrD tA tB') := by
  refine PWimp (pw_or ha hb) fun σ H Q h => ?_
  obtain ⟨f, M, τ, T, Γ, r, Γ', G, hF, p⟩ := h
  unfold tOrD at hF
  split at hF
  · rename_i Γ1 h1
    exact ⟨f, M, τ, T, Γ, _, Γ1, G, h1, fun H1 M1 G1 => iteF (⟨f, M1, τ, T, Γ1, r, Γ', G1, hF, p⟩)⟩
  · rename_i hne
    refine ⟨f, M, τ, T, Γ, r, Γ', G, hF, ?_⟩
    cases r with
    | exc x => exact p
    | val k => cases k with
      | false => exact (hne Γ' hF).elim
      | true => exact fun H1 M1 G1 => iteT (p H1 M1 G1)
theorem dt_not (ha : DT X W a tA) : DT X W (.UnaryOp .Not a pos) (tNotD tA) := by
  refine PTimp (pt_not ha) fun σ H Q h => ?_
  obtain ⟨f, M, τ, T, Γ, r, Γ', G, hF, p⟩ := h
  unfold tNotD at hF
  split at hF
  · rename_i k Γ1 h1
    cases hF
    exact ⟨f, M, τ, T, Γ, _, Γ', G, h1, p⟩
  · rename_i hne
    refine ⟨f, M, τ, T, Γ, r, Γ', G, hF, ?_⟩
    cases r with
    | exc x => exact p
    | val k => exact (hne k Γ' hF).elim
/-- and, or as values -/
def eAndD (A B : EF) : EF := bindE A fun c Γ => match look Γ c with
  | some (.leaf (.bl true)) => B Γ
  | some (.leaf (.bl false)) => some (.val (.sh (.leaf (.bl false))), Γ)
  | _ => none
def eOrD (A B : EF) : EF := bindE A fun c Γ => match look Γ c with
  | some (.leaf (.bl false)) => B Γ
  | some (.leaf (.bl true)) => some (.val (.sh (.leaf (.bl true))), Γ)
  | _ => none
def eNotD (A : EF) : EF := bindE A fun c Γ => match look Γ c with
  | some (.leaf (.bl k)) => some (.val (.sh (.leaf (.bl (!k)))), Γ)
  | _ => none
theorem de_one {op} (h : DE X W a A) : DE X W (.BoolOp op [a] pos) A := pe_one h
theorem de_and (ha : DE X W a A) (hb : DE X W (.BoolOp .And (b :: rest) pos) B) : DE X W (.BoolOp .And (a :: b :: rest) pos) (eAndD A B) := by
  refine PEimp (pe_and ha hb) fun σ H Q h => ?_
  obtain ⟨f, M, τ, T, Γ, ra, Γ', G, hF, p⟩ := h
  refine run1 G hF p fun c Γ1 v H1 M1 G1 e => ?_
  split at e
  · rename_i hd
    exact ⟨true, G1.look (k := .inl 0) rfl hd, iteT (⟨f, M1, τ, T, Γ1, ra, Γ', G1.pop, e, p⟩)⟩
  · rename_i hd
    cases e
    exact ⟨false, G1.look (k := .inl 0) rfl hd, iteF (p _ H1 M1 (G1.pop.pushSh (by unfold Rep; rfl)))⟩
  · cases e
theorem de_not (ha : DE X W a A) : DE X W (.UnaryOp .Not a pos) (eNotD A) := by
  refine PEimp (pe_not ha) fun σ H Q h => ?_
  obtain ⟨f, M, τ, T, Γ, ra, Γ', G, hF, p⟩ := h
  refine run1 G hF p fun c Γ1 v H1 M1 G1 e => ?_
  split at e
  · rename_i k hd
    cases e
    exact ⟨k, G1.look (k := .inl 0) rfl hd, p _ H1 M1 (G1.pop.pushSh (by unfold Rep; rfl))⟩
  · cases e
def eIf (t : TF) (A B : EF) : EF := fun Γ => match t Γ with
  | some (.val true, Γ1) => A Γ1
  | some (.val false, Γ1) => B Γ1
  | some (.exc x, Γ1) => some (.exc x, Γ1)
  | none => none
theorem de_if {c : Expr} (hc : DT X W c tA) (ha : DE X W a A) (hb : DE X W b B) : DE X W (.IfExp c a b pos) (eIf tA A B) := by
  refine PEimp (pe_ifExp hc ha hb) fun σ H Q h => ?_
  obtain ⟨f, M, τ, T, Γ, r, Γ', G, hF, p⟩ := h
  unfold eIf at hF
  split at hF
  · rename_i Γ1 h1
    exact ⟨f, M, τ, T, Γ, _, Γ1, G, h1, fun H1 M1 G1 => iteT (⟨f, M1, τ, T, Γ1, r, Γ', G1, hF, p⟩)⟩
  · rename_i Γ1 h1
    exact ⟨f, M, τ, T, Γ, _, Γ1, G, h1, fun H1 M1 G1 => iteF (⟨f, M1, τ, T, Γ1, r, Γ', G1, hF, p⟩)⟩
  · rename_i x Γ1 h1
    cases hF
    exact ⟨f, M, τ, T, Γ, _, Γ', G, h1, p⟩
  · cases hF
/-- a < b < c -/
def eChain (g g' : D → D → Option Out) (A B C : EF) : EF := bindE A fun c => bindE B fun c' Γ => match look Γ c, look Γ c' with
  | some d, some d' => match g d d' with
    | some (.old (.leaf (.bl true))) => bindE C (fun c2 Γ2 => match look Γ2 c', look Γ2 c2 with
      | some e, some e' => eOut (g' e e') Γ2
      | _, _ => none) Γ
    | some (.old (.leaf (.bl false))) => some (.val (.sh (.leaf (.bl false))), Γ)
    | _ => none
  | _, _ => none
end

/-! ### arguments, displays -/
section
variable {X : Cx} {W : WX} {pos : Pos} {e a b : Expr} {es : List Expr} {A B : EF} {L : AF}
def aNil : AF := fun Γ => some (.val [], Γ)
def aCons (A : EF) (L : AF) : AF := fun Γ => match A Γ with
  | some (.val c, Γ1) => match L Γ1 with
    | some (.val cs, Γ2) => some (.val (c :: cs), Γ2)
    | o => o
  | some (.exc x, Γ1) => some (.exc x, Γ1)
  | none => none
theorem da_nil : DA X W [] aNil := by
  refine PAimp pa_nil fun σ H Q h => ?_
  obtain ⟨f, M, τ, T, Γ, r, Γ', G, hF, p⟩ := h
  cases hF
  exact p [] H M rfl G
theorem da_cons (ha : DE X W e A) (hr : DA X W es L) (hs : starEach (e :: es) X.env = (false, eval e X.env) :: starEach es X.env := by rfl) : DA X W (e :: es) (aCons A L) := by
  refine PAimp (pa_cons ha hr hs) fun σ H Q h => ?_
  obtain ⟨f, M, τ, T, Γ, r, Γ', G, hF, p⟩ := h
  unfold aCons at hF
  cases hA : A Γ with
  | none => rw [hA] at hF; cases hF
  | some q =>
    obtain ⟨ra, Γ1⟩ := q
    rw [hA] at hF
    cases ra with
    | exc x => cases hF; exact ⟨f, M, τ, T, Γ, .exc x, Γ', G, hA, p⟩
    | val c =>
      refine ⟨f, M, τ, T, Γ, .val c, Γ1, G, hA, fun v H1 M1 G1 => ?_⟩
      dsimp only at hF
      cases hL : L Γ1 with
      | none => rw [hL] at hF; cases hF
      | some q2 =>
        obtain ⟨rl, Γ2⟩ := q2
        rw [hL] at hF
        cases rl with
        | exc x => cases hF; exact ⟨f, M1, _, _, Γ1, .exc x, Γ', G1, hL, PostX.pop p⟩
        | val cs =>
          cases hF
          refine ⟨f, M1, _, _, Γ1, .val cs, Γ', G1, hL, fun vs H2 M2 hl G2 => ?_⟩
          refine p (v :: vs) H2 M2 (by rw [List.length_cons, List.length_cons, hl]) ?_
          rw [List.reverse_cons, List.reverse_cons, List.append_assoc, List.append_assoc]
          exact G2
/-- shared data, all of them -/
def shs : List Cell → Option (List D)
  | [] => some []
  | .sh d :: cs => match shs cs with
    | some ds => some (d :: ds)
    | none => none
  | _ :: _ => none
theorem Good.shs {K : PySem.W.Frag} {f : Frm} {M H : Hp} {σ : L2.St} {Γ : Gam} : ∀ {vs : List V} {cs : List Cell} {ds : List D} {τ : List V} {T : List Cell}, vs.length = cs.length → shs cs = some ds →
    Good K f M H (vs.reverse ++ τ) (cs.reverse ++ T) σ Γ → Reps K M vs ds ∧ Good K f M H τ T σ Γ
  | [], [], ds, τ, T, _, h, G => by cases h; exact ⟨.nil, G⟩
  | [], _ :: _, _, _, _, hl, _, _ => by cases hl
  | _ :: _, [], _, _, _, hl, _, _ => by cases hl
  | v :: vs, c :: cs, ds, τ, T, hl, h, G => by
    rw [List.reverse_cons, List.reverse_cons, List.append_assoc, List.append_assoc] at G
    cases c with
    | sh d =>
      unfold DL.shs at h
      split at h
      · rename_i ds' hd
        cases h
        obtain ⟨r, G'⟩ := Good.shs (τ := v :: τ) (T := .sh d :: T) (by simpa using hl) hd G
        exact ⟨.cons (G'.ok (.inl 0) v _ rfl) r, G'.pop⟩
      · cases h
    | ow t ds' => cases h
    | rf t ds' => cases h
    | br i => cases h
    | on t os => cases h
/-- the arguments run, then what is made of them -/
theorem runL {K : PySem.W.Frag} {f : Frm} {M H : Hp} {τ : List V} {T : List Cell} {σ : L2.St} {Γ Γ' : Gam} {Q : VK} {L : AF} {k : List Cell → EF} {r : Res} {R : List V → Hp → Prop} (G : Good K f M H τ T σ Γ) (e : DL.bindL L k Γ = some (r, Γ')) (p : PostE K W f τ T σ Q r Γ')
    (h : ∀ cs Γ1 vs H1 M1, vs.length = cs.length → Good K f M1 H1 (vs.reverse ++ τ) (cs.reverse ++ T) σ Γ1 → k cs Γ1 = some (r, Γ') → R vs H1) : tL K W L σ H R := by
  unfold DL.bindL at e
  cases hA : L Γ with
  | none => rw [hA] at e; cases e
  | some q =>
    obtain ⟨ra, Γ1⟩ := q
    rw [hA] at e
    cases ra with
    | val cs => exact ⟨f, M, τ, T, Γ, .val cs, Γ1, G, hA, fun vs H1 M1 hl G1 => h cs Γ1 vs H1 M1 hl G1 e⟩
    | exc x =>
      cases e
      exact ⟨f, M, τ, T, Γ, .exc x, Γ', G, hA, p⟩
/-- an operation on shared data, by values -/
def SL (K : PySem.W.Frag) (r : List V → Hp → VK → Prop) (g : List D → Option Out) : Prop := ∀ M H xs ds o Q, Sub M H → Reps K M xs ds → g ds = some o → (OutOk K M H o Q → r xs H Q)
def eOfL (g : List D → Option Out) (L : AF) : EF := DL.bindL L fun cs Γ => match shs cs with
  | some ds => eOut (g ds) Γ
  | none => none
theorem l_core {r : List V → Hp → VK → Prop} {g : List D → Option Out} (hs : SL X.K r g) {σ : L2.St} {H : Hp} {Q : VK} (h : tE X.K W (eOfL g L) σ H Q) : (tL X.K W L) σ H fun xs H1 => r xs H1 Q := by
  obtain ⟨f, M, τ, T, Γ, ra, Γ', G, hF, p⟩ := h
  refine runL G hF p fun cs Γ1 vs H1 M1 hl G1 e => ?_
  split at e
  · rename_i ds hd
    obtain ⟨o, ho, hk, rfl, rfl⟩ := eOut_some e
    obtain ⟨rs, G2⟩ := G1.shs hl hd
    exact hs M1 H1 vs ds o Q G2.sub rs ho (G2.out (okNew_of hk) p)
  · cases e
def gTupD (ds : List D) : Option Out := if ds.length ≤ 16777216 then some (.new .tup ds) else none
def gLstD (ds : List D) : Option Out := if ds.length ≤ 16777216 then some (.new .lst ds) else none
theorem sl_tupD {K : PySem.W.Frag} : SL K (fun xs H1 Q => xs.length ≤ sizeLine ∧ ∀ p, H1 p = none → Q (.ref p) (upd H1 p (.tup xs))) gTupD := by
  intro M H xs ds o Q hs r h q
  unfold gTupD at h
  split at h
  · rename_i hl
    cases h
    exact ⟨by rw [r.length, sizeLine_eq]; exact hl, fun p hp => q.2 p xs hp r⟩
  · cases h
theorem sl_lstD {K : PySem.W.Frag} : SL K (fun xs H1 Q => xs.length ≤ sizeLine ∧ ∀ p, H1 p = none → Q (.ref p) (upd H1 p (.lst xs))) gLstD := by
  intro M H xs ds o Q hs r h q
  unfold gLstD at h
  split at h
  · rename_i hl
    cases h
    exact ⟨by rw [r.length, sizeLine_eq]; exact hl, fun p hp => q.2 p xs hp r⟩
  · cases h
theorem de_tup {x1} (h : DA X W es L) : DE X W (.Tuple es x1 pos) (eOfL gTupD L) := PEimp (pe_tup h) fun _ _ _ q => l_core sl_tupD q
theorem de_lst (h : DA X W es L) : DE X W (.List es pos) (eOfL gLstD L) := PEimp (pe_lst h) fun _ _ _ q => l_core sl_lstD q
end
end DL

set_option Elab.async false
set_option linter.all false
set_option maxRecDepth 100000
set_option maxHeartbeats 1000000
/-! statements by mirror functions -/
namespace DL
open PySem PySem.Spec PyProof.Rows L2

inductive Fl where
  | nx (Γ : Gam)
  | rt (c : Cell) (Γ : Gam)
  | bk (Γ : Gam)
  | ct (Γ : Gam)
  | xc (x : Exc) (Γ : Gam)
abbrev GS := Gam → Option Fl

section
variable (K : PySem.W.Frag)
def PostS (W : WX) (f : Frm) (D : Ends) : Fl → Prop
  | .nx Γ' => ∀ σ' H' M', Good K f M' H' [] [] σ' Γ' → D.nx σ' H'
  | .bk Γ' => ∀ σ' H' M', Good K f M' H' [] [] σ' Γ' → D.bk σ' H'
  | .ct Γ' => ∀ σ' H' M', Good K f M' H' [] [] σ' Γ' → D.ct σ' H'
  | .rt c Γ' => ∀ v σ' H' M', Good K f M' H' [v] [c] σ' Γ' → D.rt v H'
  | .xc x Γ' => ∀ σ', PostX K W f [] [] σ' x Γ'
def tS (W : WX) (G : GS) : TS := fun D σ H => ∃ f M Γ o, Good K f M H [] [] σ Γ ∧ G Γ = some o ∧ PostS K W f D o
end
abbrev DS (X : Cx) (W : WX) (s : Stmt) (G : GS) : Prop := PS X s (tS X.K W G)
abbrev DSs (X : Cx) (W : WX) (s : List Stmt) (G : GS) : Prop := PSs X s (tS X.K W G)
theorem PSimp {X : Cx} {s : Stmt} {t t' : TS} (h : PS X s t) (k : ∀ D σ H, t' D σ H → t D σ H) : PS X s t' := ⟨fun pins s σ H D I q => h.run pins s σ H D I (k D σ H q)⟩
theorem PSsimp {X : Cx} {s : List Stmt} {t t' : TS} (h : PSs X s t) (k : ∀ D σ H, t' D σ H → t D σ H) : PSs X s t' := ⟨fun pins s σ H D I q => h.run pins s σ H D I (k D σ H q)⟩

/-! ### frames within frames -/
section
variable {K : PySem.W.Frag} {f : Frm} {M M' H H' : Hp} {τ : List V} {T : List Cell} {σ σ' : L2.St} {Γ Γ' : Gam} {v : V} {c : Cell}
def Frm.at (f : Frm) (M : Hp) : Frm := { f with M0 := M }
theorem Good.inner (G : Good K f M H τ T σ Γ) : Good K (f.at M) M H τ T σ Γ where
  bys := G.bys
  sub := G.sub
  m0 := Sub.refl M
  new := fun a o u h _ => ⟨o, h⟩
  tl := G.tl
  sl := G.sl
  has := G.has
  ok := fun k v c q => by
    have h := G.ok k v c q
    cases c with
    | sh d => exact h
    | ow t ds => exact h
    | rf t ds => exact h
    | br i => exact h
    | on t os => exact h
  inj := G.inj
  nbr := G.nbr
  args := G.args
  tabs := G.tabs
theorem Good.outer {τ' : List V} {T' : List Cell} (G : Good K f M H τ T σ Γ) (G' : Good K (f.at M) M' H' τ' T' σ' Γ') : Good K f M' H' τ' T' σ' Γ' where
  bys := G'.bys
  sub := G'.sub
  m0 := G.m0.trans G'.m0
  new := fun a o u h b => by
    obtain ⟨w, hw⟩ := G'.new a o u h b
    exact G.new a w u hw b
  tl := G'.tl
  sl := G'.sl
  has := G'.has
  ok := fun k v c q => by
    have h := G'.ok k v c q
    cases c with
    | sh d => exact h
    | ow t ds => exact h
    | rf t ds => exact h
    | br i => exact h
    | on t os => exact h
  inj := G'.inj
  nbr := G'.nbr
  args := G'.args
  tabs := G'.tabs

/-! ### a slot is stored -/
def isRf : Option (Option Cell) → Bool
  | some (some (.rf _ _)) => true
  | _ => false
def setC (i : Nat) (c : Cell) (Γ : Gam) : Option Gam := if i < Γ.length then (if isRf Γ[i]? then none else some (Γ.set i (some c))) else none
def NoBr (T : List Cell) : Prop := ∀ c ∈ T, ∀ j, c ≠ .br j
theorem NoBr.nil : NoBr [] := fun _ h => by cases h
def Solid : Cell → Prop
  | .sh _ => True
  | .ow _ _ => True
  | .on _ _ => True
  | _ => False
theorem setC_some {i : Nat} (h : setC i c Γ = some Γ') : i < Γ.length ∧ isRf Γ[i]? = false ∧ Γ' = Γ.set i (some c) := by
  unfold setC at h
  split at h
  · rename_i hl
    split at h
    · cases h
    · rename_i hr
      cases h
      exact ⟨hl, by simpa using hr, rfl⟩
  · cases h
theorem Good.setS {i : Nat} (G : Good K f M H (v :: τ) (c :: T) σ Γ) (hc : Solid c) (hT : NoBr T) (h : setC i c Γ = some Γ') : Good K f M H τ T (σ.set i (some v)) Γ' := by
  obtain ⟨hl, hr, rfl⟩ := setC_some h
  have hlσ : i < σ.length := by rw [G.sl]; exact hl
  have gs : (σ.set i (some v))[i]? = some (some v) := by rw [List.getElem?_set_self hlσ]
  have gg : (Γ.set i (some c))[i]? = some (some c) := by rw [List.getElem?_set_self hl]
  have cs : ∀ k u e, ent τ T (σ.set i (some v)) (Γ.set i (some c)) k = some (u, e) → (k = .inr i ∧ u = v ∧ e = c) ∨ (k ≠ .inr i ∧ ent τ T σ Γ k = some (u, e)) := fun k u e q => by
    match k with
    | .inl j => exact .inr ⟨(by intro z; cases z), q⟩
    | .inr j =>
      obtain ⟨q1, q2⟩ := ent_slot.mp q
      by_cases hj : i = j
      · subst hj
        rw [gs] at q1
        rw [gg] at q2
        cases q1; cases q2
        exact .inl ⟨rfl, rfl, rfl⟩
      · rw [List.getElem?_set_ne hj] at q1 q2
        exact .inr ⟨fun z => hj (by cases z; rfl), ent_slot.mpr ⟨q1, q2⟩⟩
  have lift : ∀ k u e, ent τ T σ Γ k = some (u, e) → ∃ k', k' ≠ .inl 0 ∧ ent (v :: τ) (c :: T) σ Γ k' = some (u, e) := fun k u e q => by
    match k with
    | .inl j => exact ⟨.inl (j + 1), (by intro z; cases z), q⟩
    | .inr j => exact ⟨.inr j, (by intro z; cases z), q⟩
  refine ⟨G.bys, G.sub, G.m0, G.new, G.pop.tl, by rw [List.length_set, List.length_set]; exact G.sl, fun j e q => ?_, fun k u e q => ?_, fun k k' u e u' e' a q q' r r' => ?_, fun j k q => ?_, fun j t ds q => ?_, G.tabs⟩
  · by_cases hj : i = j
    · subst hj; exact ⟨v, gs⟩
    · rw [List.getElem?_set_ne hj] at q ⊢; exact G.has j e q
  · rcases cs k u e q with ⟨k1, u1, e1⟩ | ⟨hk, q2⟩
    · rw [u1, e1]
      have z := G.ok (.inl 0) v c rfl
      cases c with
      | sh d => exact z
      | ow t ds => exact z
      | rf t ds => exact hc.elim
      | br j => exact hc.elim
      | on t os => exact z
    · have z := G.pop.ok k u e q2
      cases e with
      | sh d => exact z
      | ow t ds => exact z
      | rf t ds => exact z
      | on t os => exact z
      | br j =>
        exfalso
        match k with
        | .inl n => exact hT _ (List.mem_of_getElem? (ent_temp.mp q2).2) j rfl
        | .inr n => exact G.nbr n j (ent_slot.mp q2).2
  · rcases cs k u e q with ⟨k1, u1, e1⟩ | ⟨hk, q2⟩
    · rcases cs k' u' e' q' with ⟨k1', u1', e1'⟩ | ⟨hk', q2'⟩
      · rw [k1, k1']
      · obtain ⟨n, n0, nq⟩ := lift k' u' e' q2'
        rw [u1, e1] at r
        exact (n0 (G.inj (.inl 0) n v c u' e' a rfl nq r r').symm).elim
    · rcases cs k' u' e' q' with ⟨k1', u1', e1'⟩ | ⟨hk', q2'⟩
      · obtain ⟨n, n0, nq⟩ := lift k u e q2
        rw [u1', e1'] at r'
        exact (n0 (G.inj n (.inl 0) u e v c a nq rfl r r')).elim
      · exact G.pop.inj _ _ _ _ _ _ a q2 q2' r r'
  · by_cases hj : i = j
    · subst hj
      rw [gg] at q
      have e := Option.some.inj (Option.some.inj q)
      rw [e] at hc
      exact hc.elim
    · rw [List.getElem?_set_ne hj] at q; exact G.nbr j k q
  · by_cases hj : i = j
    · subst hj
      rw [gg] at q
      have e := Option.some.inj (Option.some.inj q)
      rw [e] at hc
      exact hc.elim
    · rw [List.getElem?_set_ne hj] at q ⊢; exact G.args j t ds q
/-- what a name may hold: what the slot j holds is shared first -/
def solid (Γ : Gam) : Cell → Option (Cell × Gam)
  | .sh d => some (.sh d, Γ)
  | .ow t ds => some (.ow t ds, Γ)
  | .rf _ _ => none
  | .br i => match keep Γ (.br i) with
    | some (d, Γ') => some (.sh d, Γ')
    | none => none
  | .on t os => some (.on t os, Γ)
theorem Good.solid {c' : Cell} (G : Good K f M H (v :: τ) (c :: T) σ Γ) (e : solid Γ c = some (c', Γ')) : Solid c' ∧ ∃ M', Good K f M' H (v :: τ) (c' :: T) σ Γ' := by
  cases c with
  | sh d => cases e; exact ⟨trivial, M, G⟩
  | ow t ds => cases e; exact ⟨trivial, M, G⟩
  | on t os => cases e; exact ⟨trivial, M, G⟩
  | rf t ds => cases e
  | br i =>
    unfold DL.solid at e
    dsimp only at e
    split at e
    · rename_i d Γ2 hk
      cases e
      obtain ⟨M', G'⟩ := G.keep hk
      exact ⟨trivial, M', G'⟩
    · cases e
end

/-! ### blocks, small statements -/
section
variable {X : Cx} {W : WX} {pos : Pos} {e : Expr} {st : Stmt} {rest : List Stmt} {A B : EF} {G G' : GS} {t : TF}
def sNil : GS := fun Γ => some (.nx Γ)
def sSeq (G G' : GS) : GS := fun Γ => match G Γ with
  | some (.nx Γ1) => G' Γ1
  | o => o
theorem dss_nil : DSs X W [] sNil := by
  refine PSsimp pss_nil fun D σ H h => ?_
  obtain ⟨f, M, Γ, o, G, hG, p⟩ := h
  cases hG
  exact p σ H M G
theorem seq_core {u : GS} {D : Ends} {σ : L2.St} {H : Hp} (h : tS X.K W (sSeq G u) D σ H) : tS X.K W G { D with nx := tS X.K W u D } σ H := by
  obtain ⟨f, M, Γ, o, g, hG, p⟩ := h
  unfold sSeq at hG
  cases hA : G Γ with
  | none => rw [hA] at hG; cases hG
  | some q =>
    rw [hA] at hG
    cases q with
    | nx Γ1 => exact ⟨f, M, Γ, _, g, hA, fun σ' H' M' G1 => ⟨f, M', Γ1, o, G1, hG, p⟩⟩
    | rt c Γ1 => cases hG; exact ⟨f, M, Γ, _, g, hA, p⟩
    | bk Γ1 => cases hG; exact ⟨f, M, Γ, _, g, hA, p⟩
    | ct Γ1 => cases hG; exact ⟨f, M, Γ, _, g, hA, p⟩
    | xc x Γ1 => cases hG; exact ⟨f, M, Γ, _, g, hA, p⟩
theorem dss_cons (h1 : DS X W st G) (h2 : DSs X W rest G') : DSs X W (st :: rest) (sSeq G G') :=
  PSsimp (pss_cons h1 h2) fun _ _ _ h => seq_core h
theorem dss_one (h1 : DS X W st G) : DSs X W [st] G := pss_one h1
def sPass : GS := fun Γ => some (.nx Γ)
def sBreak : GS := fun Γ => some (.bk Γ)
def sCont : GS := fun Γ => some (.ct Γ)
/-- an expression, then what is done with its cell -/
def bindS (A : EF) (k : Cell → GS) : GS := fun Γ => match A Γ with
  | some (.val c, Γ1) => k c Γ1
  | some (.exc x, Γ1) => some (.xc x Γ1)
  | none => none
theorem runS {K : PySem.W.Frag} {D : Ends} {k : Cell → GS} {σ : L2.St} {H : Hp} {R : VK} (h : tS K W (bindS A k) D σ H)
    (q : ∀ f c Γ1 v H1 M1 o, Good K f M1 H1 [v] [c] σ Γ1 → k c Γ1 = some o → PostS K W f D o → R v H1) : tE K W A σ H R := by
  obtain ⟨f, M, Γ, o, G, hG, p⟩ := h
  unfold bindS at hG
  cases hA : A Γ with
  | none => rw [hA] at hG; cases hG
  | some z =>
    obtain ⟨ra, Γ1⟩ := z
    rw [hA] at hG
    cases ra with
    | val c => exact ⟨f, M, [], [], Γ, .val c, Γ1, G, hA, fun v H1 M1 G1 => q f c Γ1 v H1 M1 o G1 hG p⟩
    | exc x =>
      cases hG
      exact ⟨f, M, [], [], Γ, .exc x, Γ1, G, hA, p σ⟩
def sExpr (A : EF) : GS := bindS A fun _ Γ => some (.nx Γ)
theorem ds_expr (he : DE X W e A) (hs : swapsWith e none pos.line X.env = pure false := by rfl) : DS X W (.Expr e pos) (sExpr A) :=
  PSimp (ps_expr he hs) fun D σ H h => runS h fun f c Γ1 v H1 M1 o G1 hk p => by cases hk; exact p σ H1 M1 G1.pop
def sRet (A : EF) : GS := bindS A fun c Γ => some (.rt c Γ)
theorem ds_ret (he : DE X W e A) : DS X W (.Return (some e) pos) (sRet A) :=
  PSimp (ps_ret he) fun D σ H h => runS h fun f c Γ1 v H1 M1 o G1 hk p => by cases hk; exact p v σ H1 M1 G1
def sRetN : GS := fun Γ => some (.rt (.sh (.leaf .non)) Γ)
def sIf (t : TF) (G G' : GS) : GS := fun Γ => match t Γ with
  | some (.val true, Γ1) => G Γ1
  | some (.val false, Γ1) => G' Γ1
  | some (.exc x, Γ1) => some (.xc x Γ1)
  | none => none
theorem ds_if {c : Expr} {a b : List Stmt} (hc : DT X W c t) (ha : DSs X W a G) (hb : DSs X W b G') : DS X W (.If c a b pos) (sIf t G G') := by
  refine PSimp (ps_if hc ha hb) fun D σ H h => ?_
  obtain ⟨f, M, Γ, o, g, hG, p⟩ := h
  unfold sIf at hG
  split at hG
  · rename_i Γ1 h1
    exact ⟨f, M, [], [], Γ, _, Γ1, g, h1, fun H1 M1 G1 => iteT ⟨f, M1, Γ1, o, G1, hG, p⟩⟩
  · rename_i Γ1 h1
    exact ⟨f, M, [], [], Γ, _, Γ1, g, h1, fun H1 M1 G1 => iteF ⟨f, M1, Γ1, o, G1, hG, p⟩⟩
  · rename_i x Γ1 h1
    cases hG
    exact ⟨f, M, [], [], Γ, _, Γ1, g, h1, p σ⟩
  · cases hG
/-- x = e -/
def sSet (i : Nat) (A : EF) : GS := bindS A fun c Γ => match solid Γ c with
  | some (c', Γ') => match setC i c' Γ' with
    | some Γ'' => some (.nx Γ'')
    | none => none
  | none => none
theorem ds_set (i : Nat) {x : Str} {pos' : Pos} (he : DE X W e A) (hN : X.N.Nodup) (hi : X.N[i]? = some x := by rfl) (hx : Loc X.env.scope x := by first | exact Or.inl rfl | exact Or.inr rfl)
    (hs : swapsWith e (some (.Name x pos')) pos.line X.env = pure false := by rfl) (hf : X.fn x = true ∨ X.env.scope.names.lookup x = some .local := by first | exact .inl rfl | exact .inr rfl | assumption) : DS X W (.Assign [.Name x pos'] e pos) (sSet i A) := by
  refine PSimp (ps_set hN hi hx he hs hf) fun D σ H h => ?_
  refine runS h fun f c Γ1 v H1 M1 o G1 hk p => ?_
  split at hk
  · rename_i c' Γ2 h2
    obtain ⟨sc, M2, G2⟩ := G1.solid h2
    split at hk
    · rename_i Γ3 h3
      cases hk
      exact p _ H1 M2 (G2.setS sc NoBr.nil h3)
    · cases hk
  · cases hk
/-- the arguments run, then what is done -/
def bindLS (L : AF) (k : List Cell → GS) : GS := fun Γ => match L Γ with
  | some (.val cs, Γ1) => k cs Γ1
  | some (.exc x, Γ1) => some (.xc x Γ1)
  | none => none
theorem runLS {K : PySem.W.Frag} {D : Ends} {L : AF} {k : List Cell → GS} {σ : L2.St} {H : Hp} {R : List V → Hp → Prop} (h : tS K W (bindLS L k) D σ H)
    (q : ∀ f cs Γ1 vs H1 M1 o, vs.length = cs.length → Good K f M1 H1 (vs.reverse ++ []) (cs.reverse ++ []) σ Γ1 → k cs Γ1 = some o → PostS K W f D o → R vs H1) : tL K W L σ H R := by
  obtain ⟨f, M, Γ, o, G, hG, p⟩ := h
  unfold bindLS at hG
  cases hA : L Γ with
  | none => rw [hA] at hG; cases hG
  | some z =>
    obtain ⟨ra, Γ1⟩ := z
    rw [hA] at hG
    cases ra with
    | val cs => exact ⟨f, M, [], [], Γ, .val cs, Γ1, G, hA, fun vs H1 M1 hl G1 => q f cs Γ1 vs H1 M1 o hl G1 hG p⟩
    | exc x =>
      cases hG
      exact ⟨f, M, [], [], Γ, .exc x, Γ1, G, hA, p σ⟩
/-- what a name may hold -/
def eSolid (A : EF) : EF := bindE A fun c Γ => match solid Γ c with
  | some (c', Γ') => some (.val c', Γ')
  | none => none
theorem de_solid (h : DE X W e A) : DE X W e (eSolid A) := by
  refine PEimp h fun σ H Q h => ?_
  obtain ⟨f, M, τ, T, Γ, r, Γ', G, hF, p⟩ := h
  refine run1 G hF p fun c Γ1 v H1 M1 G1 e => ?_
  split at e
  · rename_i c' Γ2 hk
    cases e
    obtain ⟨_, M2, G2⟩ := G1.solid hk
    exact p v H1 M2 G2
  · cases e
def isSolid : Cell → Bool
  | .sh _ => true
  | .ow _ _ => true
  | .on _ _ => true
  | _ => false
theorem isSolid_of {c : Cell} (h : isSolid c = true) : Solid c := by
  cases c with
  | sh d => trivial
  | ow t ds => trivial
  | on t os => trivial
  | rf t ds => cases h
  | br i => cases h
theorem Solid.nobr {c : Cell} (h : Solid c) : ∀ j, c ≠ .br j := by
  rintro j rfl
  exact h
/-- x, y = a, b -/
def kPar (i j : Nat) (cs : List Cell) : GS := fun Γ1 => match cs with
  | [c, e] => if isSolid c && isSolid e then (match setC j e Γ1 with
    | some Γ2 => match setC i c Γ2 with
      | some Γ3 => some (.nx Γ3)
      | none => none
    | none => none) else none
  | _ => none
def sPar (i j : Nat) (L : AF) : GS := bindLS L (kPar i j)
theorem ds_par (i j : Nat) {x y : Str} {a b : Expr} {L : AF} {px py pt : Pos} {kt k2 pt2} (ha : DA X W [a, b] L) (hc : X.calm = true) (hN : X.N.Nodup) (hw : swappedStores [.Tuple [.Name x px, .Name y py] kt pt] (.Tuple [a, b] k2 pt2) X.env = pure (some [x, y]))
    (hi : X.N[i]? = some x := by rfl) (hj : X.N[j]? = some y := by rfl) (hij : i ≠ j := by decide)
    (hx : X.env.scope.names.lookup x = some .local := by rfl) (hy : X.env.scope.names.lookup y = some .local := by rfl)
    (hs : swapsWithSole [.Tuple [.Name x px, .Name y py] kt pt] (.Tuple [a, b] k2 pt2) pos.line X.env = pure false := by rfl) :
    DS X W (.Assign [.Tuple [.Name x px, .Name y py] kt pt] (.Tuple [a, b] k2 pt2) pos) (sPar i j L) := by
  refine PSimp (ps_par hc hN hi hj hij hx hy ha hw hs) fun D σ H h => ?_
  refine runLS h fun f cs Γ1 vs H1 M1 o hl G1 hk p => ?_
  unfold kPar at hk
  split at hk
  · rename_i c e
    split at hk
    · rename_i hse
      rw [Bool.and_eq_true] at hse
      obtain ⟨sc, se⟩ := hse
      split at hk
      · rename_i Γ2 h2
        split at hk
        · rename_i Γ3 h3
          cases hk
          obtain ⟨v, w, rfl⟩ : ∃ v w, vs = [v, w] := by
            match vs, hl with
            | [v, w], _ => exact ⟨v, w, rfl⟩
          have G2 : Good X.K f M1 H1 [w, v] [e, c] σ Γ1 := G1
          have nb : NoBr [c] := fun d hd => by
            rw [List.mem_singleton] at hd
            rw [hd]
            exact (isSolid_of sc).nobr
          refine ⟨v, w, rfl, ?_⟩
          rw [List.set_comm _ _ hij]
          exact p _ H1 M1 ((G2.setS (isSolid_of se) nb h2).setS (isSolid_of sc) NoBr.nil h3)
        · cases hk
      · cases hk
    · cases hk
  · cases hk
end
end DL

set_option Elab.async false
set_option linter.all false
set_option maxRecDepth 100000
set_option maxHeartbeats 1000000
/-! targets, what is walked, loops -/
namespace DL
open PySem PySem.Spec PyProof.Rows L2

section
variable (K : PySem.W.Frag)
/-- a target whose slots are S stores shared data -/
def tG (S : List Nat) (F : D → Gam → Option Gam) : TG := fun v σ H Q => ∃ f M τ T Γ d Γ', NoBr T ∧ Good K f M H τ T σ Γ ∧ Rep K M v d ∧ F d Γ = some Γ' ∧
  ∀ σ' H' M', Good K f M' H' τ T σ' Γ' → (σ'.length = σ.length ∧ ∀ j, j ∉ S → σ'[j]? = σ[j]?) → Q σ' H'
def tGs (S : List Nat) (F : List D → Gam → Option Gam) : TGs := fun vs σ H Q => ∃ f M τ T Γ ds Γ', NoBr T ∧ Good K f M H τ T σ Γ ∧ Reps K M vs ds ∧ F ds Γ = some Γ' ∧
  ∀ σ' H' M', Good K f M' H' τ T σ' Γ' → (σ'.length = σ.length ∧ ∀ j, j ∉ S → σ'[j]? = σ[j]?) → Q σ' H'
end
abbrev DG (X : Cx) (e : Expr) (S : List Nat) (F : D → Gam → Option Gam) : Prop := PG X e (tG X.K S F)
abbrev DGs (X : Cx) (es : List Expr) (S : List Nat) (F : List D → Gam → Option Gam) : Prop := PGs X es (tGs X.K S F)
theorem PGimp {X : Cx} {e : Expr} {t t' : TG} (h : PG X e t) (k : ∀ v σ H Q, t' v σ H Q → t v σ H Q) : PG X e t' := ⟨fun pins s σ H v u Q I r q => h.run pins s σ H v u Q I r (k v σ H Q q)⟩
theorem PGor {X : Cx} {e : Expr} {t t' : TG} (h : PG X e t) (h' : PG X e t') : PG X e (fun v σ H Q => t v σ H Q ∨ t' v σ H Q) := ⟨fun pins s σ H v u Q I r q => q.elim (h.run pins s σ H v u Q I r) (h'.run pins s σ H v u Q I r)⟩
theorem PGsimp {X : Cx} {es : List Expr} {t t' : TGs} (h : PGs X es t) (k : ∀ v σ H Q, t' v σ H Q → t v σ H Q) : PGs X es t' := ⟨fun pins s σ H v u Q I r q => h.run pins s σ H v u Q I r (k v σ H Q q)⟩
section
variable {X : Cx} {W : WX} {pos : Pos} {e : Expr} {es : List Expr} {S S' : List Nat}
def pNm (i : Nat) : D → Gam → Option Gam := fun d => setC i (.sh d)
def pNil : List D → Gam → Option Gam := fun ds Γ => match ds with
  | [] => some Γ
  | _ => none
def pCons (F : D → Gam → Option Gam) (G : List D → Gam → Option Gam) : List D → Gam → Option Gam := fun ds Γ => match ds with
  | d :: ds => match F d Γ with
    | some Γ1 => G ds Γ1
    | none => none
  | [] => none
def pTup (n : Nat) (F : List D → Gam → Option Gam) : D → Gam → Option Gam := fun d Γ => match d with
  | .node .tup ds => if ds.length = n then F ds Γ else none
  | .node .lst ds => if ds.length = n then F ds Γ else none
  | _ => none
theorem dg_name (i : Nat) {x : Str} (hN : X.N.Nodup) (hi : X.N[i]? = some x := by rfl) (hx : Loc X.env.scope x := by first | exact Or.inl rfl | exact Or.inr rfl) (hf : X.fn x = true ∨ X.env.scope.names.lookup x = some .local := by first | exact .inl rfl | exact .inr rfl | assumption) : DG X (.Name x pos) [i] (pNm i) := by
  refine PGimp (pg_name hN hi hx hf) fun v σ H Q h => ?_
  obtain ⟨f, M, τ, T, Γ, d, Γ', nb, G, r, hF, q⟩ := h
  exact q _ H M ((G.pushSh r).setS trivial nb hF) ⟨List.length_set, fun j hj => by rw [List.getElem?_set_ne (fun z => hj (by rw [z]; exact List.mem_singleton_self _))]⟩
theorem dgs_nil : DGs X [] [] pNil := by
  refine PGsimp pgs_nil fun vs σ H Q h => ?_
  obtain ⟨f, M, τ, T, Γ, ds, Γ', nb, G, r, hF, q⟩ := h
  unfold pNil at hF
  split at hF
  · cases hF
    exact ⟨r.nil_of, q σ H M G ⟨rfl, fun _ _ => rfl⟩⟩
  · cases hF
theorem dgs_cons {F : D → Gam → Option Gam} {G : List D → Gam → Option Gam} (h1 : DG X e S F) (h2 : DGs X es S' G) (hs : (assignEach (e :: es) X.env).map (·.2) = assign e X.env :: (assignEach es X.env).map (·.2) := by rfl) : DGs X (e :: es) (S ++ S') (pCons F G) := by
  refine PGsimp (pgs_cons h1 h2 hs) fun vs σ H Q h => ?_
  obtain ⟨f, M, τ, T, Γ, ds, Γ', nb, g, r, hF, q⟩ := h
  unfold pCons at hF
  split at hF
  · rename_i d ds
    split at hF
    · rename_i Γ1 h1
      obtain ⟨x, xs, rfl, r1, r2⟩ := r.cons_of
      refine ⟨x, xs, rfl, f.at M, M, τ, T, Γ, d, Γ1, nb, g.inner, r1, h1, fun σ1 H1 M1 G1 e1 => ?_⟩
      refine ⟨f, M1, τ, T, Γ1, ds, Γ', nb, g.outer G1, Reps.mono G1.m0 _ _ r2, hF, fun σ2 H2 M2 G2 e2 => q σ2 H2 M2 G2 ⟨e2.1.trans e1.1, fun j hj => ?_⟩⟩
      rw [List.mem_append] at hj
      exact (e2.2 j fun z => hj (.inr z)).trans (e1.2 j fun z => hj (.inl z))
    · cases hF
  · cases hF
theorem dg_tup {k : Nat} {G : List D → Gam → Option Gam} {n : Nat} (h : DGs X es S G) (hc : X.calm = true := by rfl) (hn : (assignEach es X.env).length = n := by rfl) (hst : (assignEach es X.env).findIdx? (·.1) = none := by rfl) : DG X (.Tuple es k pos) S (pTup n G) := by
  refine PGimp (PGor (pg_tup (n := n) hc h hn hst) (pg_lst (n := n) hc h hn hst)) fun v σ H Q hh => ?_
  obtain ⟨f, M, τ, T, Γ, d, Γ', nb, g, r, hF, q⟩ := hh
  unfold pTup at hF
  split at hF
  · rename_i ds
    split at hF
    · rename_i hl
      unfold Rep at r
      obtain ⟨a, xs, rfl, ho, rs⟩ := r
      exact .inl ⟨a, xs, rfl, g.sub.sqt ho, by rw [rs.length]; exact hl, f, M, τ, T, Γ, ds, Γ', nb, g, rs, hF, q⟩
    · cases hF
  · rename_i ds
    split at hF
    · rename_i hl
      unfold Rep at r
      obtain ⟨a, xs, rfl, ho, rs⟩ := r
      exact .inr ⟨a, xs, rfl, SqL.of (g.sub _ _ ho), by rw [rs.length]; exact hl, f, M, τ, T, Γ, ds, Γ', nb, g, rs, hF, q⟩
    · cases hF
  · cases hF
/-- target = value, shared -/
def sAsg (P : D → Gam → Option Gam) (A : EF) : GS := bindS (eKeep A) fun c Γ => match c with
  | .sh d => match P d Γ with
    | some Γ' => some (.nx Γ')
    | none => none
  | _ => none
theorem ds_asg {tg : Expr} {P : D → Gam → Option Gam} {A : EF} (he : DE X W e A) (hg : DG X tg S P) (hs : swapsWithSole [tg] e pos.line X.env = pure false := by rfl) (hw : swappedStores [tg] e X.env = pure none := by rfl)
    (h1 : (assignEach [tg] X.env).map (·.2) = [assign tg X.env] := by rfl) : DS X W (.Assign [tg] e pos) (sAsg P A) := by
  refine PSimp (ps_asg (de_keep he) hg hs hw h1) fun D σ H h => ?_
  refine runS h fun f c Γ1 v H1 M1 o G1 hk p => ?_
  split at hk
  · rename_i d
    split at hk
    · rename_i Γ2 h2
      cases hk
      exact ⟨f, M1, [], [], Γ1, d, Γ2, NoBr.nil, G1.pop, G1.ok (.inl 0) v _ rfl, h2, fun σ' H' M' G' _ => p σ' H' M' G'⟩
    · cases hk
  · cases hk
end

/-! ### what is walked -/
inductive ResD where
  | val (ds : List D)
  | exc (x : Exc)
abbrev IF := Gam → Option (ResD × Gam)
section
variable (K : PySem.W.Frag)
def YOk (M H : Hp) (x : V) (H' : Hp) (d : D) : Prop := (H' = H ∧ Rep K M x d) ∨ ∃ p xs es, H p = none ∧ x = .ref p ∧ H' = upd H p (.tup xs) ∧ Reps K M xs es ∧ d = .node .tup es
def Yl (J : It) (M : Hp) (ds : List D) : Prop := ∀ i H, Sub M H → (∀ d, ds[i]? = some d → J.go i H ∧ ∀ x H', J.yld i H x H' → YOk K M H x H' d) ∧ (i = ds.length → J.stop i H)
def tI (W : WX) (F : IF) : TI := fun σ H R => ∃ f M τ T Γ r Γ', Good K f M H τ T σ Γ ∧ F Γ = some (r, Γ') ∧ match r with
  | .val ds => ∀ J H' M', Good K f M' H' τ T σ Γ' → Yl K J M' ds → R J H'
  | .exc x => PostX K W f τ T σ x Γ'
end
abbrev DI (X : Cx) (W : WX) (tg e : Expr) (F : IF) : Prop := PI X tg e (tI X.K W F)
theorem PIimp {X : Cx} {tg e : Expr} {t t' : TI} (h : PI X tg e t) (k : ∀ σ H R, t' σ H R → t σ H R) : PI X tg e t' := ⟨fun pins s σ H R I q => h.run pins s σ H R I (k σ H R q)⟩
theorem PIor {X : Cx} {tg e : Expr} {t t' : TI} (h : PI X tg e t) (h' : PI X tg e t') : PI X tg e (fun σ H R => t σ H R ∨ t' σ H R) := ⟨fun pins s σ H R I q => q.elim (h.run pins s σ H R I) (h'.run pins s σ H R I)⟩
section
variable {K : PySem.W.Frag} {M : Hp}
theorem Yl.list {a : Addr} {xs : List V} {ds : List D} (h : SqL K M a xs) (r : Reps K M xs ds) : Yl K (Itl K a) M ds := fun i H s => ⟨fun d e => by
    obtain ⟨x, ex, rx⟩ := r.get e
    refine ⟨⟨xs, x, s.sql h, ex⟩, fun y H' hy => .inl ⟨hy.1, ?_⟩⟩
    have := hy.2 xs (s.sql h)
    rw [ex] at this
    cases this
    exact rx, fun e => ⟨xs, s.sql h, by rw [r.length, e]; exact Nat.le_refl _⟩⟩
theorem Yl.tup {a : Addr} {xs : List V} {ds : List D} (h : SqT K M a xs) (r : Reps K M xs ds) : Yl K (Itt K a) M ds := fun i H s => ⟨fun d e => by
    obtain ⟨x, ex, rx⟩ := r.get e
    refine ⟨⟨xs, x, s.sqt h, ex⟩, fun y H' hy => .inl ⟨hy.1, ?_⟩⟩
    have := hy.2 xs (s.sqt h)
    rw [ex] at this
    cases this
    exact rx, fun e => ⟨xs, s.sqt h, by rw [r.length, e]; exact Nat.le_refl _⟩⟩
def rangeD (lo : Int) (n : Nat) : List D := (List.range n).map fun (i : Nat) => D.int (lo + (i : Int))
theorem Yl.range {lo : Int} {n : Nat} : Yl K (Itr lo n) M (rangeD lo n) := fun i H s => by
  refine ⟨fun d e => ?_, fun e => ?_⟩
  · unfold rangeD at e
    rw [List.getElem?_map] at e
    by_cases hi : i < n
    · rw [List.getElem?_range hi] at e
      cases e
      exact ⟨hi, fun y H' hy => .inl ⟨hy.1, by unfold Rep; exact hy.2⟩⟩
    · rw [List.getElem?_eq_none (by rw [List.length_range]; omega)] at e
      cases e
  · show n ≤ i
    rw [e]
    unfold rangeD
    rw [List.length_map, List.length_range]
    exact Nat.le_refl _
def signsD (x : Str) : List D := x.cps.toList.map fun c => D.str ⟨#[c]⟩
theorem Yl.signs {x : Str} : Yl K (Its x) M (signsD x) := fun i H s => by
  refine ⟨fun d e => ?_, fun e => ?_⟩
  · unfold signsD at e
    rw [List.getElem?_map] at e
    cases hc : x.cps.toList[i]? with
    | none => rw [hc] at e; cases e
    | some c =>
      rw [hc] at e
      cases e
      have hl := lt_of_get hc
      refine ⟨?_, fun y H' hy => .inl ⟨hy.1, ?_⟩⟩
      · show i < x.cps.size
        simpa using hl
      obtain ⟨c', h1, h2⟩ := hy.2
      have : x.cps[i]? = some c := by simpa using hc
      rw [this] at h1
      cases h1
      unfold Rep
      exact h2
  · show x.cps.size ≤ i
    rw [e]
    unfold signsD
    rw [List.length_map]
    simp
end
section
variable {X : Cx} {W : WX} {pos p : Pos} {e tg : Expr} {A : EF} {L : AF}
/-- a list, a tuple, a text -/
def iSeq (A : EF) : IF := fun Γ => match eKeep A Γ with
  | some (.val (.sh d), Γ1) => (match d with
    | .node .lst ds => some (.val ds, Γ1)
    | .node .scr ds => some (.val ds, Γ1)
    | .node .tup ds => some (.val ds, Γ1)
    | .leaf (.str x) => some (.val (signsD x), Γ1)
    | _ => none)
  | some (.exc x, Γ1) => some (.exc x, Γ1)
  | _ => none
theorem di_seq (he : DE X W e A) : DI X W tg e (iSeq A) := by
  have hk := de_keep he
  refine PIimp (PIor (PIor (pi_list hk) (pi_tup hk)) (pi_str hk)) fun σ H R h => ?_
  obtain ⟨f, M, τ, T, Γ, r, Γ', G, hF, p⟩ := h
  unfold iSeq at hF
  split at hF
  · rename_i d Γ1 hA
    split at hF
    · rename_i ds
      cases hF
      refine .inl (.inl ⟨f, M, τ, T, Γ, _, Γ', G, hA, fun v H1 M1 G1 => ?_⟩)
      have r : Rep X.K M1 v (.node .lst ds) := G1.ok (.inl 0) v _ rfl
      unfold Rep at r
      obtain ⟨a, xs, rfl, ho, rs⟩ := r
      exact ⟨a, rfl, ⟨xs, SqL.of (G1.sub _ _ ho)⟩, p _ _ M1 G1.pop (Yl.list (SqL.of ho) rs)⟩
    · rename_i ds
      cases hF
      refine .inl (.inl ⟨f, M, τ, T, Γ, _, Γ', G, hA, fun v H1 M1 G1 => ?_⟩)
      have r : Rep X.K M1 v (.node .scr ds) := G1.ok (.inl 0) v _ rfl
      unfold Rep at r
      obtain ⟨a, xs, rfl, ho, rs⟩ := r
      exact ⟨a, rfl, ⟨xs, G1.sub.sql ho⟩, p _ _ M1 G1.pop (Yl.list ho rs)⟩
    · rename_i ds
      cases hF
      refine .inl (.inr ⟨f, M, τ, T, Γ, _, Γ', G, hA, fun v H1 M1 G1 => ?_⟩)
      have r : Rep X.K M1 v (.node .tup ds) := G1.ok (.inl 0) v _ rfl
      unfold Rep at r
      obtain ⟨a, xs, rfl, ho, rs⟩ := r
      exact ⟨a, rfl, ⟨xs, G1.sub.sqt ho⟩, p _ _ M1 G1.pop (Yl.tup ho rs)⟩
    · rename_i x
      cases hF
      refine .inr ⟨f, M, τ, T, Γ, _, Γ', G, hA, fun v H1 M1 G1 => ?_⟩
      have r : Rep X.K M1 v (.leaf (.str x)) := G1.ok (.inl 0) v _ rfl
      unfold Rep at r
      exact ⟨x, r, p _ _ M1 G1.pop Yl.signs⟩
    · cases hF
  · rename_i x Γ1 hA
    cases hF
    exact .inl (.inl ⟨f, M, τ, T, Γ, _, Γ', G, hA, p⟩)
  · cases hF
/-- a walk made of shared arguments -/
def iOfL (g : List D → Option (List D)) (L : AF) : IF := fun Γ => match L Γ with
  | some (.val cs, Γ1) => (match shs cs with
    | some ds => match g ds with
      | some es => some (.val es, Γ1)
      | none => none
    | none => none)
  | some (.exc x, Γ1) => some (.exc x, Γ1)
  | none => none
theorem il_core {g : List D → Option (List D)} {σ : L2.St} {H : Hp} {R : It → Hp → Prop} {R' : List V → Hp → Prop} (h : tI X.K W (iOfL g L) σ H R)
    (k : ∀ M H vs ds es, Sub M H → Reps X.K M vs ds → g ds = some es → (∀ J, Yl X.K J M es → R J H) → R' vs H) : tL X.K W L σ H R' := by
  obtain ⟨f, M, τ, T, Γ, r, Γ', G, hF, p⟩ := h
  unfold iOfL at hF
  split at hF
  · rename_i cs Γ1 hA
    split at hF
    · rename_i ds hd
      split at hF
      · rename_i es he
        cases hF
        refine ⟨f, M, τ, T, Γ, _, Γ', G, hA, fun vs H1 M1 hl G1 => ?_⟩
        obtain ⟨rs, G2⟩ := G1.shs hl hd
        exact k M1 H1 vs ds es G2.sub rs he fun J hJ => p J H1 M1 G2 hJ
      · cases hF
    · cases hF
  · rename_i x Γ1 hA
    cases hF
    exact ⟨f, M, τ, T, Γ, _, Γ', G, hA, p⟩
  · cases hF
def gRange1 : List D → Option (List D)
  | [.leaf (.int j)] => if -4611686018427387904 ≤ j ∧ j < 4611686018427387904 then some (rangeD 0 j.toNat) else none
  | _ => none
def gRange2 : List D → Option (List D)
  | [.leaf (.int i), .leaf (.int j)] => if (-4611686018427387904 ≤ i ∧ i < 4611686018427387904) ∧ -4611686018427387904 ≤ j ∧ j < 4611686018427387904 then some (rangeD i (j - i).toNat) else none
  | _ => none
theorem Reps.one {K : PySem.W.Frag} {M : Hp} {vs : List V} {u : V} (r : Reps K M vs [.leaf u]) : vs = [u] := by
  obtain ⟨x, xs, rfl, r1, r2⟩ := r.cons_of
  unfold Rep at r1
  rw [r1, r2.nil_of]
theorem Reps.two {K : PySem.W.Frag} {M : Hp} {vs : List V} {u w : V} (r : Reps K M vs [.leaf u, .leaf w]) : vs = [u, w] := by
  obtain ⟨x, xs, rfl, r1, r2⟩ := r.cons_of
  unfold Rep at r1
  rw [r1, r2.one]
theorem di_range1 {a : Expr} (ha : DA X W [a] L) (hm : X.mg "range" = none) (hg : Gl X "range" := by rfl) (hs : starEach [a] X.env = [(false, eval a X.env)] := by rfl) : DI X W tg (.Call (.Name "range" p) [a] [] pos) (iOfL gRange1 L) := by
  refine PIimp (pi_range1 hg hm ha hs) fun σ H R h => il_core h fun M H vs ds es s rs he q => ?_
  unfold gRange1 at he
  split at he
  · rename_i j
    split at he
    · rename_i hj
      cases he
      exact ⟨j, rs.one, hj.1, hj.2, q _ Yl.range⟩
    · cases he
  · cases he
end

/-! ### for -/
def forD (P : D → Gam → Option Gam) (B : GS) : List D → GS
  | [], Γ => some (.nx Γ)
  | d :: r, Γ => match P d Γ with
    | some Γ1 => (match B Γ1 with
      | some (.nx Γ2) => forD P B r Γ2
      | some (.ct Γ2) => forD P B r Γ2
      | some (.bk Γ2) => some (.nx Γ2)
      | o => o)
    | none => none
def sFor (I : IF) (P : D → Gam → Option Gam) (B : GS) : GS := fun Γ => match I Γ with
  | some (.val ds, Γ1) => forD P B ds Γ1
  | some (.exc x, Γ1) => some (.xc x Γ1)
  | none => none
theorem Good.yield {K : PySem.W.Frag} {f : Frm} {M H H' : Hp} {τ : List V} {T : List Cell} {σ : L2.St} {Γ : Gam} {x : V} {d : D} (G : Good K f M H τ T σ Γ) (y : YOk K M H x H' d) : ∃ M', Sub M M' ∧ Good K f M' H' τ T σ Γ ∧ Rep K M' x d := by
  rcases y with ⟨rfl, r⟩ | ⟨p, xs, es, hn, rfl, rfl, rs, rfl⟩
  · exact ⟨M, Sub.refl M, G, r⟩
  · obtain ⟨M', G'⟩ := (G.inner).allocF hn rs
    exact ⟨M', G'.m0, (G.outer G').pop, G'.ok (.inl 0) _ _ rfl⟩
theorem ds_for {X : Cx} {W : WX} {tg iter : Expr} {body : List Stmt} {I : IF} {S : List Nat} {P : D → Gam → Option Gam} {B : GS} {pos : Pos} (hi : DI X W tg iter I) (hg : DG X tg S P) (hb : DSs X W body B) (hp : PassesOwn (model X.prog X.w) X.A X.env X.xe) (hc : X.calm = true := by rfl)
    (hs : ∀ x, foldedSetIterable iter X.env x = pure x := by intro _; rfl) : DS X W (.For tg iter body [] pos) (sFor I P B) := by
  refine PSimp (ps_for hp hc hi hg hb hs) fun D σ H h => ?_
  obtain ⟨f, M, Γ, o, G, hG, p⟩ := h
  unfold sFor at hG
  split at hG
  · rename_i ds Γ1 hI
    refine ⟨f, M, [], [], Γ, .val ds, Γ1, G, hI, fun J H1 M1 G1 hJ => ?_⟩
    refine ⟨fun i m σ H => m = ds.length - i ∧ i ≤ ds.length ∧ ∃ M2 Γ2, Good X.K (f.at M1) M2 H [] [] σ Γ2 ∧ forD P B (ds.drop i) Γ2 = some o, ⟨ds.length, by simp, Nat.zero_le _, M1, Γ1, G1.inner, hG⟩, ?_⟩
    rintro i m σ2 H2 ⟨rfl, hi, M2, Γ2, G2, e2⟩
    obtain ⟨go, stop⟩ := hJ i H2 (G2.m0.trans G2.sub)
    by_cases hlt : i < ds.length
    · have hd : ds[i]? = some ds[i] := List.getElem?_eq_getElem hlt
      obtain ⟨g, y⟩ := go _ hd
      refine .inr ⟨g, fun σ' H' => ∃ M2 Γ2, Good X.K (f.at M1) M2 H' [] [] σ' Γ2 ∧ forD P B (ds.drop (i + 1)) Γ2 = some o, fun σ' H' hN => ⟨ds.length - (i + 1), by omega, rfl, hlt, hN⟩, fun x H' hy => ?_⟩
      have hdrop : ds.drop i = ds[i] :: ds.drop (i + 1) := List.drop_eq_getElem_cons hlt
      rw [hdrop] at e2
      unfold forD at e2
      split at e2
      · rename_i Γ3 h3
        have y' : YOk X.K M2 H2 x H' ds[i] := by
          rcases y x H' hy with ⟨a, b⟩ | ⟨q, xs, es, a, b, c, d, e⟩
          · exact .inl ⟨a, Rep.mono G2.m0 _ _ b⟩
          · exact .inr ⟨q, xs, es, a, b, c, Reps.mono G2.m0 _ _ d, e⟩
        obtain ⟨M3, _, G3, r3⟩ := G2.yield y'
        refine ⟨f.at M1, M3, [], [], Γ2, ds[i], Γ3, NoBr.nil, G3, r3, h3, fun σ4 H4 M4 G4 _ => ?_⟩
        cases hB : B Γ3 with
        | none => rw [hB] at e2; cases e2
        | some b =>
          rw [hB] at e2
          cases b with
          | nx Γ4 => exact ⟨f.at M1, M4, Γ3, _, G4, hB, fun σ' H' M' G' => ⟨M', Γ4, G', e2⟩⟩
          | ct Γ4 => exact ⟨f.at M1, M4, Γ3, _, G4, hB, fun σ' H' M' G' => ⟨M', Γ4, G', e2⟩⟩
          | bk Γ4 =>
            cases e2
            exact ⟨f.at M1, M4, Γ3, _, G4, hB, fun σ' H' M' G' => p σ' H' M' (G1.outer G')⟩
          | rt c Γ4 =>
            cases e2
            exact ⟨f.at M1, M4, Γ3, _, G4, hB, fun v σ' H' M' G' => p v σ' H' M' (G1.outer G')⟩
          | xc x Γ4 =>
            cases e2
            exact ⟨f.at M1, M4, Γ3, _, G4, hB, fun σ' d H' M' G' hx => p σ' d H' M' (G1.outer G') hx⟩
      · cases e2
    · have e : i = ds.length := by omega
      refine .inl ⟨stop e, ?_⟩
      rw [e, List.drop_length] at e2
      cases e2
      exact p σ2 H2 M2 (G1.outer G2)
  · rename_i x Γ1 hI
    cases hG
    exact ⟨f, M, [], [], Γ, .exc x, Γ1, G, hI, p σ⟩
  · cases hG

/-! ### while -/
def whileN (t : TF) (B : GS) : Nat → GS
  | 0, _ => none
  | n + 1, Γ => match t Γ with
    | some (.val true, Γ1) => (match B Γ1 with
      | some (.nx Γ2) => whileN t B n Γ2
      | some (.ct Γ2) => whileN t B n Γ2
      | some (.bk Γ2) => some (.nx Γ2)
      | o => o)
    | some (.val false, Γ1) => some (.nx Γ1)
    | some (.exc x, Γ1) => some (.xc x Γ1)
    | none => none
theorem whileN_succ {t : TF} {B : GS} : ∀ {n : Nat} {Γ : Gam} {o : Fl}, whileN t B n Γ = some o → whileN t B (n + 1) Γ = some o := by
  intro n
  induction n with
  | zero => intro Γ o h; cases h
  | succ n ih =>
    intro Γ o h
    unfold whileN at h ⊢
    cases ht : t Γ with
    | none => rw [ht] at h; cases h
    | some q =>
      obtain ⟨r, Γ1⟩ := q
      rw [ht] at h
      cases r with
      | exc x => exact h
      | val b =>
        cases b with
        | false => exact h
        | true =>
          dsimp only at h ⊢
          cases hB : B Γ1 with
          | none => rw [hB] at h; cases h
          | some z =>
            rw [hB] at h
            cases z with
            | nx Γ2 => exact ih h
            | ct Γ2 => exact ih h
            | bk Γ2 => exact h
            | rt c Γ2 => exact h
            | xc x Γ2 => exact h
theorem whileN_le {t : TF} {B : GS} {n m : Nat} {Γ : Gam} {o : Fl} (h : whileN t B n Γ = some o) (hl : n ≤ m) : whileN t B m Γ = some o := by
  obtain ⟨k, rfl⟩ := Nat.exists_eq_add_of_le hl
  clear hl
  induction k with
  | zero => exact h
  | succ k ih => exact whileN_succ ih
open Classical in
/-- the while's outcome, if it comes to one -/
noncomputable def sWhile (t : TF) (B : GS) : GS := fun Γ => if h : ∃ n o, whileN t B n Γ = some o then some (Classical.choose (Classical.choose_spec h)) else none
theorem sWhile_of {t : TF} {B : GS} {n : Nat} {Γ : Gam} {o : Fl} (h : whileN t B n Γ = some o) : sWhile t B Γ = some o := by
  have hx : ∃ n o, whileN t B n Γ = some o := ⟨n, o, h⟩
  unfold sWhile
  rw [dif_pos hx]
  have h1 := Classical.choose_spec (Classical.choose_spec hx)
  have a := whileN_le h1 (Nat.le_max_left _ n)
  have b := whileN_le h (Nat.le_max_right (Classical.choose hx) n)
  rw [a] at b
  exact b
theorem sWhile_to {t : TF} {B : GS} {Γ : Gam} {o : Fl} (h : sWhile t B Γ = some o) : ∃ n, whileN t B n Γ = some o := by
  unfold sWhile at h
  split at h
  · rename_i hx
    refine ⟨Classical.choose hx, ?_⟩
    have h1 := Classical.choose_spec (Classical.choose_spec hx)
    rw [h1]
    exact h
  · cases h
/-- one turn -/
theorem sWhile_eq (t : TF) (B : GS) (Γ : Gam) : sWhile t B Γ = match t Γ with
    | some (.val true, Γ1) => (match B Γ1 with
      | some (.nx Γ2) => sWhile t B Γ2
      | some (.ct Γ2) => sWhile t B Γ2
      | some (.bk Γ2) => some (.nx Γ2)
      | o => o)
    | some (.val false, Γ1) => some (.nx Γ1)
    | some (.exc x, Γ1) => some (.xc x Γ1)
    | none => none := by
  have one : ∀ n o, whileN t B (n + 1) Γ = some o → (match t Γ with
    | some (.val true, Γ1) => (match B Γ1 with
      | some (.nx Γ2) => sWhile t B Γ2
      | some (.ct Γ2) => sWhile t B Γ2
      | some (.bk Γ2) => some (.nx Γ2)
      | o => o)
    | some (.val false, Γ1) => some (.nx Γ1)
    | some (.exc x, Γ1) => some (.xc x Γ1)
    | none => none) = some o := fun n o h => by
    unfold whileN at h
    split at h
    · rename_i Γ1 h1
      split at h
      · rename_i Γ2 h2; exact sWhile_of h
      · rename_i Γ2 h2; exact sWhile_of h
      · exact h
      · exact h
    · exact h
    · exact h
    · cases h
  cases hw : sWhile t B Γ with
  | some o =>
    obtain ⟨n, hn⟩ := sWhile_to hw
    cases n with
    | zero => cases hn
    | succ n => exact (one n o hn).symm
  | none =>
    have no : ∀ n o, whileN t B n Γ ≠ some o := fun n o h => by rw [sWhile_of h] at hw; cases hw
    split
    · rename_i Γ1 h1
      split
      · rename_i Γ2 h2
        cases h3 : sWhile t B Γ2 with
        | none => rfl
        | some o =>
          obtain ⟨n, hn⟩ := sWhile_to h3
          exact (no (n + 1) o (by unfold whileN; rw [h1]; dsimp only; rw [h2]; exact hn)).elim
      · rename_i Γ2 h2
        cases h3 : sWhile t B Γ2 with
        | none => rfl
        | some o =>
          obtain ⟨n, hn⟩ := sWhile_to h3
          exact (no (n + 1) o (by unfold whileN; rw [h1]; dsimp only; rw [h2]; exact hn)).elim
      · rename_i Γ2 h2
        exact (no 1 _ (by unfold whileN; rw [h1]; dsimp only; rw [h2])).elim
      · rename_i h4 h5 h6
        cases hB : B Γ1 with
        | none => rfl
        | some b =>
          cases b with
          | nx Γ2 => exact (h4 Γ2 hB).elim
          | ct Γ2 => exact (h5 Γ2 hB).elim
          | bk Γ2 => exact (h6 Γ2 hB).elim
          | rt c Γ2 => exact (no 1 _ (by unfold whileN; rw [h1]; dsimp only; rw [hB])).elim
          | xc x Γ2 => exact (no 1 _ (by unfold whileN; rw [h1]; dsimp only; rw [hB])).elim
    · rename_i Γ1 h1
      exact (no 1 _ (by unfold whileN; rw [h1])).elim
    · rename_i x Γ1 h1
      exact (no 1 _ (by unfold whileN; rw [h1])).elim
    · rfl
theorem ds_while {X : Cx} {W : WX} {c : Expr} {body : List Stmt} {t : TF} {B : GS} {pos : Pos} (hc : DT X W c t) (hb : DSs X W body B) (hp : PassesOwn (model X.prog X.w) X.A X.env X.xe) : DS X W (.While c body [] pos) (sWhile t B) := by
  refine PSimp (ps_while hp hc hb) fun D σ H h => ?_
  obtain ⟨f, M, Γ, o, G, hG, p⟩ := h
  obtain ⟨n, hn⟩ := sWhile_to hG
  refine ⟨fun m σ H => ∃ M Γ, Good X.K f M H [] [] σ Γ ∧ whileN t B m Γ = some o, ⟨n, M, Γ, G, hn⟩, ?_⟩
  rintro m σ1 H1 ⟨M1, Γ1, G1, e1⟩
  cases m with
  | zero => cases e1
  | succ m =>
    unfold whileN at e1
    split at e1
    · rename_i Γ2 h2
      refine ⟨f, M1, [], [], Γ1, _, Γ2, G1, h2, fun H2 M2 G2 => iteT ⟨fun σ H => ∃ M Γ, Good X.K f M H [] [] σ Γ ∧ whileN t B m Γ = some o, fun σ' H' q => ⟨m, Nat.lt_succ_self m, q⟩, ?_⟩⟩
      cases hB : B Γ2 with
      | none => rw [hB] at e1; cases e1
      | some b =>
        rw [hB] at e1
        cases b with
        | nx Γ3 => exact ⟨f, M2, Γ2, _, G2, hB, fun σ' H' M' G' => ⟨M', Γ3, G', e1⟩⟩
        | ct Γ3 => exact ⟨f, M2, Γ2, _, G2, hB, fun σ' H' M' G' => ⟨M', Γ3, G', e1⟩⟩
        | bk Γ3 => cases e1; exact ⟨f, M2, Γ2, _, G2, hB, p⟩
        | rt c Γ3 => cases e1; exact ⟨f, M2, Γ2, _, G2, hB, p⟩
        | xc x Γ3 => cases e1; exact ⟨f, M2, Γ2, _, G2, hB, p⟩
    · rename_i Γ2 h2
      cases e1
      exact ⟨f, M1, [], [], Γ1, _, Γ2, G1, h2, fun H2 M2 G2 => iteF (p σ1 H2 M2 G2)⟩
    · rename_i x Γ2 h2
      cases e1
      exact ⟨f, M1, [], [], Γ1, _, Γ2, G1, h2, p σ1⟩
    · cases e1
end DL

set_option Elab.async false
set_option linter.all false
set_option maxRecDepth 100000
set_option maxHeartbeats 1000000
/-! defs and their calls -/
namespace DL
open PySem PySem.Spec PyProof.Rows L2

/-- a def's mirror: its arguments' cells; what it hands back, and the cells behind it -/
abbrev MF := List Cell → Option (Res × List Cell)
section
variable (K : PySem.W.Frag)
def PostF (f : Frm) (vs : List V) (Q : VK) (E : XK) (r : Res) (T' : List Cell) : Prop :=
  match r with
  | .val c => Solid c ∧ ∀ v H' M', Good K f M' H' (v :: vs) (c :: T') [] [] → Q v H'
  | .exc x => ∀ d H' M', Good K f M' H' vs T' [] [] → XOk K M' d x → E (.ref x.cls) (some d) H'
def spM (n : Nat) (F : MF) : Sp := fun vs H Q E => vs.length = n ∧ ∃ f M T r T', Good K f M H vs T [] [] ∧ F T = some (r, T') ∧ PostF K f vs Q E r T'
end
structure RoomG (k : Nat) (A : Around) : Prop where
  room : Room k A
  gd : A.guards = some []
theorem RoomG.mono {j k : Nat} {A : Around} (r : RoomG k A) (h : j ≤ k) : RoomG j A := ⟨r.room.mono h, r.gd⟩
/-- the def at f does what its mirror says -/
structure FnG (P : Program) (w : World) (K : PySem.W.Frag) (mg : Str → Option Value) (base : Heap) (k : Nat) (f : Addr) (fd : FuncData) (ps : List Str) (F : MF) : Prop where
  run : ∀ (A : Around) (outer : List Env) (s : Shared) (H : Hp) (args : Args) (us : List Value) (vs : List V) (Q : VK) (E : XK), RoomG k A → Env0 P w K mg base A outer s H → BindsTo s fd args (ps.zip us) → Vals vs us → spM K ps.length F vs H Q E →
    codeAny (model P w) A (.call (.ref f) args) (CR (L2.CX P w) outer P w H s Q E) s
theorem FnG.mono {P : Program} {w : World} {K : PySem.W.Frag} {mg : Str → Option Value} {base : Heap} {j k : Nat} {f : Addr} {fd : FuncData} {ps : List Str} {F : MF} (h : FnG P w K mg base j f fd ps F) (l : j ≤ k) : FnG P w K mg base k f fd ps F :=
  ⟨fun A outer s H args us vs Q E r => h.run A outer s H args us vs Q E (r.mono l)⟩

/-! ### arguments as a callee gets them -/
/-- b: the slot whose object is lent, and its place among the arguments -/
def argsC (Γ : Gam) : List Cell → Option (List Cell × Option (Nat × Nat))
  | [] => some ([], none)
  | .sh d :: cs => match argsC Γ cs with
    | some (T, b) => some (.sh d :: T, b.map fun p => (p.1, p.2 + 1))
    | none => none
  | .br i :: cs => match argsC Γ cs with
    | some (T, b) => (match Γ[i]? with
      | some (some (.sh d)) => some (.sh d :: T, b.map fun p => (p.1, p.2 + 1))
      | some (some (.ow t ds)) => (match b with
        | none => some (.ow t ds :: T, some (i, 0))
        | some _ => none)
      | some (some (.rf t ds)) => (match b with
        | none => some (.ow t ds :: T, some (i, 0))
        | some _ => none)
      | _ => none)
    | none => none
  | _ :: _ => none
/-- the object lent out, behind the call -/
def putB (Γ : Gam) (b : Option (Nat × Nat)) (T' : List Cell) : Option Gam := match b with
  | none => some Γ
  | some (i, j) => match T'[j]? with
    | some (.ow t ds) => (match Γ[i]? with
      | some (some (.ow _ _)) => some (Γ.set i (some (.ow t ds)))
      | some (some (.rf _ _)) => some (Γ.set i (some (.rf t ds)))
      | _ => none)
    | _ => none
theorem argsC_sh {K : PySem.W.Frag} {M : Hp} {σ : L2.St} {Γ : Gam} {T1 : List Cell} {b1 : Option (Nat × Nat)} {v : V} {vs : List V} {d : D} (r0 : Rep K M v d) (l1 : T1.length = vs.length)
    (k1 : ∀ (j : Nat) (v : V) (c : Cell), vs[j]? = some v → T1[j]? = some c → (∃ d, c = .sh d ∧ Rep K M v d) ∨ ∃ t ds i, c = .ow t ds ∧ b1 = some (i, j) ∧ σ[i]? = some (some v) ∧ (Γ[i]? = some (some (.ow t ds)) ∨ Γ[i]? = some (some (.rf t ds))))
    (n1 : ∀ i j, b1 = some (i, j) → ∃ t ds, T1[j]? = some (Cell.ow t ds)) :
    (Cell.sh d :: T1).length = (v :: vs).length ∧ (∀ (j : Nat) (u : V) (c : Cell), (v :: vs)[j]? = some u → (Cell.sh d :: T1)[j]? = some c → (∃ d, c = .sh d ∧ Rep K M u d) ∨ ∃ t ds i, c = .ow t ds ∧ (b1.map fun p => (p.1, p.2 + 1)) = some (i, j) ∧ σ[i]? = some (some u) ∧ (Γ[i]? = some (some (.ow t ds)) ∨ Γ[i]? = some (some (.rf t ds)))) ∧
      (∀ i j, (b1.map fun p => (p.1, p.2 + 1)) = some (i, j) → ∃ t ds, (Cell.sh d :: T1)[j]? = some (Cell.ow t ds)) := by
  refine ⟨by rw [List.length_cons, List.length_cons, l1], fun j u e q r => ?_, fun i j e => ?_⟩
  · cases j with
    | zero => cases q; cases r; exact .inl ⟨d, rfl, r0⟩
    | succ j =>
      rcases k1 j u e q r with z | ⟨t, ds, i, e1, e2, e3⟩
      · exact .inl z
      · exact .inr ⟨t, ds, i, e1, by rw [e2]; rfl, e3⟩
  · cases b1 with
    | none => cases e
    | some p =>
      cases e
      exact n1 p.1 p.2 rfl
theorem argsC_ow {K : PySem.W.Frag} {M : Hp} {σ : L2.St} {Γ : Gam} {T1 : List Cell} {v : V} {vs : List V} {i : Nat} {t : Tag} {ds : List D} (hv : σ[i]? = some (some v)) (hg : Γ[i]? = some (some (.ow t ds)) ∨ Γ[i]? = some (some (.rf t ds))) (l1 : T1.length = vs.length)
    (k1 : ∀ (j : Nat) (v : V) (c : Cell), vs[j]? = some v → T1[j]? = some c → (∃ d, c = .sh d ∧ Rep K M v d) ∨ ∃ t ds i, c = .ow t ds ∧ (none : Option (Nat × Nat)) = some (i, j) ∧ σ[i]? = some (some v) ∧ (Γ[i]? = some (some (.ow t ds)) ∨ Γ[i]? = some (some (.rf t ds)))) :
    (Cell.ow t ds :: T1).length = (v :: vs).length ∧ (∀ (j : Nat) (u : V) (c : Cell), (v :: vs)[j]? = some u → (Cell.ow t ds :: T1)[j]? = some c → (∃ d, c = .sh d ∧ Rep K M u d) ∨ ∃ t ds i', c = .ow t ds ∧ some (i, 0) = some (i', j) ∧ σ[i']? = some (some u) ∧ (Γ[i']? = some (some (.ow t ds)) ∨ Γ[i']? = some (some (.rf t ds)))) ∧
      (∀ i' j, some (i, 0) = some (i', j) → ∃ t' ds', (Cell.ow t ds :: T1)[j]? = some (Cell.ow t' ds')) := by
  refine ⟨by rw [List.length_cons, List.length_cons, l1], fun j u e q r => ?_, fun i' j e => ?_⟩
  · cases j with
    | zero => cases q; cases r; exact .inr ⟨t, ds, i, rfl, rfl, hv, hg⟩
    | succ j =>
      rcases k1 j u e q r with z | ⟨_, _, _, _, z, _⟩
      · exact .inl z
      · cases z
  · cases e
    exact ⟨t, ds, rfl⟩
section
variable {K : PySem.W.Frag} {f : Frm} {M H M' H' : Hp} {τ : List V} {T0 T : List Cell} {σ : L2.St} {Γ : Gam} {b : Option (Nat × Nat)}
/-- the cells one by one: shared data, or the one object that is lent -/
theorem argsC_ok (hs : ∀ (i : Nat) (c : Cell), Γ[i]? = some (some c) → ∃ v, σ[i]? = some (some v) ∧ COk K f M H σ v c) : ∀ {cs T : List Cell} {b : Option (Nat × Nat)} {vs : List V}, vs.length = cs.length → (∀ (j : Nat) (v : V) (c : Cell), vs[j]? = some v → cs[j]? = some c → COk K f M H σ v c) → argsC Γ cs = some (T, b) →
    T.length = vs.length ∧ (∀ (j : Nat) (v : V) (c : Cell), vs[j]? = some v → T[j]? = some c → (∃ d, c = .sh d ∧ Rep K M v d) ∨ ∃ t ds i, c = .ow t ds ∧ b = some (i, j) ∧ σ[i]? = some (some v) ∧ (Γ[i]? = some (some (.ow t ds)) ∨ Γ[i]? = some (some (.rf t ds)))) ∧
      (∀ i j, b = some (i, j) → ∃ t ds, T[j]? = some (Cell.ow t ds))
  | [], T, b, vs, hl, _, h => by
    cases h
    have : vs = [] := List.length_eq_zero_iff.mp hl
    subst this
    exact ⟨rfl, fun j v c e => by simp at e, fun i j e => by cases e⟩
  | c :: cs, T, b, [], hl, _, _ => by cases hl
  | .sh d :: cs, T, b, v :: vs, hl, hc, h => by
    unfold argsC at h
    split at h
    · rename_i T1 b1 h1
      cases h
      obtain ⟨l1, k1, n1⟩ := argsC_ok hs (vs := vs) (by simpa using hl) (fun j u e q r => hc (j + 1) u e q r) h1
      exact argsC_sh (hc 0 _ _ rfl rfl) l1 k1 n1
    · cases h
  | .br i :: cs, T, b, v :: vs, hl, hc, h => by
    have hv : σ[i]? = some (some v) := hc 0 v _ rfl rfl
    unfold argsC at h
    split at h
    · rename_i T1 b1 h1
      obtain ⟨l1, k1, n1⟩ := argsC_ok hs (vs := vs) (by simpa using hl) (fun j u e q r => hc (j + 1) u e q r) h1
      split at h
      · rename_i d hg
        cases h
        obtain ⟨v', hv', k⟩ := hs i _ hg
        rw [hv] at hv'; cases hv'
        exact argsC_sh k l1 k1 n1
      · rename_i t ds hg
        split at h
        · cases h
          exact argsC_ow hv (.inl hg) l1 k1
        · cases h
      · rename_i t ds hg
        split at h
        · cases h
          exact argsC_ow hv (.inr hg) l1 k1
        · cases h
      · cases h
    · cases h
  | .ow _ _ :: _, _, _, _ :: _, _, _, h => by cases h
  | .rf _ _ :: _, _, _, _ :: _, _, _, h => by cases h
/-- several pending values gone -/
theorem Good.drop : ∀ {vs : List V} {cs : List Cell} {τ : List V} {T0 : List Cell}, vs.length = cs.length → Good K f M H (vs ++ τ) (cs ++ T0) σ Γ → Good K f M H τ T0 σ Γ
  | [], [], _, _, _, G => G
  | [], _ :: _, _, _, h, _ => by cases h
  | _ :: _, [], _, _, h, _ => by cases h
  | _ :: vs, _ :: cs, _, _, h, G => Good.drop (by simpa using h) (show Good K f M H (vs ++ _) (cs ++ _) σ Γ from G.pop)
/-- the callers' world, as a callee sees it: all that stands but the object that is lent -/
def callB (H : Hp) (o : Option Addr) : Hp := fun a => if o = some a then none else H a
theorem callB_some {H : Hp} {o : Option Addr} {a : Addr} {u : HO} (h : callB H o a = some u) : o ≠ some a ∧ H a = some u := by
  unfold callB at h
  split at h
  · cases h
  · rename_i n; exact ⟨n, h⟩
theorem callB_of {H : Hp} {o : Option Addr} {a : Addr} {u : HO} (n : o ≠ some a) (h : H a = some u) : callB H o a = some u := by
  unfold callB
  rw [if_neg n]
  exact h
theorem OwnOk.frm {f g : Frm} {v : V} {t : Tag} {ds : List D} (h : OwnOk K f M H v t ds) (k : ∀ a, v = .ref a → g.B a = none) : OwnOk K g M H v t ds := by
  obtain ⟨a, xs, e, h1, h2, h3, _⟩ := h
  exact ⟨a, xs, e, h1, h2, h3, k a e⟩
/-- a call from the caller's state: the callee's state, and the way back -/
theorem Good.call {vs : List V} {cs : List Cell} (G : Good K f M H (vs.reverse ++ τ) (cs.reverse ++ T0) σ Γ) (hl : vs.length = cs.length) (h : argsC Γ cs = some (T, b)) {dvs : List V} {dfl : List D} (hd : Reps K M dvs dfl) :
    ∃ fc, Good K fc M H (vs ++ dvs) (T ++ dfl.map .sh) [] [] ∧ ∀ M' H' T' Γ', putB Γ b T' = some Γ' →
      (Good K fc M' H' (vs ++ dvs) T' [] [] → Good K f M' H' τ T0 σ Γ') ∧ ∀ v c, Solid c → Good K fc M' H' (v :: (vs ++ dvs)) (c :: T') [] [] → Good K f M' H' (v :: τ) (c :: T0) σ Γ' := by
  have hlen : vs.reverse.length = cs.reverse.length := by rw [List.length_reverse, List.length_reverse, hl]
  have G0 := G.drop hlen
  have hcs : ∀ (j : Nat) (v : V) (c : Cell), vs[j]? = some v → cs[j]? = some c → COk K f M H σ v c := fun j v c e1 e2 => by
    have l1 := lt_of_get e1
    have l2 := lt_of_get e2
    refine G.ok (.inl (vs.length - 1 - j)) v c (ent_temp.mpr ⟨?_, ?_⟩)
    · rw [List.getElem?_append_left (by rw [List.length_reverse]; omega), List.getElem?_reverse (by omega), show vs.length - 1 - (vs.length - 1 - j) = j by omega]
      exact e1
    · rw [List.getElem?_append_left (by rw [List.length_reverse]; omega), List.getElem?_reverse (by omega), show cs.length - 1 - (vs.length - 1 - j) = j by omega]
      exact e2
  have hsl : ∀ (i : Nat) (c : Cell), Γ[i]? = some (some c) → ∃ v, σ[i]? = some (some v) ∧ COk K f M H σ v c := fun i c e => by
    obtain ⟨v, hv⟩ := G.has i c e
    exact ⟨v, hv, G.ok (.inr i) v c (ent_slot.mpr ⟨hv, e⟩)⟩
  obtain ⟨lT, kT, nT⟩ := argsC_ok hsl hl hcs h
  -- the address that is lent
  obtain ⟨oa, hoa⟩ : ∃ oa : Option Addr, (b = none → oa = none) ∧ ∀ i j, b = some (i, j) → ∃ a t ds, oa = some a ∧ vs[j]? = some (.ref a) ∧ σ[i]? = some (some (.ref a)) ∧ (Γ[i]? = some (some (.ow t ds)) ∨ Γ[i]? = some (some (.rf t ds))) ∧ OwnOk K f M H (.ref a) t ds := by
    cases b with
    | none => exact ⟨none, fun _ => rfl, fun i j e => by cases e⟩
    | some p =>
      obtain ⟨i, j⟩ := p
      obtain ⟨t, ds, hj⟩ := nT i j rfl
      have lj := lt_of_get hj
      rw [lT] at lj
      have hv := List.getElem?_eq_getElem lj
      rcases kT j vs[j] _ hv hj with ⟨d, z, _⟩ | ⟨t', ds', i', e1, e2, e3, e4⟩
      · cases z
      · cases e1; cases e2
        have ok : OwnOk K f M H vs[j] t ds := by
          rcases e4 with e4 | e4
          · exact G.ok (.inr i) _ _ (ent_slot.mpr ⟨e3, e4⟩)
          · exact G.ok (.inr i) _ _ (ent_slot.mpr ⟨e3, e4⟩)
        obtain ⟨a, xs, ea, r⟩ := id ok
        rw [ea] at hv e3 ok
        refine ⟨some a, (fun e => by cases e), fun i' j' e => ?_⟩
        cases e
        exact ⟨a, t, ds, rfl, hv, e3, e4, ok⟩
  -- who else owns, owns something else
  have others : ∀ k v c a, ent τ T0 σ Γ k = some (v, c) → own H v c a → oa = some a → ∃ i j, b = some (i, j) ∧ k = .inr i := fun k v c a q r e => by
    cases hb : b with
    | none => rw [hoa.1 hb] at e; cases e
    | some p =>
      obtain ⟨i, j⟩ := p
      obtain ⟨a', t, ds, e1, _, e2, e3, e4⟩ := hoa.2 i j hb
      rw [e1] at e; cases e
      refine ⟨i, j, rfl, ?_⟩
      rcases e3 with e3 | e3
      · exact G0.inj k (.inr i) v c _ _ a q (ent_slot.mpr ⟨e2, e3⟩) r rfl
      · exact G0.inj k (.inr i) v c _ _ a q (ent_slot.mpr ⟨e2, e3⟩) r rfl
  have offM : ∀ a, oa = some a → M a = none ∧ f.B a = none ∧ ∃ o, H a = some o := fun a e => by
    cases hb : b with
    | none => rw [hoa.1 hb] at e; cases e
    | some p =>
      obtain ⟨i, j⟩ := p
      obtain ⟨a', t, ds, e1, _, e2, e3, e4⟩ := hoa.2 i j hb
      rw [e1] at e; cases e
      obtain ⟨a2, xs, ea, h1, h2, h3, h4⟩ := e4
      cases ea
      exact ⟨h3, h4, h1.tracked⟩
  have notB : ∀ {a : Addr}, callB (noTb K H) oa a = none → f.B a = none := fun {a} e => by
    by_cases z : oa = some a
    · exact (offM a z).2.1
    · cases q : f.B a with
      | none => rfl
      | some u => rw [callB_of z ((noTb_of (G0.offB q)).trans (G0.bys a u q))] at e; cases e
  refine ⟨⟨callB (noTb K H) oa, M, []⟩, ?_, ?_⟩
  · -- the callee's state
    have entv : ∀ (j : Nat) (v : V) (c : Cell), ent (vs ++ dvs) (T ++ dfl.map .sh) [] [] (.inl j) = some (v, c) → (∃ d, c = .sh d ∧ Rep K M v d) ∨ ∃ t ds i, c = .ow t ds ∧ b = some (i, j) ∧ σ[i]? = some (some v) ∧ (Γ[i]? = some (some (.ow t ds)) ∨ Γ[i]? = some (some (.rf t ds))) := fun j v c q => by
      obtain ⟨q1, q2⟩ := ent_temp.mp q
      by_cases hj : j < vs.length
      · rw [List.getElem?_append_left hj] at q1
        rw [List.getElem?_append_left (by rw [lT]; exact hj)] at q2
        exact kT j v c q1 q2
      · rw [List.getElem?_append_right (by omega)] at q1
        rw [List.getElem?_append_right (by rw [lT]; omega), List.getElem?_map] at q2
        cases hd2 : dfl[j - T.length]? with
        | none => rw [hd2] at q2; cases q2
        | some d =>
          rw [hd2] at q2
          cases q2
          obtain ⟨x, ex, rx⟩ := hd.get hd2
          rw [lT] at ex
          rw [ex] at q1
          cases q1
          exact .inl ⟨d, rfl, rx⟩
    have noslot : ∀ {v c i}, ent (vs ++ dvs) (T ++ dfl.map .sh) [] [] (.inr i) ≠ some (v, c) := fun {v c i} q => by
      have := (ent_slot.mp q).1
      simp at this
    refine ⟨fun a u e => (noTb_some (callB_some e).2).2, G.sub, Sub.refl M, fun a o u e _ => ⟨o, e⟩, ?_, rfl, fun i c e => by simp at e, fun k v c q => ?_, fun k k' v c v' c' a q q' r r' => ?_, fun i j e => by simp at e, fun i t ds e => by simp at e, ⟨G.tabs.t, G.tabs.nm, fun p ps z => noTb_no p ps (callB_some z).2⟩⟩
    · rw [List.length_append, List.length_append, List.length_map, lT, hd.length]
    · match k with
      | .inr i => exact (noslot q).elim
      | .inl j =>
        rcases entv j v c q with ⟨d, rfl, r⟩ | ⟨t, ds, i, rfl, hb, hv, hg⟩
        · exact r
        · obtain ⟨a, t', ds', e1, _, e2, e3, e4⟩ := hoa.2 i j hb
          rw [e2] at hv; cases hv
          have ok : OwnOk K f M H (.ref a) t ds := by
            rcases hg with hg | hg
            · exact G.ok (.inr i) _ _ (ent_slot.mpr ⟨e2, hg⟩)
            · exact G.ok (.inr i) _ _ (ent_slot.mpr ⟨e2, hg⟩)
          refine OwnOk.frm ok fun a2 ea => ?_
          cases ea
          show callB (noTb K H) oa a = none
          unfold callB
          rw [if_pos e1]
    · match k, k' with
      | .inr i, _ => exact (noslot q).elim
      | .inl j, .inr i => exact (noslot q').elim
      | .inl j, .inl j' =>
        rcases entv j v c q with ⟨d, rfl, _⟩ | ⟨t, ds, i, rfl, hb, _⟩
        · exact (own_sh r).elim
        · rcases entv j' v' c' q' with ⟨d, rfl, _⟩ | ⟨t', ds', i', rfl, hb', _⟩
          · exact (own_sh r').elim
          · rw [hb] at hb'
            cases hb'
            rfl
  · -- the way back
    intro M' H' T' Γ' hp
    have stepN : Good K ⟨callB (noTb K H) oa, M, []⟩ M' H' (vs ++ dvs) T' [] [] → ∀ k v c, ent τ T0 σ Γ k = some (v, c) → (∀ i j, k = .inr i → b ≠ some (i, j)) → COk K f M' H' σ v c ∧ ∀ a, own H' v c a ↔ own H v c a := fun G' k v c q nb => by
      have hk : ∀ a, own H v c a → oa ≠ some a := fun a r z => by
        obtain ⟨i, j, hb, e⟩ := others k v c a q r z
        exact nb i j e hb
      refine (G0.ok k v c q).step G'.m0 fun a r => ?_
      obtain ⟨o, ho⟩ := G0.ownedSome q r
      obtain ⟨_, _, ow, m, _⟩ := (G0.ok k v c q).own_ok r
      have ho' : noTb K H a = some o := (noTb_of (G0.tabs.offO ow)).trans ho
      refine ⟨by rw [G'.bys a o (callB_of (hk a r) ho'), ho], ?_⟩
      cases hq : M' a with
      | none => rfl
      | some u =>
        obtain ⟨w, hw⟩ := G'.new a u o hq (callB_of (hk a r) ho')
        have hw' : M a = some w := hw
        rw [m] at hw'; cases hw'
    have back : Good K ⟨callB (noTb K H) oa, M, []⟩ M' H' (vs ++ dvs) T' [] [] → Good K f M' H' τ T0 σ Γ' ∧ ∀ a, oa = some a → ∃ j t ds, ent (vs ++ dvs) T' [] [] (.inl j) = some (.ref a, .ow t ds) := fun G' => by
      have keepA : ∀ {a : Addr} {o : HO}, oa ≠ some a → noTb K H a = some o → H' a = some o := fun {a o} n e => G'.bys a o (callB_of n e)
      have keepN : ∀ {a : Addr} {o : HO}, oa ≠ some a → noTb K H a = some o → M a = none → M' a = none := fun {a o} n e m => by
        cases hq : M' a with
        | none => rfl
        | some u =>
          obtain ⟨w, hw⟩ := G'.new a u o hq (callB_of n e)
          have hw' : M a = some w := hw
          rw [m] at hw'; cases hw'
      -- the base: the lent slot told anew
      have base : ∀ Γ1 : Gam, Γ1.length = Γ.length → (∀ (i : Nat) (c : Cell), Γ1[i]? = some (some c) → ((∃ j, b = some (i, j)) ∧ ∃ a t ds, oa = some a ∧ (c = .ow t ds ∨ ∃ t0 ds0, c = .rf t ds ∧ Γ[i]? = some (some (.rf t0 ds0))) ∧ OwnOk K f M' H' (.ref a) t ds) ∨ ((∀ j, b ≠ some (i, j)) ∧ Γ[i]? = some (some c))) → Good K f M' H' τ T0 σ Γ1 := fun Γ1 hln hΓ => by
        have cs1 : ∀ k v c, ent τ T0 σ Γ1 k = some (v, c) → ((∃ i j, k = .inr i ∧ b = some (i, j)) ∧ ∃ a t ds, oa = some a ∧ v = .ref a ∧ (c = .ow t ds ∨ c = .rf t ds) ∧ OwnOk K f M' H' (.ref a) t ds) ∨ ((∀ i j, k = .inr i → b ≠ some (i, j)) ∧ ent τ T0 σ Γ k = some (v, c)) := fun k v c q => by
          match k with
          | .inl j => exact .inr ⟨(fun i j z => by cases z), q⟩
          | .inr i =>
            obtain ⟨q1, q2⟩ := ent_slot.mp q
            rcases hΓ i c q2 with ⟨⟨j, hb⟩, a, t, ds, e1, e2, e3⟩ | ⟨nb, e⟩
            · obtain ⟨a', t', ds', e1', _, e2', _⟩ := hoa.2 i j hb
              rw [e1'] at e1; cases e1
              rw [e2'] at q1; cases q1
              refine .inl ⟨⟨i, j, rfl, hb⟩, a, t, ds, e1', rfl, ?_, e3⟩
              rcases e2 with e2 | ⟨_, _, e2, _⟩
              · exact .inl e2
              · exact .inr e2
            · exact .inr ⟨(fun i' j z => by cases z; exact nb j), ent_slot.mpr ⟨q1, e⟩⟩
        refine ⟨fun a u e => ?_, G'.sub, G0.m0.trans G'.m0, fun a o u e e' => ?_, G0.tl, by rw [hln]; exact G0.sl, fun i c e => ?_, fun k v c q => ?_, fun k k' v c v' c' a q q' r r' => ?_, fun i j e => ?_, fun i t ds e => ?_, ⟨G'.tabs.t, G'.tabs.nm, G0.tabs.nb⟩⟩
        · have n : oa ≠ some a := fun z => by have := (offM a z).2.1; rw [this] at e; cases e
          exact keepA n ((noTb_of (G0.offB e)).trans (G0.bys a u e))
        · have n : oa ≠ some a := fun z => by have := (offM a z).2.1; rw [this] at e'; cases e'
          obtain ⟨w, hw⟩ := G'.new a o u e (callB_of n ((noTb_of (G0.offB e')).trans (G0.bys a u e')))
          exact G0.new a w u hw e'
        · rcases hΓ i c e with ⟨⟨j, hb⟩, _⟩ | ⟨_, e⟩
          · obtain ⟨a, _, _, _, _, e2, _⟩ := hoa.2 i j hb
            exact ⟨_, e2⟩
          · exact G0.has i c e
        · rcases cs1 k v c q with ⟨_, a, t, ds, _, rfl, rfl | rfl, ok⟩ | ⟨nb, q⟩
          · exact ok
          · exact ok
          · exact (stepN G' k v c q nb).1
        · rcases cs1 k v c q with ⟨⟨i, j, ki, hb⟩, a1, t, ds, e1, ev, hc, ok⟩ | ⟨nb, q2⟩
          · have ra : a1 = a := by
              rw [ev] at r
              rcases hc with hc | hc
              · rw [hc] at r; have r2 : V.ref a1 = V.ref a := r; injection r2
              · rw [hc] at r; have r2 : V.ref a1 = V.ref a := r; injection r2
            rcases cs1 k' v' c' q' with ⟨⟨i', j', ki', hb'⟩, _⟩ | ⟨nb', q2'⟩
            · rw [hb] at hb'
              cases hb'
              rw [ki, ki']
            · obtain ⟨i', j', hb', e'⟩ := others k' v' c' a q2' (((stepN G' k' v' c' q2' nb').2 a).mp r') (by rw [← ra]; exact e1)
              exact (nb' i' j' e' hb').elim
          · rcases cs1 k' v' c' q' with ⟨⟨i', j', ki', hb'⟩, a1, t, ds, e1, ev, hc, ok⟩ | ⟨nb', q2'⟩
            · have ra : a1 = a := by
                rw [ev] at r'
                rcases hc with hc | hc
                · rw [hc] at r'; have r2 : V.ref a1 = V.ref a := r'; injection r2
                · rw [hc] at r'; have r2 : V.ref a1 = V.ref a := r'; injection r2
              obtain ⟨i, j, hb, e⟩ := others k v c a q2 (((stepN G' k v c q2 nb).2 a).mp r) (by rw [← ra]; exact e1)
              exact (nb i j e hb).elim
            · exact G0.inj k k' v c v' c' a q2 q2' (((stepN G' k v c q2 nb).2 a).mp r) (((stepN G' k' v' c' q2' nb').2 a).mp r')
        · rcases hΓ i _ e with ⟨_, _, _, _, _, z | ⟨_, _, z, _⟩, _⟩ | ⟨_, e⟩
          · cases z
          · cases z
          · exact G0.nbr i j e
        · rcases hΓ i _ e with ⟨_, _, _, _, _, z | ⟨t0, ds0, _, z⟩, _⟩ | ⟨_, e⟩
          · cases z
          · exact G0.args i t0 ds0 z
          · exact G0.args i t ds e
      cases hb : b with
      | none =>
        rw [hb] at hp
        cases hp
        exact ⟨base Γ rfl fun i c e => .inr ⟨(fun j z => by rw [hb] at z; cases z), e⟩, fun a z => by rw [hoa.1 hb] at z; cases z⟩
      | some p =>
        obtain ⟨i, j⟩ := p
        obtain ⟨a, t0, ds0, e1, ev, e2, e3, e4⟩ := hoa.2 i j hb
        rw [hb] at hp
        unfold putB at hp
        dsimp only at hp
        split at hp
        · rename_i t ds ho
          have hev : (vs ++ dvs)[j]? = some (.ref a) := by rw [List.getElem?_append_left (lt_of_get ev)]; exact ev
          have hen : ent (vs ++ dvs) T' [] [] (.inl j) = some (.ref a, .ow t ds) := ent_temp.mpr ⟨hev, ho⟩
          have ok : OwnOk K f M' H' (.ref a) t ds := OwnOk.frm (G'.ok _ _ _ hen) fun a2 ea => by cases ea; exact (offM a e1).2.1
          refine ⟨?_, fun a' ea' => by rw [e1] at ea'; cases ea'; exact ⟨j, t, ds, hen⟩⟩
          split at hp
          · rename_i t1 ds1 hg
            cases hp
            refine base _ (by rw [List.length_set]) fun i' c e => ?_
            by_cases hi : i = i'
            · subst hi
              rw [List.getElem?_set_self (lt_of_get hg)] at e
              cases e
              exact .inl ⟨⟨j, hb⟩, a, t, ds, e1, .inl rfl, ok⟩
            · rw [List.getElem?_set_ne hi] at e
              exact .inr ⟨(fun j' z => hi (by rw [hb] at z; cases z; rfl)), e⟩
          · rename_i t1 ds1 hg
            cases hp
            refine base _ (by rw [List.length_set]) fun i' c e => ?_
            by_cases hi : i = i'
            · subst hi
              rw [List.getElem?_set_self (lt_of_get hg)] at e
              cases e
              exact .inl ⟨⟨j, hb⟩, a, t, ds, e1, .inr ⟨t1, ds1, rfl, hg⟩, ok⟩
            · rw [List.getElem?_set_ne hi] at e
              exact .inr ⟨(fun j' z => hi (by rw [hb] at z; cases z; rfl)), e⟩
          · cases hp
        · cases hp
    refine ⟨fun G' => (back G').1, fun v c sc G' => ?_⟩
    obtain ⟨G2, lent⟩ := back G'.pop
    have h0 := G'.ok (.inl 0) v c rfl
    refine G2.push ?_ fun a r k v' c' q r' => ?_
    · cases c with
      | sh d => exact h0
      | ow t ds =>
        obtain ⟨a1, xs, ea, h1, h2, h3, h4⟩ := h0
        exact ⟨a1, xs, ea, h1, h2, h3, notB h4⟩
      | on t os => exact ⟨h0.1, fun a ha => ⟨(h0.2 a ha).1, notB (h0.2 a ha).2⟩⟩
      | rf t ds => exact sc.elim
      | br i => exact sc.elim
    · -- the new object is no one else's
      obtain ⟨_, _, ow0, _, hb0⟩ := h0.own_ok r
      by_cases z : oa = some a
      · obtain ⟨j, t, ds, hj⟩ := lent a z
        have z2 := G'.inj (.inl 0) (.inl (j + 1)) v c _ _ a rfl hj r rfl
        cases z2
      · -- then it is new in H, and the others' stand there
        have hH : ∀ {t : Tag} {xs : List V}, Own H a t xs → False := fun ow => by
          obtain ⟨u, q3, _⟩ := ow.notT
          have hb0' : callB (noTb K H) oa a = none := hb0
          rw [callB_of z ((noTb_of (G0.tabs.offO ow)).trans q3)] at hb0'; cases hb0'
        have : (ent τ T0 σ Γ k = some (v', c') ∧ ∀ i j, k = .inr i → b ≠ some (i, j)) ∨ ∃ i j, b = some (i, j) ∧ k = .inr i := by
          match k with
          | .inl j => exact .inl ⟨q, fun i j z => by cases z⟩
          | .inr i =>
            by_cases hb : ∃ j, b = some (i, j)
            · obtain ⟨j, hb⟩ := hb
              exact .inr ⟨i, j, hb, rfl⟩
            · refine .inl ⟨ent_slot.mpr ⟨(ent_slot.mp q).1, ?_⟩, fun i' j z => by cases z; exact fun z => hb ⟨j, z⟩⟩
              have q2 := (ent_slot.mp q).2
              cases hb' : b with
              | none => rw [hb'] at hp; cases hp; exact q2
              | some p =>
                obtain ⟨i', j'⟩ := p
                have hi : i' ≠ i := fun e => hb ⟨j', by rw [hb', e]⟩
                rw [hb'] at hp
                unfold putB at hp
                dsimp only at hp
                split at hp
                · split at hp
                  · cases hp; rw [List.getElem?_set_ne hi] at q2; exact q2
                  · cases hp; rw [List.getElem?_set_ne hi] at q2; exact q2
                  · cases hp
                · cases hp
        rcases this with ⟨q4, nb4⟩ | ⟨i, j, hb, rfl⟩
        · obtain ⟨_, _, ow, _⟩ := (G0.ok _ _ _ q4).own_ok (((stepN G'.pop k v' c' q4 nb4).2 a).mp r')
          exact hH ow
        · obtain ⟨a', _, _, e1, _, e2, _⟩ := hoa.2 i j hb
          have := (ent_slot.mp q).1
          rw [e2] at this
          cases this
          have q2 := (ent_slot.mp q).2
          rw [hb] at hp
          unfold putB at hp
          dsimp only at hp
          have hlt : i < Γ.length := by
            have := lt_of_get (ent_slot.mp q).1
            rw [G0.sl] at this
            exact this
          have fin : V.ref a' = V.ref a → False := fun e => by
            injection e with e
            rw [e] at e1
            exact z e1
          split at hp
          · split at hp
            · cases hp
              rw [List.getElem?_set_self hlt] at q2
              cases q2
              exact fin r'
            · cases hp
              rw [List.getElem?_set_self hlt] at q2
              cases q2
              exact fin r'
            · cases hp
          · cases hp
end
end DL

set_option Elab.async false
set_option linter.all false
set_option maxRecDepth 100000
set_option maxHeartbeats 1000000
/-! a def by its body; calls by name, methods, instances -/
namespace DL
open PySem PySem.Spec PyProof.Rows L2

/-! ### a def's frame -/
def toSlot : Cell → Option Cell
  | .sh d => some (.sh d)
  | .ow t ds => some (.rf t ds)
  | _ => none
def startG (n : Nat) (T : List Cell) : Gam := T.map toSlot ++ List.replicate (n - T.length) none
def plainC : Cell → Bool
  | .sh _ => true
  | .ow _ _ => true
  | _ => false
def endC (Γ : Gam) (j : Nat) : Cell → Option Cell
  | .sh d => some (.sh d)
  | .ow _ _ => match Γ[j]? with
    | some (some (.rf t ds)) => some (.ow t ds)
    | _ => none
  | _ => none
def endT (Γ : Gam) : Nat → List Cell → Option (List Cell)
  | _, [] => some []
  | j, c :: T => match endC Γ j c with
    | some c' => (match endT Γ (j + 1) T with
      | some T' => some (c' :: T')
      | none => none)
    | none => none
/-- what is handed back -/
def finC (Γ : Gam) : Cell → Option Cell
  | .sh d => some (.sh d)
  | .ow t ds => some (.ow t ds)
  | .rf _ _ => none
  | .br i => match Γ[i]? with
    | some (some (.sh d)) => some (.sh d)
    | some (some (.ow t ds)) => some (.ow t ds)
    | _ => none
  | .on _ _ => none
def runD (n : Nat) (G : GS) : MF := fun T => if T.all plainC then (match G (startG n T) with
  | some (.nx Γ) => (match endT Γ 0 T with
    | some T' => some (.val (.sh (.leaf .non)), T')
    | none => none)
  | some (.rt c Γ) => (match finC Γ c, endT Γ 0 T with
    | some c', some T' => some (.val c', T')
    | _, _ => none)
  | some (.xc x Γ) => (match endT Γ 0 T with
    | some T' => some (.exc x, T')
    | none => none)
  | _ => none) else none

section
variable {K : PySem.W.Frag} {f : Frm} {M H M' H' : Hp} {τ : List V} {T T' : List Cell} {σ σ' : L2.St} {Γ Γ' : Gam} {vs : List V} {N : List Str}
theorem endT_get : ∀ {T T' : List Cell} {k : Nat}, endT Γ k T = some T' → T'.length = T.length ∧ ∀ (j : Nat) (c : Cell), T[j]? = some c → ∃ c', T'[j]? = some c' ∧ endC Γ (k + j) c = some c'
  | [], T', k, h => by cases h; exact ⟨rfl, fun j c e => by simp at e⟩
  | c :: T, T', k, h => by
    unfold endT at h
    split at h
    · rename_i c1 h1
      split at h
      · rename_i T1 h2
        cases h
        obtain ⟨l, g⟩ := endT_get h2
        refine ⟨by rw [List.length_cons, List.length_cons, l], fun j c' e => ?_⟩
        cases j with
        | zero => cases e; exact ⟨c1, rfl, h1⟩
        | succ j =>
          obtain ⟨c2, e1, e2⟩ := g j c' e
          refine ⟨c2, e1, ?_⟩
          rw [show k + (j + 1) = k + 1 + j by omega]
          exact e2
      · cases h
    · cases h
theorem startG_get {n : Nat} {j : Nat} {c : Cell} (h : (startG n T)[j]? = some (some c)) : ∃ c', T[j]? = some c' ∧ toSlot c' = some c := by
  unfold startG at h
  by_cases hj : j < T.length
  · rw [List.getElem?_append_left (by rw [List.length_map]; exact hj), List.getElem?_map, List.getElem?_eq_getElem hj] at h
    exact ⟨T[j], List.getElem?_eq_getElem hj, Option.some.inj h⟩
  · rw [List.getElem?_append_right (by rw [List.length_map]; omega)] at h
    have := List.mem_of_getElem? h
    rw [List.mem_replicate] at this
    cases this.2
/-- into the body -/
theorem Good.enter (G : Good K f M H vs T [] []) (hN : vs.length ≤ N.length) : Good K ⟨f.B, M, vs⟩ M H [] [] (L2.start N vs) (startG N.length T) := by
  have hst : ∀ (j : Nat) (v : V), (L2.start N vs)[j]? = some (some v) → vs[j]? = some v := fun j v h => by
    unfold L2.start at h
    by_cases hj : j < vs.length
    · rw [List.getElem?_append_left (by rw [List.length_map]; exact hj), List.getElem?_map, List.getElem?_eq_getElem hj] at h
      rw [List.getElem?_eq_getElem hj]
      exact Option.some.inj h
    · rw [List.getElem?_append_right (by rw [List.length_map]; omega)] at h
      have := List.mem_of_getElem? h
      rw [List.mem_replicate] at this
      cases this.2
  have hst2 : ∀ (j : Nat) (v : V), vs[j]? = some v → (L2.start N vs)[j]? = some (some v) := fun j v h => by
    unfold L2.start
    rw [List.getElem?_append_left (by rw [List.length_map]; exact lt_of_get h), List.getElem?_map, h]
    rfl
  have vOf : ∀ (j : Nat) (c : Cell), T[j]? = some c → ∃ v, vs[j]? = some v := fun j c h => by
    have := lt_of_get h
    rw [← G.tl] at this
    exact ⟨vs[j], List.getElem?_eq_getElem this⟩
  have cs : ∀ k v c, ent [] [] (L2.start N vs) (startG N.length T) k = some (v, c) → ∃ j c', k = .inr j ∧ ent vs T [] [] (.inl j) = some (v, c') ∧ toSlot c' = some c := fun k v c q => by
    match k with
    | .inl j =>
      have := (ent_temp.mp q).1
      simp at this
    | .inr j =>
      obtain ⟨q1, q2⟩ := ent_slot.mp q
      obtain ⟨c', e1, e2⟩ := startG_get q2
      exact ⟨j, c', rfl, ent_temp.mpr ⟨hst j v q1, e1⟩, e2⟩
  refine ⟨G.bys, G.sub, Sub.refl M, fun a o u e _ => ⟨o, e⟩, rfl, ?_, fun j c e => ?_, fun k v c q => ?_, fun k k' v c v' c' a q q' r r' => ?_, fun i j e => ?_, fun i t ds e => ?_, G.tabs⟩
  · unfold L2.start startG
    rw [List.length_append, List.length_append, List.length_map, List.length_map, List.length_replicate, List.length_replicate, G.tl]
  · obtain ⟨c', e1, _⟩ := startG_get e
    obtain ⟨v, hv⟩ := vOf j c' e1
    exact ⟨v, hst2 j v hv⟩
  · obtain ⟨j, c', rfl, q1, e⟩ := cs k v c q
    have h := G.ok _ v c' q1
    cases c' with
    | sh d => cases e; exact h
    | ow t ds => cases e; exact h
    | rf t ds => cases e
    | br i => cases e
    | on t os => cases e
  · obtain ⟨j, d, rfl, q1, e⟩ := cs k v c q
    obtain ⟨j', d', rfl, q1', e'⟩ := cs k' v' c' q'
    have back : ∀ {v : V} {c d : Cell}, toSlot d = some c → own H v c a → own H v d a := fun {v c d} e r => by
      cases d with
      | sh x => cases e; exact (own_sh r).elim
      | ow t ds => cases e; exact r
      | rf t ds => cases e
      | br i => cases e
      | on t os => cases e
    have z := G.inj (.inl j) (.inl j') v d v' d' a q1 q1' (back e r) (back e' r')
    cases z
    rfl
  · obtain ⟨c', e1, e2⟩ := startG_get e
    cases c' with
    | sh d => cases e2
    | ow t ds => cases e2
    | rf t ds => cases e2
    | br i => cases e2
    | on t os => cases e2
  · obtain ⟨c', e1, e2⟩ := startG_get e
    obtain ⟨v, hv⟩ := vOf i c' e1
    rw [hst2 i v hv]
    show some (some v) = some (vs[i]?)
    rw [hv]
/-- out of the body: the arguments' cells behind it -/
theorem Good.stopT (G : Good K f M H vs T [] []) (G' : Good K ⟨f.B, M, vs⟩ M' H' [] [] σ' Γ') (h : endT Γ' 0 T = some T') : Good K f M' H' vs T' [] [] := by
  obtain ⟨lT, gT⟩ := endT_get h
  have inv : ∀ (j : Nat) (c' : Cell), T'[j]? = some c' → ∃ c, T[j]? = some c ∧ endC Γ' j c = some c' := fun j c' e => by
    have hl := lt_of_get e
    rw [lT] at hl
    obtain ⟨c2, e1, e2⟩ := gT j _ (List.getElem?_eq_getElem hl)
    rw [e] at e1; cases e1
    rw [Nat.zero_add] at e2
    exact ⟨_, List.getElem?_eq_getElem hl, e2⟩
  have cs : ∀ k v c, ent vs T' [] [] k = some (v, c) → ∃ j c0, k = .inl j ∧ vs[j]? = some v ∧ T[j]? = some c0 ∧ ((∃ d, c = .sh d ∧ c0 = .sh d) ∨ ∃ t ds, c = .ow t ds ∧ ent [] [] σ' Γ' (.inr j) = some (v, .rf t ds)) := fun k v c q => by
    match k with
    | .inr j =>
      have := (ent_slot.mp q).1
      simp at this
    | .inl j =>
      obtain ⟨q1, q2⟩ := ent_temp.mp q
      obtain ⟨c0, e1, e2⟩ := inv j c q2
      refine ⟨j, c0, rfl, q1, e1, ?_⟩
      cases c0 with
      | sh d => cases e2; exact .inl ⟨d, rfl, rfl⟩
      | ow t ds =>
        unfold endC at e2
        dsimp only at e2
        split at e2
        · rename_i t' ds' hg
          cases e2
          refine .inr ⟨t', ds', rfl, ent_slot.mpr ⟨?_, hg⟩⟩
          rw [G'.args j t' ds' hg]
          show some (vs[j]?) = some (some v)
          rw [q1]
        · cases e2
      | rf t ds => cases e2
      | br i => cases e2
      | on t os => cases e2
  refine ⟨G'.bys, G'.sub, G.m0.trans G'.m0, fun a o u e e' => ?_, by rw [G.tl, lT], rfl, fun i c e => by simp at e, fun k v c q => ?_, fun k k' v c v' c' a q q' r r' => ?_, fun i j e => by simp at e, fun i t ds e => by simp at e, G'.tabs⟩
  · obtain ⟨w, hw⟩ := G'.new a o u e e'
    exact G.new a w u hw e'
  · obtain ⟨j, c0, rfl, hv, hc, ⟨d, rfl, rfl⟩ | ⟨t, ds, rfl, he⟩⟩ := cs k v c q
    · exact Rep.mono G'.m0 _ _ (show Rep K M v d from G.ok (.inl j) v _ (ent_temp.mpr ⟨hv, hc⟩))
    · exact G'.ok _ _ _ he
  · obtain ⟨j, c0, rfl, hv, hc, ⟨d, rfl, rfl⟩ | ⟨t, ds, rfl, he⟩⟩ := cs k v c q
    · exact (own_sh r).elim
    · obtain ⟨j', c0', rfl, hv', hc', ⟨d, rfl, rfl⟩ | ⟨t', ds', rfl, he'⟩⟩ := cs k' v' c' q'
      · exact (own_sh r').elim
      · have r2 : v = .ref a := r
        have r3 : v' = .ref a := r'
        subst r2
        subst r3
        have z := G'.inj _ _ _ _ _ _ a he he' rfl rfl
        cases z
        rfl
theorem Good.stop {v : V} {c c' : Cell} (G : Good K f M H vs T [] []) (G' : Good K ⟨f.B, M, vs⟩ M' H' [v] [c] σ' Γ') (h : endT Γ' 0 T = some T') (hc : finC Γ' c = some c') : Solid c' ∧ Good K f M' H' (v :: vs) (c' :: T') [] [] := by
  have G2 := G.stopT G'.pop h
  -- whose object c' is
  have key : (∃ d, c' = .sh d ∧ Rep K M' v d) ∨ ∃ t ds k, c' = .ow t ds ∧ ent [v] [c] σ' Γ' k = some (v, .ow t ds) := by
    have h0 := G'.ok (.inl 0) v c rfl
    cases c with
    | sh d => cases hc; exact .inl ⟨d, rfl, h0⟩
    | ow t ds => cases hc; exact .inr ⟨t, ds, .inl 0, rfl, rfl⟩
    | rf t ds => cases hc
    | on t os => cases hc
    | br i =>
      have hs : σ'[i]? = some (some v) := h0
      unfold finC at hc
      dsimp only at hc
      split at hc
      · rename_i d hg
        cases hc
        exact .inl ⟨d, rfl, G'.ok (.inr i) v _ (ent_slot.mpr ⟨hs, hg⟩)⟩
      · rename_i t ds hg
        cases hc
        exact .inr ⟨t, ds, .inr i, rfl, ent_slot.mpr ⟨hs, hg⟩⟩
      · cases hc
  rcases key with ⟨d, rfl, r⟩ | ⟨t, ds, k, rfl, he⟩
  · exact ⟨trivial, G2.pushSh r⟩
  · refine ⟨trivial, G2.push (OwnOk.frm (G'.ok _ _ _ he) fun a e => ?_) fun a r k' v' c'' q r' => ?_⟩
    · obtain ⟨a1, _, ea, _, _, _, hb⟩ := G'.ok _ _ _ he
      rw [e] at ea
      cases ea
      exact hb
    · -- the arguments' objects are others
      have r2 : v = .ref a := r
      subst r2
      obtain ⟨lT, gT⟩ := endT_get h
      match k' with
      | .inr j =>
        have := (ent_slot.mp q).1
        simp at this
      | .inl j =>
        obtain ⟨q1, q2⟩ := ent_temp.mp q
        have hl := lt_of_get q2
        rw [lT] at hl
        obtain ⟨c2, e1, e2⟩ := gT j _ (List.getElem?_eq_getElem hl)
        rw [q2] at e1
        cases e1
        rw [Nat.zero_add] at e2
        generalize T[j] = c0 at e2
        cases c0 with
        | sh d => cases e2; exact (own_sh r').elim
        | ow t' ds' =>
          unfold endC at e2
          dsimp only at e2
          split at e2
          · rename_i t1 ds1 hg
            cases e2
            have r3 : v' = .ref a := r'
            subst r3
            have hs : σ'[j]? = some (some (V.ref a)) := by
              rw [G'.args j t1 ds1 hg]
              show some (vs[j]?) = _
              rw [q1]
            have z := G'.inj k (.inr j) _ _ _ _ a he (ent_slot.mpr ⟨hs, hg⟩) rfl rfl
            rw [z] at he
            have := (ent_slot.mp he).2
            rw [hg] at this
            cases this
          · cases e2
        | rf t' ds' => cases e2
        | br i => cases e2
        | on t' os' => cases e2
end

/-! ### the rule for a def -/
abbrev W0 (E : XK) : WX := fun cls d _ H => E cls d H
section
variable {P : Program} {w : World} {K : PySem.W.Frag} {mg : Str → Option Value} {base : Heap}
/-- X's own facts that a body's derivation leans on -/
structure BodyX (X : Cx) (W : WX) (k : Nat) : Prop where
  room : RoomG k X.A
  tk : Takes X W
  own : PassesOwn (model X.prog X.w) X.A X.env X.xe
theorem RoomG.deeper {k : Nat} {A : Around} (r : RoomG (k + 1) A) (env : Env) : RoomG k (A.deeper env) := ⟨r.room.deeper env, r.gd⟩
theorem def_okL {x qual : Str} {st : Stmt} {f : Addr} {fd : FuncData} {N ps : List Str} {k : Nat} (F : Fun K x qual st f fd) (S : FnScope N ps (defScope st)) (hl : ps.length ≤ N.length) (G : GS)
    (hbody : ∀ (cdv : Value), fd.code = cdv → ∀ (A : Around) (outer : List Env) (s : Shared) (H : Hp) (E : XK), BodyX (cxOf (L2.CX P w) P w K mg base N qual (defScope st) f cdv A outer s H E) (W0 E) k →
      DSs (cxOf (L2.CX P w) P w K mg base N qual (defScope st) f cdv A outer s H E) (W0 E) (defBody st) G) : FnG P w K mg base (k + 1) f fd ps (runD N.length G) := by
  obtain ⟨oc, od, kV, doc, pm, an, cdv, ct, osl, hfd, lk, hcd⟩ := F.ex
  subst hfd
  constructor
  intro A outer s H args us vs Q E room e0 bnd rel hsp
  obtain ⟨hlen, f0, M, T, r, T', g, hrun, post⟩ := hsp
  have inK : K.In s.heap := e0.mod.kin.keeps fun b o q => (e0.bs b o q).1
  have noLim : s.heap.NoLimit := e0.mod.nolimit.keeps fun b o q => (e0.bs b o q).1
  have kinds : ∀ y ∈ ps.zip us, (defScope st).names.lookup y.1 = some .local ∨
      ((defScope st).names.lookup y.1 = some .cell ∧ ((cellsFrom (s.heap.objs.size + 1) (defScope st).names []).lookup y.1).isSome = true) := by
    rintro ⟨n, v⟩ hy
    cases S.par n (List.of_mem_zip hy).1 with
    | inl q => exact Or.inl q
    | inr q => exact Or.inr ⟨q, PySem.W.cellsFrom_some _ _ _ (Or.inl q)⟩
  apply codeAny_call_function room.room.depth (inK _ _ lk) rfl S.co S.gen rfl (PySem.W.codeRec_of inK hcd)
  apply bnd
  apply wpAny_newFunctionEnv_cells S.kind kinds
  intro env henv s1 entered
  subst henv
  refine And.intro (noLim.keeps entered.toInCall.keep) (codeAny_func ?_)
  have start := inv_start (CX := L2.CX P w) (E := E) S room.room.hd e0 hlen rel entered (mg := mg) (cd := cdv) (f := f) (qual := qual)
  have body := hbody cdv rfl A outer s H E ⟨room.deeper _, takes_of rfl rfl rfl rfl, passes_of rfl⟩
  have hg := g.enter (N := N) (by rw [hlen]; exact hl)
  -- what is wanted of each end of the body
  have wish : tS K (W0 E) G { nx := fun _ H' => Q .non H', rt := Q } (L2.start N vs) H := by
    unfold runD at hrun
    split at hrun
    · split at hrun
      · rename_i Γ hG
        split at hrun
        · rename_i T1 hT
          cases hrun
          exact ⟨_, M, _, _, hg, hG, fun σ' H' M' g' => post.2 .non H' M' ((g.stopT g' hT).pushSh (by unfold Rep; rfl))⟩
        · cases hrun
      · rename_i c Γ hG
        split at hrun
        · rename_i c1 T1 hc hT
          cases hrun
          exact ⟨_, M, _, _, hg, hG, fun v σ' H' M' g' => post.2 v H' M' (g.stop g' hT hc).2⟩
        · cases hrun
      · rename_i x Γ hG
        split at hrun
        · rename_i T1 hT
          cases hrun
          exact ⟨_, M, _, _, hg, hG, fun σ' d H' M' g' hx => post d H' M' (g.stopT g' hT) hx⟩
        · cases hrun
      · cases hrun
    · cases hrun
  refine wpAny_mono (body.run [] s1 _ H _ start wish) (fun fl s2 hfl => ?_) fun e s2 he => he
  cases fl with
  | next =>
    obtain ⟨σ2, H2, i2, q2⟩ := hfl
    exact ⟨V.non, H2, i2.os, i2.bare, i2.base, i2.hok, rfl, q2⟩
  | ret u =>
    obtain ⟨v2, σ2, H2, i2, rv, q2⟩ := hfl
    exact ⟨v2, H2, i2.os, i2.bare, i2.base, i2.hok, rv, q2⟩
  | brk =>
    obtain ⟨_, _, _, bad⟩ := hfl
    exact bad.elim
  | cont =>
    obtain ⟨_, _, _, bad⟩ := hfl
    exact bad.elim
theorem def_ok {x qual : Str} {st : Stmt} {f : Addr} {fd : FuncData} {N ps : List Str} {k : Nat} (F : Fun K x qual st f fd) (S : FnScope N ps (defScope st)) (hl : ps.length ≤ N.length) (G : GS)
    (hbody : ∀ (cdv : Value) (A : Around) (outer : List Env) (s : Shared) (H : Hp) (E : XK), BodyX (cxOf (L2.CX P w) P w K mg base N qual (defScope st) f cdv A outer s H E) (W0 E) k →
      DSs (cxOf (L2.CX P w) P w K mg base N qual (defScope st) f cdv A outer s H E) (W0 E) (defBody st) G) : FnG P w K mg base (k + 1) f fd ps (runD N.length G) :=
  def_okL F S hl G fun cdv _ => hbody cdv
end

/-! ### calls -/
section
variable {X : Cx} {W : WX} {k : Nat} {f C : Addr} {fd : FuncData} {ps : List Str} {m : MF} {dvs : List V} {ds : List Value} {dfl : List D} {x nm : Str} {p pos apos : Pos} {e o : Expr} {es : List Expr} {L : AF} {A : EF}
theorem run_fnG {pins : List (Addr × Obj)} {σ : L2.St} {H : Hp} {s : Shared} {Q : VK} {us : List Value} {vs : List V} (F : FnG X.prog X.w X.K X.mg X.base k f fd ps m) (hr : RoomG k X.A) (hb : Binds X.K fd ps ds) (hd : Vals dvs ds) (tk : Takes X W)
    (I : Inv X pins σ H s) (r : Vals vs us) (h : spM X.K ps.length m (vs ++ dvs) H Q (WE W σ)) : wpAny (model X.prog X.w) X.A (call (.ref f) us) (EP X pins σ Q) X.xe s := by
  have both := r.append hd
  have count : (us ++ ds).length = ps.length := both.length.symm.trans h.1
  apply wpAny_call
  apply codeAny_mono (F.run X.A X.stack s H ⟨us, []⟩ (us ++ ds) (vs ++ dvs) Q (WE W σ) hr I.env0 (hb s us I.kIn count) both h)
  rintro (er | fl) s' hq
  · exact passAt tk σ pins H s er s' I hq
  · cases fl with
    | ret u => exact I.after hq
    | next => exact hq.elim
    | brk => exact hq.elim
    | cont => exact hq.elim
/-- f(e, ..): by the mirror; the arguments are n, with the defaults -/
def eCallN (n : Nat) (m : MF) (dfl : List D) (L : AF) : EF := bindL L fun cs Γ => if cs.length + dfl.length = n then (match argsC Γ cs with
  | some (T, b) => (match m (T ++ dfl.map .sh) with
    | some (r, T') => (match putB Γ b T' with
      | some Γ' => (match r with
        | .val c => if isSolid c then some (.val c, Γ') else none
        | .exc x => some (.exc x, Γ'))
      | none => none)
    | none => none)
  | none => none) else none
/-- what the callee is asked, from what is asked of the call -/
theorem callN_core {σ : L2.St} {H : Hp} {Q : VK} {f : Frm} {M : Hp} {τ : List V} {T0 : List Cell} {Γ Γ' : Gam} {r : Res} {cs : List Cell} {vs : List V} {n : Nat} (G : Good X.K f M H (vs.reverse ++ τ) (cs.reverse ++ T0) σ Γ) (hl : vs.length = cs.length) (p : PostE X.K W f τ T0 σ Q r Γ') (hd : Reps X.K M dvs dfl)
    (e : (if cs.length + dfl.length = n then (match argsC Γ cs with
      | some (T, b) => (match m (T ++ dfl.map .sh) with
        | some (r, T') => (match putB Γ b T' with
          | some Γ' => (match r with
            | .val c => if isSolid c then some (Res.val c, Γ') else none
            | .exc x => some (.exc x, Γ'))
          | none => none)
        | none => none)
      | none => none) else none) = some (r, Γ')) : spM X.K n m (vs ++ dvs) H Q (WE W σ) := by
  split at e
  · rename_i hn
    refine ⟨by rw [List.length_append, hl, hd.length]; exact hn, ?_⟩
    split at e
    · rename_i T b hT
      obtain ⟨fc, gc, back⟩ := G.call hl hT hd
      split at e
      · rename_i r1 T' hm
        split at e
        · rename_i Γ1 hp
          refine ⟨fc, M, _, r1, T', gc, hm, ?_⟩
          cases r1 with
          | val c =>
            dsimp only at e
            split at e
            · rename_i sc
              cases e
              exact ⟨isSolid_of sc, fun v H' M' g' => p v H' M' ((back M' H' T' Γ' hp).2 v c (isSolid_of sc) g')⟩
            · cases e
          | exc x =>
            cases e
            exact fun d H' M' g' hx => p d H' M' ((back M' H' T' Γ' hp).1 g') hx
        · cases e
      · cases e
    · cases e
  · cases e
theorem de_call (F : FnG X.prog X.w X.K X.mg X.base k f fd ps m) (hr : RoomG k X.A) (tk : Takes X W) (hm : X.mg x = some (.ref f)) (hk : PySem.W.keepIn X.K (.ref f) = true) (hb : Binds X.K fd ps ds) (hd : Vals dvs ds) (hdf : Reps X.K (fun _ => none) dvs dfl)
    (ha : DA X W (e :: es) L) (hg : Gl X x := by rfl) (hdb : (x == ("__debug__" : Str)) = false := by decide) (he : starEach (e :: es) X.env = (false, eval e X.env) :: starEach es X.env := by rfl) (hpl : (backTo pos (starEach es X.env)).any (·.1) = false := by rfl) :
    DE X W (.Call (.Name x p) (e :: es) [] pos) (eCallN ps.length m dfl L) := by
  refine ⟨fun pins s σ H Q I h => ?_⟩
  obtain ⟨f0, M, τ, T, Γ, r, Γ', G, hF, post⟩ := h
  apply wpAny_Call_Name_kw
  refine ld_glob I hg hm ?_ hdb
  have asked : (tL X.K W L) σ H (fun vs H1 => spM X.K ps.length m (vs ++ dvs) H1 Q (WE W σ)) := runL G hF post fun cs Γ1 vs H1 M1 hl G1 e => callN_core G1 hl post (Reps.mono (fun _ _ q => by cases q) _ _ hdf) e
  refine PySem.W.callWith_K (h₀ := X.base) I.ok.mod.kin hk ?_ he hpl
  refine thn (ha.run pos pins s σ H _ I asked) ?_
  rintro us s1 ⟨vs, H1, I1, rr, q⟩
  exact ⟨I1.kIn, run_fnG F hr hb hd tk I1 rr q⟩
/-! ### methods -/
theorem lookup_zip_none {ns : List Str} {xs : List V} {nm : Str} (h : ns.contains nm = false) : (ns.zip xs).lookup nm = none := by
  induction ns generalizing xs with
  | nil => cases xs <;> rfl
  | cons n ns ih =>
    cases xs with
    | nil => rfl
    | cons x xs =>
      rw [List.contains_cons, Bool.or_eq_false_iff] at h
      rw [List.zip_cons_cons, List.lookup_cons, h.1]
      exact ih h.2
def eMethN (C : Addr) (nm : Str) (n : Nat) (m : MF) (dfl : List D) (A : EF) (L : AF) : EF := bindE A fun c Γ => match look Γ c with
  | some (.node (.ins C' ns) _) => if C' = C ∧ ns.contains nm = false then bindL L (fun cs Γ => if (c :: cs).length + dfl.length = n then (match argsC Γ (c :: cs) with
      | some (T, b) => (match m (T ++ dfl.map .sh) with
        | some (r, T') => (match putB Γ b T' with
          | some Γ' => (match r with
            | .val c => if isSolid c then some (.val c, Γ') else none
            | .exc x => some (.exc x, Γ'))
          | none => none)
        | none => none)
      | none => none) else none) Γ else none
  | _ => none
/-- the receiver, then the arguments, then the call -/
theorem meth_core {σ : L2.St} {H : Hp} {Q : VK} (hdf : Reps X.K (fun _ => none) dvs dfl) (h : tE X.K W (eMethN C nm ps.length m dfl A L) σ H Q) :
    (tE X.K W A) σ H fun x H1 => ∃ a dx fs, x = .ref a ∧ H1 a = some (.ins C dx fs) ∧ fs.lookup nm = none ∧ (tL X.K W L) σ H1 fun vs H2 => spM X.K ps.length m (x :: (vs ++ dvs)) H2 Q (WE W σ) := by
  obtain ⟨f0, M, τ, T, Γ, r, Γ', G, hF, post⟩ := h
  refine run1 G hF post fun c Γ1 v H1 M1 G1 e => ?_
  split at e
  · rename_i C' ns ds0 hd
    split at e
    · rename_i hC
      obtain ⟨rfl, hns⟩ := hC
      obtain ⟨a, xs, rfl, ⟨_, dx, ho⟩, _⟩ := G1.look (k := .inl 0) rfl hd
      refine ⟨a, dx, _, rfl, ho, lookup_zip_none hns, ?_⟩
      -- the arguments, the receiver pending
      unfold bindL at e
      cases hL : L Γ1 with
      | none => rw [hL] at e; cases e
      | some z =>
        obtain ⟨rl, Γ2⟩ := z
        rw [hL] at e
        cases rl with
        | exc x =>
          cases e
          exact ⟨f0, M1, _, _, Γ1, .exc x, Γ', G1, hL, PostX.pop post⟩
        | val cs =>
          refine ⟨f0, M1, _, _, Γ1, .val cs, Γ2, G1, hL, fun vs H2 M2 hl G2 => ?_⟩
          have G3 : Good X.K f0 M2 H2 ((V.ref a :: vs).reverse ++ τ) ((c :: cs).reverse ++ T) σ Γ2 := by
            rw [List.reverse_cons, List.reverse_cons, List.append_assoc, List.append_assoc]
            exact G2
          exact callN_core (vs := V.ref a :: vs) G3 (by rw [List.length_cons, List.length_cons, hl]) post (Reps.mono (fun _ _ q => by cases q) _ _ hdf) e
    · cases e
  · cases e
theorem de_meth {pl : Sem Bool} (he : DE X W o A) (c : Cls X.K C) (hm : Meth X.K C nm f) (F : FnG X.prog X.w X.K X.mg X.base k f fd ps m) (hr : RoomG k X.A) (tk : Takes X W) (hb : Binds X.K fd ps ds) (hd : Vals dvs ds) (hdf : Reps X.K (fun _ => none) dvs dfl) (ha : DA X W (e :: es) L)
    (hst : starEach (e :: es) X.env = (false, eval e X.env) :: starEach es X.env := by rfl) (hpl : (backTo pos (starEach es X.env)).any (·.1) = false := by rfl)
    (ht : eval (.Call (.Attribute o nm apos) (e :: es) [] pos) X.env = (eval o X.env >>= fun ov => standAt apos.atName >>= fun _ => holding [ov] (getMethod ov nm pl) >>= fun r => callWith pos r.1 r.2 (backTo pos (starEach (e :: es) X.env)) (backToKw pos (keywordEach [] X.env))) := by rfl) :
    DE X W (.Call (.Attribute o nm apos) (e :: es) [] pos) (eMethN C nm ps.length m dfl A L) := by
  refine ⟨fun pins s σ H Q I h => ?_⟩
  apply PySem.W.methodCall_KW (pl := pl) _ ht
  refine thn (he.run pins s σ H _ I (meth_core hdf h)) ?_
  rintro u s1 ⟨y, H1, I1, ry, a, dx, fs, hy, ea, hl, q⟩
  subst hy
  obtain rfl : u = Value.ref a := ry
  apply getmeth_ok I1 ea c hm hl
  refine PySem.W.callWith_K (first := [.ref a]) (h₀ := X.base) I.ok.mod.kin hm.kp ?_ hst hpl
  refine thn (ha.run pos pins s1 σ H1 _ I1 q) ?_
  rintro us s2 ⟨vs, H2, I2, rr, q2⟩
  exact ⟨I2.kIn, run_fnG (us := .ref a :: us) (vs := .ref a :: vs) F hr hb hd tk I2 (.cons rfl rr) q2⟩
theorem de_meth0 {pl : Sem Bool} (he : DE X W o A) (c : Cls X.K C) (hm : Meth X.K C nm f) (F : FnG X.prog X.w X.K X.mg X.base k f fd ps m) (hr : RoomG k X.A) (tk : Takes X W) (hb : Binds X.K fd ps ds) (hd : Vals dvs ds) (hdf : Reps X.K (fun _ => none) dvs dfl)
    (ht : eval (.Call (.Attribute o nm apos) [] [] pos) X.env = (eval o X.env >>= fun ov => standAt apos.atName >>= fun _ => holding [ov] (getMethod ov nm pl) >>= fun r => callWith pos r.1 r.2 (backTo pos (starEach [] X.env)) (backToKw pos (keywordEach [] X.env))) := by rfl) :
    DE X W (.Call (.Attribute o nm apos) [] [] pos) (eMethN C nm ps.length m dfl A aNil) := by
  refine ⟨fun pins s σ H Q I h => ?_⟩
  apply PySem.W.methodCall_KW (pl := pl) _ ht
  refine thn (he.run pins s σ H _ I (meth_core hdf h)) ?_
  rintro u s1 ⟨y, H1, I1, ry, a, dx, fs, hy, ea, hl, q⟩
  subst hy
  obtain rfl : u = Value.ref a := ry
  apply getmeth_ok I1 ea c hm hl
  have q0 : spM X.K ps.length m (.ref a :: ([] ++ dvs)) H1 Q (WE W σ) := by
    obtain ⟨f1, M1, τ1, T1, Γ1, r1, Γ2, G1, e1, p1⟩ := q
    cases e1
    exact p1 [] H1 M1 rfl G1
  exact PySem.W.callWith_K0 (first := [.ref a]) I1.kIn hm.kp (run_fnG (us := [.ref a]) (vs := [.ref a]) F hr hb hd tk I1 (.cons rfl .nil) q0)
end
end DL

set_option Elab.async false
set_option linter.all false
set_option maxRecDepth 100000
set_option maxHeartbeats 1000000
/-! operators and subscripts on data -/
namespace DL
open PySem PySem.Spec PyProof.Rows L2

section
variable {K : PySem.W.Frag}
theorem S2.left {r r' : R2} {g : D → D → Option Out} (h : S2 K r g) : S2 K (fun x y H Q => r x y H Q ∨ r' x y H Q) g := fun M H x y d e o Q s rx ry hg q => .inl (h M H x y d e o Q s rx ry hg q)
theorem S2.right {r r' : R2} {g : D → D → Option Out} (h : S2 K r' g) : S2 K (fun x y H Q => r x y H Q ∨ r' x y H Q) g := fun M H x y d e o Q s rx ry hg q => .inr (h M H x y d e o Q s rx ry hg q)
/-- + -/
def gAdd : D → D → Option Out
  | .leaf (.int i), .leaf (.int j) => some (.old (.leaf (.int (i + j))))
  | .leaf (.str x), .leaf (.str y) => if x.length + y.length ≤ 16777216 then some (.old (.leaf (.str (x ++ y)))) else none
  | .node .lst xs, .node .lst ys => if xs.length + ys.length ≤ 16777216 then some (.new .lst (xs ++ ys)) else none
  | .node .tup xs, .node .tup ys => if xs.length + ys.length ≤ 16777216 then (if xs.isEmpty then some (.old (.node .tup ys)) else if ys.isEmpty then some (.old (.node .tup xs)) else some (.new .tup (xs ++ ys))) else none
  | _, _ => none
abbrev rAddAll (K : PySem.W.Frag) : R2 := fun x y H Q => (((∃ i j, x = .int i ∧ y = .int j ∧ Q (.int (i + j)) H) ∨ ∃ i j, x = .str i ∧ y = .str j ∧ i.length + j.length ≤ sizeLine ∧ Q (.str (i ++ j)) H) ∨ rCat x y H Q) ∨ rCatA K x y H Q
theorem opAdd {X : Cx} : OpR X (binaryOp .Add) (rAddAll X.K) := ((op_add.or op_add_str).or op_cat).or op_catA
theorem Reps.ne {M : Hp} {xs : List V} {ds : List D} (r : Reps K M xs ds) (h : ds.isEmpty = false) : xs ≠ [] := by
  rintro rfl
  have := r.length
  cases ds with
  | nil => cases h
  | cons d ds => cases this
theorem Reps.none_of {M : Hp} {xs : List V} (r : Reps K M xs []) : xs = [] := List.length_eq_zero_iff.mp r.length
theorem s2Add : S2T K (rAddAll K) gAdd := by
  intro M H x y d e o Q s rx ry tx ty hg q
  unfold gAdd at hg
  split at hg
  · rename_i i j
    cases hg
    exact .inl (.inl (.inl ⟨i, j, rx, ry, q _ (by unfold Rep; rfl)⟩))
  · rename_i a b
    split at hg
    · rename_i hl
      cases hg
      exact .inl (.inl (.inr ⟨a, b, rx, ry, by rw [sizeLine_eq]; exact hl, q _ (by unfold Rep; rfl)⟩))
    · cases hg
  · rename_i xs ys
    split at hg
    · rename_i hl
      cases hg
      obtain ⟨a, us, rfl, h1, r1⟩ := rx
      obtain ⟨b, ws, rfl, h2, r2⟩ := ry
      exact .inl (.inr ⟨a, b, us, ws, rfl, rfl, h1, h2, by rw [r1.length, r2.length, sizeLine_eq]; exact hl, fun p hp => q.2 p _ hp (r1.append r2)⟩)
    · cases hg
  · rename_i xs ys
    split at hg
    · rename_i hl
      obtain ⟨a, us, rfl, h1, r1⟩ := rx
      obtain ⟨b, ws, rfl, h2, r2⟩ := ry
      have hc : (us = [] → Q (.ref b) H) ∧ (us ≠ [] → ws = [] → Q (.ref a) H) ∧ (us ≠ [] → ws ≠ [] → ∀ p, H p = none → Q (.ref p) (upd H p (.tup (us ++ ws)))) := by
        cases xs with
        | nil =>
          have e1 := r1.none_of
          subst e1
          cases hg
          exact ⟨fun _ => q _ (ty _ rfl), fun z => (z rfl).elim, fun z => (z rfl).elim⟩
        | cons x xs =>
          cases ys with
          | nil =>
            have e2 := r2.none_of
            subst e2
            cases hg
            exact ⟨fun z => (r1.ne rfl z).elim, fun _ _ => q _ (tx _ rfl), fun _ z => (z rfl).elim⟩
          | cons y ys =>
            cases hg
            exact ⟨fun z => (r1.ne rfl z).elim, fun _ z => (r2.ne rfl z).elim, fun _ _ p hp => q.2 p _ hp (r1.append r2)⟩
      exact .inr ⟨a, b, us, ws, rfl, rfl, h1, h2, by rw [r1.length, r2.length, sizeLine_eq]; exact hl, hc⟩
    · cases hg
  · cases hg
/-- two ints -/
def gII (C : Int → Int → Bool) (f : Int → Int → V) : D → D → Option Out
  | .leaf (.int i), .leaf (.int j) => if C i j then some (.old (.leaf (f i j))) else none
  | _, _ => none
theorem s2II {C : Int → Int → Bool} {C' : Int → Int → Prop} {f : Int → Int → V} (h : ∀ i j, C i j = true → C' i j) : S2 K (rI C' f) (gII C f) := by
  intro M H x y d e o Q s rx ry hg q
  unfold gII at hg
  split at hg
  · rename_i i j
    split at hg
    · rename_i hc
      cases hg
      exact ⟨i, j, rx, ry, h i j hc, q _ (by unfold Rep; rfl)⟩
    · cases hg
  · cases hg
def gII0 (f : Int → Int → V) : D → D → Option Out
  | .leaf (.int i), .leaf (.int j) => some (.old (.leaf (f i j)))
  | _, _ => none
theorem s2II0 {f : Int → Int → V} : S2 K (rI0 f) (gII0 f) := by
  intro M H x y d e o Q s rx ry hg q
  unfold gII0 at hg
  split at hg
  · rename_i i j
    cases hg
    exact ⟨i, j, rx, ry, q _ (by unfold Rep; rfl)⟩
  · cases hg
def gSub : D → D → Option Out := gII0 fun i j => .int (i - j)
theorem s2Sub : S2 K (rI0 fun i j => .int (i - j)) gSub := s2II0
def cDiv (_ j : Int) : Bool := decide (0 < j ∧ j < 2 ^ 300)
theorem cDiv_ok {i j : Int} (h : cDiv i j = true) : CDivW i j := by
  have h' := of_decide_eq_true h
  exact wide_div (b := 300) h'.1 (by have := h'.2; omega) (by decide) (by decide)
def gFdiv : D → D → Option Out := gII cDiv fun i j => .int (i / j)
theorem s2Fdiv : S2 K (rI CDivW fun i j => .int (i / j)) gFdiv := s2II fun _ _ => cDiv_ok
def gMod : D → D → Option Out := gII (fun _ j => decide (0 < j)) fun i j => .int (i % j)
theorem s2Mod : S2 K (rI (fun _ j => 0 < j) fun i j => .int (i % j)) gMod := s2II fun _ _ h => of_decide_eq_true h
def cMul (i j : Int) : Bool := decide ((-(2 ^ 1000) < i ∧ i < 2 ^ 1000) ∧ -(2 ^ 1000) < j ∧ j < 2 ^ 1000)
theorem cMul_ok {i j : Int} (h : cMul i j = true) : CMulW i j := by
  have h' := of_decide_eq_true h
  exact wide_mul (a := 1000) (b := 1000) (by have := h'.1; omega) (by have := h'.2; omega) (by decide) (by decide) (by decide)
def gMul : D → D → Option Out
  | .leaf (.int i), .leaf (.int j) => if cMul i j then some (.old (.leaf (.int (i * j)))) else none
  | .node .lst xs, .leaf (.int k) => if (-9223372036854775808 ≤ k ∧ k < 9223372036854775808) ∧ xs.length * k.toNat ≤ 16777216 then some (.new .lst (List.replicate k.toNat xs).flatten) else none
  | _, _ => none
theorem opMul {X : Cx} : OpR X (binaryOp .Mult) (fun x y H Q => (rI CMulW fun i j => .int (i * j)) x y H Q ∨ rRep x y H Q) := op_mulW.or op_rep
theorem Reps.flat {M : Hp} {xs : List V} {ds : List D} (r : Reps K M xs ds) : ∀ n, Reps K M (List.replicate n xs).flatten (List.replicate n ds).flatten
  | 0 => .nil
  | n + 1 => by
    rw [List.replicate_succ, List.replicate_succ, List.flatten_cons, List.flatten_cons]
    exact r.append (Reps.flat r n)
theorem s2Mul : S2 K (fun x y H Q => (rI CMulW fun i j => .int (i * j)) x y H Q ∨ rRep x y H Q) gMul := by
  intro M H x y d e o Q s rx ry hg q
  unfold gMul at hg
  split at hg
  · rename_i i j
    split at hg
    · rename_i hc
      cases hg
      exact .inl ⟨i, j, rx, ry, cMul_ok hc, q _ (by unfold Rep; rfl)⟩
    · cases hg
  · rename_i xs k
    split at hg
    · rename_i hc
      cases hg
      obtain ⟨a, us, rfl, h1, r1⟩ := rx
      exact .inr ⟨a, k, us, rfl, ry, h1, hc.1.1, hc.1.2, by rw [r1.length, sizeLine_eq]; exact hc.2, fun p hp => q.2 p _ hp (r1.flat _)⟩
    · cases hg
  · cases hg
def gPow : D → D → Option Out := gII (fun i j => decide (0 ≤ j ∧ j ≤ 1000000 ∧ i.natAbs < 18446744073709551616)) fun i j => .int (i ^ j.toNat)
theorem s2Pow : S2 K (rI CPow fun i j => .int (i ^ j.toNat)) gPow := s2II fun _ _ h => (of_decide_eq_true h : _ ∧ _ ∧ _)
def gNeg : D → Option Out
  | .leaf (.int i) => some (.old (.leaf (.int (-i))))
  | _ => none
theorem s1Neg : S1 K (rU fun i => .int (-i)) gNeg := by
  intro M H x d o Q s rx hg q
  unfold gNeg at hg
  split at hg
  · rename_i i
    cases hg
    exact ⟨i, rx, q _ (by unfold Rep; rfl)⟩
  · cases hg

/-! ### order -/
def strLt (x y : Str) : Bool := decide (x.cps.toList < y.cps.toList)
def gLt : D → D → Option Out
  | .leaf (.int i), .leaf (.int j) => some (.old (.leaf (.bl (decide (i < j)))))
  | .leaf (.str x), .leaf (.str y) => some (.old (.leaf (.bl (strLt x y))))
  | _, _ => none
theorem s2Lt : S2 K (fun x y H Q => (rI0 fun i j => .bl (decide (i < j))) x y H Q ∨ ∃ i j, x = .str i ∧ y = .str j ∧ Q (.bl (decide (i.cps.toList < j.cps.toList))) H) gLt := by
  intro M H x y d e o Q s rx ry hg q
  unfold gLt at hg
  split at hg
  · rename_i i j
    cases hg
    exact .inl ⟨i, j, rx, ry, q _ (by unfold Rep; rfl)⟩
  · rename_i i j
    cases hg
    exact .inr ⟨i, j, rx, ry, q _ (by unfold Rep; rfl)⟩
  · cases hg
theorem opLt {X : Cx} : OpR X (compareOp .Lt) (fun x y H Q => (rI0 fun i j => .bl (decide (i < j))) x y H Q ∨ ∃ i j, x = .str i ∧ y = .str j ∧ Q (.bl (decide (i.cps.toList < j.cps.toList))) H) := op_lt.or op_lt_str
def gLe : D → D → Option Out := gII0 fun i j => .bl (decide (i ≤ j))
theorem s2Le : S2 K (rI0 fun i j => .bl (decide (i ≤ j))) gLe := s2II0
def gGt : D → D → Option Out := gII0 fun i j => .bl (decide (j < i))
theorem s2Gt : S2 K (rI0 fun i j => .bl (decide (j < i))) gGt := s2II0
def gGe : D → D → Option Out := gII0 fun i j => .bl (decide (j ≤ i))
theorem s2Ge : S2 K (rI0 fun i j => .bl (decide (j ≤ i))) gGe := s2II0

/-! ### data as the library has it -/
mutual
def toP : D → Option PyData
  | .leaf .non => some .none
  | .leaf (.bl b) => some (.bool b)
  | .leaf (.int i) => some (.int i)
  | .leaf (.str x) => some (.str x)
  | .leaf _ => none
  | .node .lst ds => match toPs ds with
    | some ps => some (.list ps)
    | none => none
  | .node .tup ds => match toPs ds with
    | some ps => some (.tuple ps)
    | none => none
  | .node .scr ds => match toPs ds with
    | some ps => some (.list ps)
    | none => none
  | .node _ _ => none
def toPs : List D → Option (List PyData)
  | [] => some []
  | d :: ds => match toP d, toPs ds with
    | some p, some ps => some (p :: ps)
    | _, _ => none
end
mutual
theorem dp_of {H : Hp} : ∀ (d : D) (v : V) (p : PyData), Rep K H v d → toP d = some p → Dp K H v p
  | .leaf .non, v, p, r, h => by unfold Rep at r; subst r; unfold toP at h; cases h; exact .non
  | .leaf (.bl b), v, p, r, h => by unfold Rep at r; subst r; unfold toP at h; cases h; exact .bl b
  | .leaf (.int i), v, p, r, h => by unfold Rep at r; subst r; unfold toP at h; cases h; exact .int i
  | .leaf (.str x), v, p, r, h => by unfold Rep at r; subst r; unfold toP at h; cases h; exact .str x
  | .leaf (.byt x), v, p, r, h => by unfold toP at h; cases h
  | .leaf (.flt x), v, p, r, h => by unfold toP at h; cases h
  | .leaf (.ref x), v, p, r, h => by unfold toP at h; cases h
  | .leaf (.ty x), v, p, r, h => by unfold toP at h; cases h
  | .node .lst ds, v, p, r, h => by
    unfold Rep at r
    obtain ⟨a, xs, rfl, ho, rs⟩ := r
    unfold toP at h
    split at h
    · rename_i ps hp; cases h; exact .lst (.of ho) (dps_of ds xs ps rs hp)
    · cases h
  | .node .scr ds, v, p, r, h => by
    unfold Rep at r
    obtain ⟨a, xs, rfl, ho, rs⟩ := r
    unfold toP at h
    split at h
    · rename_i ps hp; cases h; exact .lst ho (dps_of ds xs ps rs hp)
    · cases h
  | .node .tup ds, v, p, r, h => by
    unfold Rep at r
    obtain ⟨a, xs, rfl, ho, rs⟩ := r
    unfold toP at h
    split at h
    · rename_i ps hp; cases h; exact .tup ho (dps_of ds xs ps rs hp)
    · cases h
  | .node (.dk _) ds, v, p, r, h => by unfold toP at h; cases h
  | .node (.dt _) ds, v, p, r, h => by unfold toP at h; cases h
  | .node (.ins _ _) ds, v, p, r, h => by unfold toP at h; cases h
  | .node (.exc _ _) ds, v, p, r, h => by unfold toP at h; cases h
theorem dps_of {H : Hp} : ∀ (ds : List D) (xs : List V) (ps : List PyData), Reps K H xs ds → toPs ds = some ps → DpAll K H xs ps
  | [], xs, ps, r, h => by
    unfold toPs at h; cases h
    rw [r.nil_of]
    exact .nil
  | d :: ds, xs, ps, r, h => by
    obtain ⟨x, ys, rfl, r1, r2⟩ := r.cons_of
    unfold toPs at h
    split at h
    · rename_i p q h1 h2
      cases h
      exact .cons (dp_of d x p r1 h1) (dps_of ds ys q r2 h2)
    · cases h
end
/-- == -/
def eqD (d e : D) : Option Bool := match d, e with
  | .leaf u, .leaf w => if scal u w then some (decide (u = w)) else none
  | _, _ => match toP d, toP e with
    | some p, some q => if SeqAt.shaped p && SeqAt.shaped q then some (PyData.eqv p q) else none
    | _, _ => none
def gEq (d e : D) : Option Out := match eqD d e with
  | some b => some (.old (.leaf (.bl b)))
  | none => none
def gNe (d e : D) : Option Out := match eqD d e with
  | some b => some (.old (.leaf (.bl (!b))))
  | none => none
theorem opEq {X : Cx} {k : Nat} (hr : RoomG k X.A) : OpR X (compareOp .Eq) (fun x y H Q => rEq x y H Q ∨ rEqD X.K x y H Q) := op_eq.or (op_eqD hr.room.units)
theorem opNe {X : Cx} {k : Nat} (hr : RoomG k X.A) : OpR X (compareOp .NotEq) (fun x y H Q => rNe x y H Q ∨ rNeD X.K x y H Q) := op_ne.or (op_neD hr.room.units)
theorem eqD_of {M H : Hp} {x y : V} {d e : D} {b : Bool} (s : Sub M H) (rx : RepH K M H x d) (ry : RepH K M H y e) (h : eqD d e = some b) : (scal x y = true ∧ b = decide (x = y)) ∨ ∃ p q, Dp K H x p ∧ Dp K H y q ∧ SeqAt.shaped p = true ∧ SeqAt.shaped q = true ∧ b = PyData.eqv p q := by
  have gen : (match toP d, toP e with
    | some p, some q => if SeqAt.shaped p && SeqAt.shaped q then some (PyData.eqv p q) else none
    | _, _ => none) = some b → ∃ p q, Dp K H x p ∧ Dp K H y q ∧ SeqAt.shaped p = true ∧ SeqAt.shaped q = true ∧ b = PyData.eqv p q := fun h => by
    split at h
    · rename_i p q h1 h2
      split at h
      · rename_i hs
        rw [Bool.and_eq_true] at hs
        cases h
        exact ⟨p, q, dp_of d x p (rx.full s) h1, dp_of e y q (ry.full s) h2, hs.1, hs.2, rfl⟩
      · cases h
    · cases h
  cases d with
  | leaf u =>
    cases e with
    | leaf w =>
      unfold eqD at h
      dsimp only at h
      split at h
      · rename_i hs
        cases h
        cases (show x = u from rx)
        cases (show y = w from ry)
        exact .inl ⟨hs, rfl⟩
      · cases h
    | node t ds => exact .inr (gen h)
  | node t ds => exact .inr (gen h)
theorem s2Eq : S2 K (fun x y H Q => rEq x y H Q ∨ rEqD K x y H Q) gEq := by
  intro M H x y d e o Q s rx ry hg q
  unfold gEq at hg
  split at hg
  · rename_i b hb
    cases hg
    rcases eqD_of s rx ry hb with ⟨hs, rfl⟩ | ⟨p1, q1, h1, h2, h3, h4, rfl⟩
    · exact .inl ⟨hs, q _ (by unfold Rep; rfl)⟩
    · exact .inr ⟨p1, q1, h1, h2, h3, h4, q _ (by unfold Rep; rfl)⟩
  · cases hg
theorem s2Ne : S2 K (fun x y H Q => rNe x y H Q ∨ rNeD K x y H Q) gNe := by
  intro M H x y d e o Q s rx ry hg q
  unfold gNe at hg
  split at hg
  · rename_i b hb
    cases hg
    rcases eqD_of s rx ry hb with ⟨hs, rfl⟩ | ⟨p1, q1, h1, h2, h3, h4, rfl⟩
    · exact .inl ⟨hs, q _ (by unfold Rep; rfl)⟩
    · exact .inr ⟨p1, q1, h1, h2, h3, h4, q _ (by unfold Rep; rfl)⟩
  · cases hg
/-- is None -/
def isNon : D → Bool
  | .leaf u => decide (u = .non)
  | .node _ _ => false
def gIsN : D → D → Option Out := fun d e => match e with
  | .leaf .non => some (.old (.leaf (.bl (isNon d))))
  | _ => none
def gNotN : D → D → Option Out := fun d e => match e with
  | .leaf .non => some (.old (.leaf (.bl (!isNon d))))
  | _ => none
/-! ### subscripts -/
/-- what a dict holds: keys and items side by side -/
def getK {κ α : Type} [DecidableEq κ] (k : κ) : List κ → List α → Option α
  | k' :: ks, x :: xs => if k' = k then some x else getK k ks xs
  | _, _ => none
theorem getK_val {κ : Type} [DecidableEq κ] {M : Hp} {k : κ} : ∀ {ks : List κ} {xs : List V} {ds : List D}, Reps K M xs ds → (∀ d, getK k ks ds = some d → ∃ v, valV (ks.zip xs) k = some v ∧ Rep K M v d) ∧ (getK k ks ds = none → valV (ks.zip xs) k = none)
  | [], xs, ds, r => by
    refine ⟨(fun d h => by cases ds <;> cases h), fun _ => by cases xs <;> rfl⟩
  | k' :: ks, [], [], r => ⟨(fun d h => by cases h), fun _ => rfl⟩
  | k' :: ks, [], _ :: _, r => by unfold Reps at r; exact r.elim
  | k' :: ks, _ :: _, [], r => by unfold Reps at r; exact r.elim
  | k' :: ks, x :: xs, d :: ds, r => by
    obtain ⟨r1, r2⟩ := r.of_cons
    obtain ⟨i1, i2⟩ := getK_val (k := k) (ks := ks) r2
    rw [List.zip_cons_cons]
    by_cases hk : k' = k
    · rw [valV_pos (p := (k', x)) hk]
      refine ⟨fun e h => ?_, fun h => ?_⟩
      · unfold getK at h
        rw [if_pos hk] at h
        cases h
        exact ⟨x, rfl, r1⟩
      · unfold getK at h
        rw [if_pos hk] at h
        cases h
    · rw [valV_neg (p := (k', x)) hk]
      refine ⟨fun e h => ?_, fun h => ?_⟩
      · unfold getK at h
        rw [if_neg hk] at h
        exact i1 e h
      · unfold getK at h
        rw [if_neg hk] at h
        exact i2 h
theorem atI_reps {M : Hp} {xs : List V} {ds : List D} {i : Int} {d : D} (r : Reps K M xs ds) (h : atI ds i = some d) : ∃ v, atI xs i = some v ∧ Rep K M v d := by
  unfold atI at h ⊢
  rw [r.length]
  cases hn : ixN ds.length i with
  | none => rw [hn] at h; cases h
  | some j =>
    rw [hn] at h
    exact r.get h
def gIx : D → D → Option Out
  | .node .lst ds, .leaf (.int i) => (atI ds i).map .old
  | .node .tup ds, .leaf (.int i) => (atI ds i).map .old
  | .node .scr ds, .leaf (.int i) => (atI ds i).map .old
  | .leaf (.str z), .leaf (.int i) => if z.length ≤ 16777216 then (atI z.cps.toList i).map fun c => .old (.leaf (.str ⟨#[c]⟩)) else none
  | _, _ => none
theorem opIx {X : Cx} : IxR X (fun x y H Q => (rIxL X.K x y H Q ∨ rIxT X.K x y H Q) ∨ rIxS x y H Q) := fun value slice pins s σ H x y v u Q I rx ry q hs =>
  ix_seq value slice pins s σ H x y v u Q I rx ry (q.elim (fun z => z.elim .inl fun z => .inr (.inl z)) fun z => .inr (.inr z)) hs
theorem s2Ix : S2 K (fun x y H Q => (rIxL K x y H Q ∨ rIxT K x y H Q) ∨ rIxS x y H Q) gIx := by
  intro M H x y d e o Q s rx ry hg q
  have seq : ∀ {ds : List D} {xs : List V} {i : Int}, Reps K M xs ds → (atI ds i).map Out.old = some o → ∃ v, atI xs i = some v ∧ Q v H := fun {ds xs i} r h => by
    cases ha : atI ds i with
    | none => rw [ha] at h; cases h
    | some d =>
      rw [ha] at h
      cases h
      obtain ⟨v, h1, h2⟩ := atI_reps r ha
      exact ⟨v, h1, q v h2⟩
  unfold gIx at hg
  split at hg
  · rename_i ds i
    obtain ⟨a, xs, rfl, ho, rs⟩ := rx
    obtain ⟨v, h1, h2⟩ := seq rs hg
    exact .inl (.inl ⟨a, xs, i, v, rfl, ry, .of ho, h1, h2⟩)
  · rename_i ds i
    obtain ⟨a, xs, rfl, ho, rs⟩ := rx
    obtain ⟨v, h1, h2⟩ := seq rs hg
    exact .inl (.inr ⟨a, xs, i, v, rfl, ry, ho, h1, h2⟩)
  · rename_i ds i
    obtain ⟨a, xs, rfl, ho, rs⟩ := rx
    obtain ⟨v, h1, h2⟩ := seq rs hg
    exact .inl (.inl ⟨a, xs, i, v, rfl, ry, ho, h1, h2⟩)
  · rename_i z i
    split at hg
    · rename_i hl
      cases hc : atI z.cps.toList i with
      | none => rw [hc] at hg; cases hg
      | some c =>
        rw [hc] at hg
        cases hg
        exact .inr ⟨z, i, c, rx, ry, by rw [sizeLine_eq]; exact hl, hc, q _ (by unfold Rep; rfl)⟩
    · cases hg
  · cases hg
/-- d[k], k an int or a text -/
def gGet : D → D → Option Out
  | .node (.dk ks) ds, .leaf (.int i) => (getK (Sum.inl i) ks ds).map .old
  | .node (.dk ks) ds, .leaf (.str x) => (getK (Sum.inr x) ks ds).map .old
  | _, _ => none
def rGet : R2 := fun x y H Q => ∃ a v, x = .ref a ∧ DGet H a y (some v) ∧ Q v H
theorem s2Get : S2 K rGet gGet := by
  intro M H x y d e o Q s rx ry hg q
  unfold gGet at hg
  split at hg
  · rename_i ks ds i
    obtain ⟨a, xs, rfl, ⟨hl, ho⟩, rs⟩ := rx
    cases hk : getK (Sum.inl i : Key) ks ds with
    | none => rw [hk] at hg; cases hg
    | some d =>
      rw [hk] at hg
      cases hg
      obtain ⟨v, h1, h2⟩ := (getK_val rs).1 d hk
      exact ⟨a, v, rfl, .inl ⟨_, Sum.inl i, ho, ry, h1.symm⟩, q v h2⟩
  · rename_i ks ds z
    obtain ⟨a, xs, rfl, ⟨hl, ho⟩, rs⟩ := rx
    cases hk : getK (Sum.inr z : Key) ks ds with
    | none => rw [hk] at hg; cases hg
    | some d =>
      rw [hk] at hg
      cases hg
      obtain ⟨v, h1, h2⟩ := (getK_val rs).1 d hk
      exact ⟨a, v, rfl, .inl ⟨_, Sum.inr z, ho, ry, h1.symm⟩, q v h2⟩
  · cases hg
end
section
variable {X : Cx} {W : WX} {pos p2 : Pos} {a b o i e : Expr} {A B : EF} {k : Nat}
theorem de_dget (ha : DE X W o A) (hb : DE X W i B) (hr : RoomG k X.A) (hs : NoSl i := by exact fun _ _ => rfl) : DE X W (.Subscript o i pos) (eBin gGet A B) := by
  refine PEimp (pe_dget (hu_of hr.room) ha hb hs) fun σ H Q h => ?_
  exact bin_core s2Get h
/-- slices -/
def cutD {α : Type} (xs : List α) (lo hi : Option Int) : List α := (xs.drop (HT.sIx xs.length 0 lo)).take (HT.sIx xs.length xs.length hi - HT.sIx xs.length 0 lo)
inductive ResO where
  | val (o : Option Int)
  | exc (x : Exc)
abbrev OF := Gam → Option (ResO × Gam)
def oNone : OF := fun Γ => some (.val none, Γ)
def oSome (A : EF) : OF := fun Γ => match A Γ with
  | some (.val c, Γ1) => (match look Γ1 c with
    | some (.leaf (.int i)) => some (.val (some i), Γ1)
    | _ => none)
  | some (.exc x, Γ1) => some (.exc x, Γ1)
  | none => none
def tO (K : PySem.W.Frag) (W : WX) (F : OF) : TO := fun σ H Q => ∃ f M τ T Γ r Γ', Good K f M H τ T σ Γ ∧ F Γ = some (r, Γ') ∧ match r with
  | .val o => ∀ H' M', Good K f M' H' τ T σ Γ' → Q o H'
  | .exc x => PostX K W f τ T σ x Γ'
abbrev DO (X : Cx) (W : WX) (e : Option Expr) (F : OF) : Prop := PO X e (tO X.K W F)
theorem POimp {e : Option Expr} {t t' : TO} (h : PO X e t) (k : ∀ σ H Q, t' σ H Q → t σ H Q) : PO X e t' := ⟨fun pins s σ H Q I q => h.run pins s σ H Q I (k σ H Q q)⟩
theorem do_none : DO X W none oNone := by
  refine POimp po_none fun σ H Q h => ?_
  obtain ⟨f, M, τ, T, Γ, r, Γ', G, hF, p⟩ := h
  cases hF
  exact p H M G
theorem do_some (h : DE X W e A) : DO X W (some e) (oSome A) := by
  refine POimp (po_some h) fun σ H Q h => ?_
  obtain ⟨f, M, τ, T, Γ, r, Γ', G, hF, p⟩ := h
  unfold oSome at hF
  split at hF
  · rename_i c Γ1 hA
    split at hF
    · rename_i i hi
      cases hF
      exact ⟨f, M, τ, T, Γ, _, Γ', G, hA, fun v H1 M1 G1 => ⟨i, G1.look (k := .inl 0) rfl hi, p H1 M1 G1.pop⟩⟩
    · cases hF
  · rename_i x Γ1 hA
    cases hF
    exact ⟨f, M, τ, T, Γ, _, Γ', G, hA, p⟩
  · cases hF
def gCut (lo hi : Option Int) : D → Option Out
  | .node .lst ds => some (.new .lst (cutD ds lo hi))
  | .node .scr ds => some (.new .lst (cutD ds lo hi))
  | .node .tup ds => if HT.sIx ds.length 0 lo = 0 ∧ HT.sIx ds.length ds.length hi = ds.length then some (.old (.node .tup ds)) else some (.new .tup (cutD ds lo hi))
  | .leaf (.str z) => if z.length ≤ 16777216 then some (.old (.leaf (.str (cutS z lo hi)))) else none
  | _ => none
def eSlice (A : EF) (F F' : OF) : EF := bindE A fun c Γ => match F Γ with
  | some (.val lo, Γ1) => (match F' Γ1 with
    | some (.val hi, Γ2) => (match look Γ2 c with
      | some d => eOut (gCut lo hi d) Γ2
      | none => none)
    | some (.exc x, Γ2) => some (.exc x, Γ2)
    | none => none)
  | some (.exc x, Γ1) => some (.exc x, Γ1)
  | none => none
theorem cut_reps {K : PySem.W.Frag} {M : Hp} {xs : List V} {ds : List D} {lo hi : Option Int} (r : Reps K M xs ds) : Reps K M (cutV xs lo hi) (cutD ds lo hi) := by
  unfold cutV cutD
  rw [r.length]
  exact (r.drop _).take _
theorem de_slice {lo hi : Option Expr} {F F' : OF} (he : DE X W e A) (hl : DO X W lo F) (hu : DO X W hi F') : DE X W (.Subscript e (.Slice lo hi none p2) pos) (eSlice A F F') := by
  refine PEimp (pe_slice ((sl_list.or sl_tupA).or sl_str) he hl hu) fun σ H Q h => ?_
  obtain ⟨f, M, τ, T, Γ, r, Γ', G, hF, p⟩ := h
  refine run1 G hF p fun c Γ1 v H1 M1 G1 e => ?_
  split at e
  · rename_i l Γ2 h1
    refine ⟨f, M1, _, _, Γ1, _, Γ2, G1, h1, fun H2 M2 G2 => ?_⟩
    split at e
    · rename_i u Γ3 h2
      refine ⟨f, M2, _, _, Γ2, _, Γ3, G2, h2, fun H3 M3 G3 => ?_⟩
      split at e
      · rename_i d hd
        obtain ⟨o, ho, hk, rfl, rfl⟩ := eOut_some e
        have rd := G3.look (k := .inl 0) rfl hd
        have q := G3.pop.out (okNew_of hk) p
        unfold gCut at ho
        split at ho
        · rename_i ds
          cases ho
          obtain ⟨a, xs, rfl, h3, rs⟩ := rd
          exact .inl (.inl ⟨a, xs, rfl, .of h3, fun p hp => q.2 p _ hp (cut_reps rs)⟩)
        · rename_i ds
          cases ho
          obtain ⟨a, xs, rfl, h3, rs⟩ := rd
          exact .inl (.inl ⟨a, xs, rfl, h3, fun p hp => q.2 p _ hp (cut_reps rs)⟩)
        · rename_i ds
          split at ho
          · rename_i hn
            cases ho
            obtain ⟨a, xs, rfl, h3, rs⟩ := rd
            exact .inl (.inr ⟨a, xs, rfl, h3, fun _ => q _ (G3.lookT (k := .inl 0) rfl hd _ rfl), fun z => (z (by rw [rs.length]; exact hn)).elim⟩)
          · rename_i hn
            cases ho
            obtain ⟨a, xs, rfl, h3, rs⟩ := rd
            exact .inl (.inr ⟨a, xs, rfl, h3, fun z => (hn (by rw [← rs.length]; exact z)).elim, fun _ p hp => q.2 p _ hp (cut_reps rs)⟩)
        · rename_i z
          split at ho
          · rename_i hz
            cases ho
            exact .inr ⟨z, rd, by rw [sizeLine_eq]; exact hz, q _ (by unfold Rep; rfl)⟩
          · cases ho
        · cases ho
      · cases e
    · rename_i x Γ3 h2
      cases e
      exact ⟨f, M2, _, _, Γ2, _, Γ', G2, h2, PostX.pop p⟩
    · cases e
  · rename_i x Γ2 h1
    cases e
    exact ⟨f, M1, _, _, Γ1, _, Γ', G1, h1, PostX.pop p⟩
  · cases e
/-- a < b < c -/
theorem de_chain {C : EF} {op op' : CmpOp} {r r' : R2} {g g' : D → D → Option Out} (ho : OpR X (compareOp op) r) (ho' : OpR X (compareOp op') r') (hs : S2 X.K r g) (hs' : S2 X.K r' g')
    (pe : PE X e (tChain r r' (tE X.K W A) (tE X.K W B) (tE X.K W C))) : DE X W e (eChain g g' A B C) := by
  refine PEimp pe fun σ H Q h => ?_
  obtain ⟨f, M, τ, T, Γ, rr, Γ', G, hF, p⟩ := h
  refine run1 G hF p fun c1 Γ1 v H1 M1 G1 e1 => ?_
  refine run2 G1 e1 p fun c2 Γ2 v' H2 M2 G2 e2 => ?_
  split at e2
  · rename_i d d' hd hd'
    split at e2
    · rename_i hg
      refine hs M2 H2 v v' d d' _ _ G2.sub (G2.look (k := .inl 1) rfl hd) (G2.look (k := .inl 0) rfl hd') hg fun w hw => ?_
      unfold Rep at hw
      refine ⟨true, hw, iteT ?_⟩
      refine run3 G2 e2 p fun c3 Γ3 v3 H3 M3 G3 e3 => ?_
      split at e3
      · rename_i d2 d3 h2 h3
        obtain ⟨o, ho, hk, rfl, rfl⟩ := eOut_some e3
        exact hs' M3 H3 v' v3 d2 d3 o Q G3.sub (G3.look (k := .inl 1) rfl h2) (G3.look (k := .inl 0) rfl h3) ho (G3.pop.pop.pop.out (okNew_of hk) p)
      · cases e3
    · rename_i hg
      cases e2
      refine hs M2 H2 v v' d d' _ _ G2.sub (G2.look (k := .inl 1) rfl hd) (G2.look (k := .inl 0) rfl hd') hg fun w hw => ?_
      unfold Rep at hw
      exact ⟨false, hw, iteF (p _ H2 M2 (G2.pop.pop.pushSh (by unfold Rep; rfl)))⟩
    · cases e2
  · cases e2
end
end DL

set_option Elab.async false
set_option linter.all false
set_option maxRecDepth 100000
set_option maxHeartbeats 1000000
/-! built-ins by values, changes of owned objects -/
namespace DL
open PySem PySem.Spec PyProof.Rows L2

/-! ### built-in calls -/
section
variable {K : PySem.W.Frag}
def RepHs (K : PySem.W.Frag) (M H : Hp) : List V → List D → Prop
  | [], [] => True
  | x :: xs, d :: ds => RepH K M H x d ∧ RepHs K M H xs ds
  | [], _ :: _ => False
  | _ :: _, [] => False
theorem RepHs.one {M H : Hp} {xs : List V} {d : D} (r : RepHs K M H xs [d]) : ∃ x, xs = [x] ∧ RepH K M H x d := by
  match xs, r with
  | [x], r => exact ⟨x, rfl, r.1⟩
theorem RepHs.two {M H : Hp} {xs : List V} {d e : D} (r : RepHs K M H xs [d, e]) : ∃ x y, xs = [x, y] ∧ RepH K M H x d ∧ RepH K M H y e := by
  match xs, r with
  | [x, y], r => exact ⟨x, y, rfl, r.1, r.2.1⟩
def lookL (Γ : Gam) : List Cell → Option (List D)
  | [] => some []
  | c :: cs => match look Γ c, lookL Γ cs with
    | some d, some ds => some (d :: ds)
    | _, _ => none
theorem Good.lookL {f : Frm} {M H : Hp} {σ : L2.St} {Γ : Gam} : ∀ {vs : List V} {cs : List Cell} {ds : List D} {τ : List V} {T : List Cell}, vs.length = cs.length → lookL Γ cs = some ds →
    Good K f M H (vs.reverse ++ τ) (cs.reverse ++ T) σ Γ → RepHs K M H vs ds ∧ Good K f M H τ T σ Γ
  | [], [], ds, τ, T, _, h, G => by cases h; exact ⟨trivial, G⟩
  | [], _ :: _, _, _, _, hl, _, _ => by cases hl
  | _ :: _, [], _, _, _, hl, _, _ => by cases hl
  | v :: vs, c :: cs, ds, τ, T, hl, h, G => by
    rw [List.reverse_cons, List.reverse_cons, List.append_assoc, List.append_assoc] at G
    unfold DL.lookL at h
    split at h
    · rename_i d ds' h1 h2
      cases h
      obtain ⟨r, G'⟩ := Good.lookL (τ := v :: τ) (T := c :: T) (by simpa using hl) h2 G
      exact ⟨⟨G'.look (k := .inl 0) rfl h1, r⟩, G'.pop⟩
    · cases h
def SH (K : PySem.W.Frag) (r : List V → Hp → VK → Prop) (g : List D → Option Out) : Prop := ∀ M H xs ds o Q, Sub M H → RepHs K M H xs ds → g ds = some o → (OutOk K M H o Q → r xs H Q)
def eBI (g : List D → Option Out) (L : AF) : EF := bindL L fun cs Γ => match lookL Γ cs with
  | some ds => eOut (g ds) Γ
  | none => none
end
section
variable {X : Cx} {W : WX} {pos p : Pos} {x : Str} {e : Expr} {es : List Expr} {L : AF} {id T : String} {r : List V → Hp → VK → Prop} {g : List D → Option Out} {k : Nat}
theorem bi_core (hs : SH X.K r g) {σ : L2.St} {H : Hp} {Q : VK} (h : tE X.K W (eBI g L) σ H Q) : (tL X.K W L) σ H fun xs H1 => r xs H1 Q := by
  obtain ⟨f, M, τ, T, Γ, ra, Γ', G, hF, p⟩ := h
  refine runL G hF p fun cs Γ1 vs H1 M1 hl G1 e => ?_
  split at e
  · rename_i ds hd
    obtain ⟨o, ho, hk, rfl, rfl⟩ := eOut_some e
    obtain ⟨rs, G2⟩ := G1.lookL hl hd
    exact hs M1 H1 vs ds o Q G2.sub rs ho (G2.out (okNew_of hk) p)
  · cases e
theorem de_callB (hc : CallR X (.builtin id) r) (hs : SH X.K r g) (hm : X.mg x = none) (hv : bootBuiltins x = some (.builtin id)) (ha : DA X W (e :: es) L) (hg : Gl X x := by rfl) (hn : x ≠ "__name__" := by decide) (hdb : (x == ("__debug__" : Str)) = false := by decide)
    (he : starEach (e :: es) X.env = (false, eval e X.env) :: starEach es X.env := by rfl) (hpl : (backTo pos (starEach es X.env)).any (·.1) = false := by rfl) : DE X W (.Call (.Name x p) (e :: es) [] pos) (eBI g L) :=
  PEimp (pe_callB hc hg hm hv ha hn hdb he hpl) fun _ _ _ h => bi_core hs h
theorem de_callTy (hc : CallR X (.type T) r) (hs : SH X.K r g) (hm : X.mg x = none) (hv : bootBuiltins x = some (.type T)) (ha : DA X W (e :: es) L) (hg : Gl X x := by rfl) (hn : x ≠ "__name__" := by decide) (hdb : (x == ("__debug__" : Str)) = false := by decide)
    (he : starEach (e :: es) X.env = (false, eval e X.env) :: starEach es X.env := by rfl) (hpl : (backTo pos (starEach es X.env)).any (·.1) = false := by rfl) : DE X W (.Call (.Name x p) (e :: es) [] pos) (eBI g L) :=
  PEimp (pe_callTy hc hg hm hv ha hn hdb he hpl) fun _ _ _ h => bi_core hs h
theorem CallRor {f : Value} {r r' : List V → Hp → VK → Prop} (h : CallR X f r) (h' : CallR X f r') : CallR X f (fun xs H Q => r xs H Q ∨ r' xs H Q) := fun pins s σ H xs us Q I rv q => q.elim (h pins s σ H xs us Q I rv) (h' pins s σ H xs us Q I rv)
end

/-- len -/
def gLen : List D → Option Out
  | [.node .lst ds] => some (.old (.leaf (.int ds.length)))
  | [.node .tup ds] => some (.old (.leaf (.int ds.length)))
  | [.node .scr ds] => some (.old (.leaf (.int ds.length)))
  | [.node (.dk _) ds] => some (.old (.leaf (.int ds.length)))
  | [.leaf (.str z)] => if z.length ≤ 16777216 then some (.old (.leaf (.int z.length))) else none
  | _ => none
theorem call_lenDK {X : Cx} : CallR X (.builtin "len") (fun xs H Q => ∃ a kvs, xs = [.ref a] ∧ Rd H a (.dK kvs) ∧ Q (.int kvs.length) H) := by
  intro pins s σ H xs us Q I r h
  obtain ⟨a, kvs, rfl, hd, q⟩ := h
  obtain rfl := Vals.ref1 r
  exact d_len I hd fun t s' I' => ⟨.int kvs.length, H, I', ⟨t, rfl⟩, q⟩
theorem opLen {X : Cx} : CallR X (.builtin "len") (fun xs H Q => (∃ x n, xs = [x] ∧ LenV X.K x H n ∧ Q (.int n) H) ∨ ∃ a kvs, xs = [.ref a] ∧ Rd H a (.dK kvs) ∧ Q (.int kvs.length) H) := CallRor call_len call_lenDK
theorem shLen {K : PySem.W.Frag} : SH K (fun xs H Q => (∃ x n, xs = [x] ∧ LenV K x H n ∧ Q (.int n) H) ∨ ∃ a kvs, xs = [.ref a] ∧ Rd H a (.dK kvs) ∧ Q (.int kvs.length) H) gLen := by
  intro M H xs ds o Q s r h q
  unfold gLen at h
  split at h
  · cases h
    obtain ⟨x, rfl, a, ys, rfl, ho, rs⟩ := r.one
    exact .inl ⟨_, _, rfl, .inl ⟨ys, .of ho, rfl⟩, by rw [rs.length]; exact q _ (by unfold Rep; rfl)⟩
  · cases h
    obtain ⟨x, rfl, a, ys, rfl, ho, rs⟩ := r.one
    exact .inl ⟨_, _, rfl, .inr ⟨ys, ho, rfl⟩, by rw [rs.length]; exact q _ (by unfold Rep; rfl)⟩
  · cases h
    obtain ⟨x, rfl, a, ys, rfl, ho, rs⟩ := r.one
    exact .inl ⟨_, _, rfl, .inl ⟨ys, ho, rfl⟩, by rw [rs.length]; exact q _ (by unfold Rep; rfl)⟩
  · rename_i ks ds
    cases h
    obtain ⟨x, rfl, a, ys, rfl, ⟨hl, ho⟩, rs⟩ := r.one
    refine .inr ⟨a, _, rfl, ho, ?_⟩
    rw [List.length_zip, hl, Nat.min_self, rs.length]
    exact q _ (by unfold Rep; rfl)
  · rename_i z
    split at h
    · rename_i hz
      cases h
      obtain ⟨x, rfl, hx⟩ := r.one
      cases (show x = V.str z from hx)
      exact .inl ⟨_, _, rfl, ⟨by rw [sizeLine_eq]; exact hz, rfl⟩, q _ (by unfold Rep; rfl)⟩
    · cases h
  · cases h
/-- abs, min and max of two ints -/
def gAbs : List D → Option Out
  | [.leaf (.int i)] => some (.old (.leaf (.int (if i < 0 then -i else i))))
  | _ => none
theorem shAbs {K : PySem.W.Frag} : SH K (fun xs H Q => ∃ i, xs = [.int i] ∧ Q (.int (if i < 0 then -i else i)) H) gAbs := by
  intro M H xs ds o Q s r h q
  unfold gAbs at h
  split at h
  · rename_i i
    cases h
    obtain ⟨x, rfl, hx⟩ := r.one
    cases (show x = V.int i from hx)
    exact ⟨i, rfl, q _ (by unfold Rep; rfl)⟩
  · cases h
def gMin2 : List D → Option Out
  | [.leaf (.int i), .leaf (.int j)] => some (.old (.leaf (.int (if j < i then j else i))))
  | _ => none
def gMax2 : List D → Option Out
  | [.leaf (.int i), .leaf (.int j)] => some (.old (.leaf (.int (if j > i then j else i))))
  | _ => none
theorem shMin2 {K : PySem.W.Frag} : SH K (fun xs H Q => ∃ i j, xs = [.int i, .int j] ∧ Q (.int (if j < i then j else i)) H) gMin2 := by
  intro M H xs ds o Q s r h q
  unfold gMin2 at h
  split at h
  · rename_i i j
    cases h
    obtain ⟨x, y, rfl, hx, hy⟩ := r.two
    cases (show x = V.int i from hx)
    cases (show y = V.int j from hy)
    exact ⟨i, j, rfl, q _ (by unfold Rep; rfl)⟩
  · cases h
/-- list(x), tuple(a list) -/
def gList : List D → Option Out
  | [.node .lst ds] => some (.new .lst ds)
  | [.node .tup ds] => some (.new .lst ds)
  | [.node .scr ds] => some (.new .lst ds)
  | _ => none
theorem shList {K : PySem.W.Frag} : SH K (fun xs H Q => ∃ p ys, xs = [.ref p] ∧ (SqL K H p ys ∨ SqT K H p ys) ∧ ∀ l, H l = none → Q (.ref l) (upd H l (.lst ys))) gList := by
  intro M H xs ds o Q s r h q
  unfold gList at h
  split at h
  · cases h
    obtain ⟨x, rfl, a, ys, rfl, ho, rs⟩ := r.one
    exact ⟨a, ys, rfl, .inl (.of ho), fun l hl => q.2 l ys hl rs⟩
  · cases h
    obtain ⟨x, rfl, a, ys, rfl, ho, rs⟩ := r.one
    exact ⟨a, ys, rfl, .inr ho, fun l hl => q.2 l ys hl rs⟩
  · cases h
    obtain ⟨x, rfl, a, ys, rfl, ho, rs⟩ := r.one
    exact ⟨a, ys, rfl, .inl ho, fun l hl => q.2 l ys hl rs⟩
  · cases h
def gTuple : List D → Option Out
  | [.node .lst ds] => some (.new .tup ds)
  | [.node .scr ds] => some (.new .tup ds)
  | _ => none
theorem shTuple {K : PySem.W.Frag} : SH K (fun xs H Q => ∃ p ys, xs = [.ref p] ∧ ((SqL K H p ys ∧ ∀ l, H l = none → Q (.ref l) (upd H l (.tup ys))) ∨ (SqT K H p ys ∧ Q (.ref p) H))) gTuple := by
  intro M H xs ds o Q s r h q
  unfold gTuple at h
  split at h
  · cases h
    obtain ⟨x, rfl, a, ys, rfl, ho, rs⟩ := r.one
    exact ⟨a, ys, rfl, .inl ⟨.of ho, fun l hl => q.2 l ys hl rs⟩⟩
  · cases h
    obtain ⟨x, rfl, a, ys, rfl, ho, rs⟩ := r.one
    exact ⟨a, ys, rfl, .inl ⟨ho, fun l hl => q.2 l ys hl rs⟩⟩
  · cases h
/-- sum, max, min of a list of ints; all, any of a list of bools -/
def intsOf : List D → Option (List Int)
  | [] => some []
  | .leaf (.int i) :: ds => (intsOf ds).map (i :: ·)
  | _ :: _ => none
theorem intsOf_reps {K : PySem.W.Frag} {M : Hp} : ∀ {ds : List D} {ns : List Int} {xs : List V}, intsOf ds = some ns → Reps K M xs ds → xs = ns.map V.int
  | [], ns, xs, h, r => by cases h; exact r.nil_of
  | .leaf (.int i) :: ds, ns, xs, h, r => by
    obtain ⟨x, ys, rfl, r1, r2⟩ := r.cons_of
    unfold intsOf at h
    cases hd : intsOf ds with
    | none => rw [hd] at h; cases h
    | some ms =>
      rw [hd] at h
      cases h
      unfold Rep at r1
      rw [r1, intsOf_reps hd r2]
      rfl
  | .leaf .non :: _, _, _, h, _ => by cases h
  | .leaf (.bl _) :: _, _, _, h, _ => by cases h
  | .leaf (.str _) :: _, _, _, h, _ => by cases h
  | .leaf (.byt _) :: _, _, _, h, _ => by cases h
  | .leaf (.flt _) :: _, _, _, h, _ => by cases h
  | .leaf (.ref _) :: _, _, _, h, _ => by cases h
  | .leaf (.ty _) :: _, _, _, h, _ => by cases h
  | .node _ _ :: _, _, _, h, _ => by cases h
def blsOf : List D → Option (List Bool)
  | [] => some []
  | .leaf (.bl b) :: ds => (blsOf ds).map (b :: ·)
  | _ :: _ => none
theorem blsOf_reps {K : PySem.W.Frag} {M : Hp} : ∀ {ds : List D} {ns : List Bool} {xs : List V}, blsOf ds = some ns → Reps K M xs ds → xs = ns.map V.bl
  | [], ns, xs, h, r => by cases h; exact r.nil_of
  | .leaf (.bl i) :: ds, ns, xs, h, r => by
    obtain ⟨x, ys, rfl, r1, r2⟩ := r.cons_of
    unfold blsOf at h
    cases hd : blsOf ds with
    | none => rw [hd] at h; cases h
    | some ms =>
      rw [hd] at h
      cases h
      unfold Rep at r1
      rw [r1, blsOf_reps hd r2]
      rfl
  | .leaf .non :: _, _, _, h, _ => by cases h
  | .leaf (.int _) :: _, _, _, h, _ => by cases h
  | .leaf (.str _) :: _, _, _, h, _ => by cases h
  | .leaf (.byt _) :: _, _, _, h, _ => by cases h
  | .leaf (.flt _) :: _, _, _, h, _ => by cases h
  | .leaf (.ref _) :: _, _, _, h, _ => by cases h
  | .leaf (.ty _) :: _, _, _, h, _ => by cases h
  | .node _ _ :: _, _, _, h, _ => by cases h
def gSum : List D → Option Out
  | [.node .lst ds] => (intsOf ds).map fun ns => .old (.leaf (.int ns.sum))
  | _ => none
theorem shSum {K : PySem.W.Frag} : SH K (rSum K) gSum := by
  intro M H xs ds o Q s r h q
  unfold gSum at h
  split at h
  · rename_i ds
    obtain ⟨x, rfl, a, ys, rfl, ho, rs⟩ := r.one
    cases hd : intsOf ds with
    | none => rw [hd] at h; cases h
    | some ns =>
      rw [hd] at h
      cases h
      obtain rfl := intsOf_reps hd rs
      exact ⟨a, ns, rfl, .of ho, q _ (by unfold Rep; rfl)⟩
  · cases h
def gAll : List D → Option Out
  | [.node .lst ds] => (blsOf ds).map fun bs => .old (.leaf (.bl (bs.all id)))
  | _ => none
theorem shAll {K : PySem.W.Frag} : SH K (rAll K) gAll := by
  intro M H xs ds o Q s r h q
  unfold gAll at h
  split at h
  · rename_i ds
    obtain ⟨x, rfl, a, ys, rfl, ho, rs⟩ := r.one
    cases hd : blsOf ds with
    | none => rw [hd] at h; cases h
    | some ns =>
      rw [hd] at h
      cases h
      obtain rfl := blsOf_reps hd rs
      exact ⟨a, ns, rfl, .of ho, q _ (by unfold Rep; rfl)⟩
  · cases h
/-- repr of data -/
def reprOk (p : PyData) : Bool := p.showable && decide (p.shown.length ≤ 16777216) && decide (p.depth ≤ 50) && !p.hasDict
theorem repr_call {X : Cx} {k : Nat} (hr : RoomG k X.A) : CallR X (.builtin "repr") (fun xs H Q => ∃ x p, xs = [x] ∧ Dp X.K H x p ∧ reprOk p = true ∧ Q (.str p.shown) H) := by
  intro pins s σ H xs us Q I rv h
  obtain ⟨x, p, rfl, hd, hok, q⟩ := h
  obtain ⟨u, rfl, r⟩ := vals1 rv
  unfold reprOk at hok
  simp only [Bool.and_eq_true, decide_eq_true_eq, Bool.not_eq_true'] at hok
  obtain ⟨⟨⟨h1, h2⟩, h3⟩, h4⟩ := hok
  have h2' : p.shown.length ≤ sizeLine := by rw [sizeLine_eq]; exact h2
  have hu := hr.room.un
  obtain ⟨as, hreads⟩ := Dp.reads I p x u hd r
  have disp : ∀ {a : Addr}, Reads s.heap (.ref a) p as → wpAny (model X.prog X.w) X.A (call (.builtin "repr") [.ref a]) (EP X pins σ Q) X.xe s := fun {a} hreads =>
    repr_of_reads' hreads h1 (PyData.noDict_hsm h4) hr.gd (by omega) (fun _ _ e => e) (fun h' t tk hk => ⟨.str p.shown, H, I.kept hk, ⟨_, rfl⟩, q⟩) h2'
  cases hd with
  | non =>
    cases r
    exact PySem.P.repr_of_none ⟨.str _, H, I.tok _, ⟨_, rfl⟩, by unfold PyData.shown at q; exact q⟩
  | bl b =>
    cases r
    exact PySem.P.repr_of_bool ⟨.str _, H, I.tok _, ⟨_, rfl⟩, by unfold PyData.shown at q; exact q⟩
  | int i =>
    obtain ⟨t, rfl⟩ := r
    unfold PyData.showable at h1
    exact PySem.P.repr_of_int (of_decide_eq_true h1) ⟨.str _, H, I.tok _, ⟨_, rfl⟩, by unfold PyData.shown at q; exact q⟩
  | str z =>
    obtain ⟨t, rfl⟩ := r
    unfold PyData.shown at h2'
    exact PySem.P.repr_of_str (hsz := h2') ⟨.str _, H, I.tok _, ⟨_, rfl⟩, by unfold PyData.shown at q; exact q⟩
  | lst hs ha => cases r; exact disp hreads
  | tup hs ha => cases r; exact disp hreads
/-- repr of the empty dict -/
theorem repr_call0 {X : Cx} {k : Nat} (hr : RoomG k X.A) : CallR X (.builtin "repr") (fun xs H Q => ∃ a, xs = [.ref a] ∧ Rd H a (.dK []) ∧ Q (.str "{}") H) := by
  intro pins s σ H xs us Q I rv h
  obtain ⟨a, rfl, hd, q⟩ := h
  obtain ⟨u, rfl, r⟩ := vals1 rv
  cases r
  obtain ⟨_, hsm, vs, kv, o, es, ep, ho, hx, hdt, hk, hp, _⟩ := dk_rd I.hok hd
  have hu := hr.room.un
  cases kv
  generalize hes : es.toList = l at hp
  cases hp
  have hes' : es = #[] := Array.toList_eq_nil_iff.mp hes
  subst hes'
  have rd : Reads s.heap (.ref a) (.dict []) [a] := Reads.dict (as := []) (bs := []) ho hx.1 hdt .nil .nil
  exact repr_of_reads' rd rfl (fun _ hm => by
      have : sysModules = a := by simpa using hm
      rw [this, beq_self_eq_true] at hsm
      cases hsm) hr.gd (by show X.A.units + (PyData.depth (.dict []) + 1) < cLine; have : PyData.depth (.dict []) ≤ 1 := by decide
                           omega) (fun _ _ e => e) (fun h' t tk hk => ⟨.str (PyData.shown (.dict [])), H, I.kept hk, ⟨_, rfl⟩, q⟩) (by decide)
theorem repr_call' {X : Cx} {k : Nat} (hr : RoomG k X.A) : CallR X (.builtin "repr") (fun xs H Q => (∃ x p, xs = [x] ∧ Dp X.K H x p ∧ reprOk p = true ∧ Q (.str p.shown) H) ∨ ∃ a, xs = [.ref a] ∧ Rd H a (.dK []) ∧ Q (.str "{}") H) := CallRor (repr_call hr) (repr_call0 hr)
def gRepr : List D → Option Out
  | [.node (.dk []) []] => some (.old (.leaf (.str "{}")))
  | [d] => match toP d with
    | some p => if reprOk p then some (.old (.leaf (.str p.shown))) else none
    | none => none
  | _ => none
theorem shRepr {K : PySem.W.Frag} : SH K (fun xs H Q => (∃ x p, xs = [x] ∧ Dp K H x p ∧ reprOk p = true ∧ Q (.str p.shown) H) ∨ ∃ a, xs = [.ref a] ∧ Rd H a (.dK []) ∧ Q (.str "{}") H) gRepr := by
  intro M H xs ds o Q s r h q
  unfold gRepr at h
  split at h
  · cases h
    obtain ⟨x, rfl, hx⟩ := r.one
    obtain ⟨a, ys, rfl, h3, rs⟩ := hx
    have e0 : ys = [] := List.length_eq_zero_iff.mp rs.length
    subst e0
    exact .inr ⟨a, rfl, h3.2, q _ (by unfold Rep; rfl)⟩
  · rename_i d hne
    split at h
    · rename_i p hp
      split at h
      · rename_i hok
        cases h
        obtain ⟨x, rfl, hx⟩ := r.one
        exact .inl ⟨x, p, rfl, dp_of d x p (hx.full s) hp, hok, q _ (by unfold Rep; rfl)⟩
      · cases h
    · cases h
  · cases h
theorem gRepr_of {d : D} {p : PyData} (h : toP d = some p) (hok : reprOk p = true) : gRepr [d] = some (.old (.leaf (.str p.shown))) := by
  unfold gRepr
  split
  · rename_i heq
    cases heq
    exact nomatch h
  · rename_i d' hne heq
    cases heq
    rw [h]
    dsimp only
    rw [if_pos hok]
  · rename_i h1 h2
    exact (h2 d rfl).elim
/-- isinstance(x, T), T a built-in class -/
def tyName : D → Option String
  | .leaf .non => some "NoneType"
  | .leaf (.bl _) => some "bool"
  | .leaf (.int _) => some "int"
  | .leaf (.str _) => some "str"
  | .node .lst _ => some "list"
  | .node .tup _ => some "tuple"
  | .node (.dk _) _ => some "dict"
  | _ => none
def gIsi : List D → Option Out
  | [d, .leaf (.ty n)] => match tyName d with
    | some m => (kitB m n).map fun b => .old (.leaf (.bl b))
    | none => none
  | _ => none
theorem tyX_of {K : PySem.W.Frag} {M H : Hp} {x : V} {d : D} {m : String} (r : RepH K M H x d) (h : tyName d = some m) : TyX K H x (.type m) := by
  unfold tyName at h
  split at h
  · cases h; cases (show x = V.non from r); exact .base .non
  · rename_i b; cases h; cases (show x = V.bl b from r); exact .base (.bl b)
  · rename_i i; cases h; cases (show x = V.int i from r); exact .base (.int i)
  · rename_i z; cases h; cases (show x = V.str z from r); exact .base (.str z)
  · cases h
    obtain ⟨a, xs, rfl, ho, _⟩ := r
    exact .base (.lst ho)
  · cases h
    obtain ⟨a, xs, rfl, ho, _⟩ := r
    rcases ho with (ho | ⟨o, ho⟩) | ⟨o, its, n, hk, hc, _⟩
    · exact .base (.tup ho)
    · exact .fTuple ho
    · exact .kTuple hk hc
  · cases h
    obtain ⟨a, xs, rfl, ⟨_, ho⟩, _⟩ := r
    rcases ho with ho | ⟨o, ho⟩
    · exact .base (.dK ho)
    · exact .fDict ho
  · cases h
theorem shIsi {K : PySem.W.Frag} : SH K (rIsi K) gIsi := by
  intro M H xs ds o Q s r h q
  unfold gIsi at h
  split at h
  · rename_i d n
    split at h
    · rename_i m hm
      cases hk : kitB m n with
      | none => rw [hk] at h; cases h
      | some b =>
        rw [hk] at h
        cases h
        obtain ⟨x, y, rfl, hx, hy⟩ := r.two
        cases (show y = V.ty n from hy)
        exact ⟨x, .ty n, _, _, b, rfl, .ty n, tyX_of hx hm, kit_ty hk, q _ (by unfold Rep; rfl)⟩
    · cases h
  · cases h

end DL

set_option Elab.async false
set_option linter.all false
set_option maxRecDepth 100000
set_option maxHeartbeats 1000000
/-! changes of owned objects; comprehensions; dicts made -/
namespace DL
open PySem PySem.Spec PyProof.Rows L2

section
variable {K : PySem.W.Frag} {f : Frm} {M M' H H' : Hp} {τ : List V} {T : List Cell} {σ σ' : L2.St} {Γ Γ' : Gam} {v : V} {c : Cell} {a : Addr} {t t' : Tag} {ds ds' : List D} {o : HO} {xs' : List V}
/-- the object that slot i owns -/
def slotO (Γ : Gam) (i : Nat) : Option (Tag × List D) := match Γ[i]? with
  | some (some (.ow t ds)) => some (t, ds)
  | some (some (.rf t ds)) => some (t, ds)
  | _ => none
/-- .. told anew -/
def slotP (Γ : Gam) (i : Nat) (t : Tag) (ds : List D) : Option Gam := match Γ[i]? with
  | some (some (.ow _ _)) => some (Γ.set i (some (.ow t ds)))
  | some (some (.rf _ _)) => some (Γ.set i (some (.rf t ds)))
  | _ => none
theorem Good.slotO {i : Nat} (G : Good K f M H τ T σ Γ) (h : slotO Γ i = some (t, ds)) : ∃ a xs, σ[i]? = some (some (.ref a)) ∧ Own H a t xs ∧ Reps K M xs ds ∧ M a = none ∧ f.B a = none := by
  unfold DL.slotO at h
  split at h
  · rename_i t1 ds1 hg
    cases h
    obtain ⟨v, hv⟩ := G.has i _ hg
    obtain ⟨a, xs, rfl, h1, h2, h3, h4⟩ := G.ok (.inr i) v _ (ent_slot.mpr ⟨hv, hg⟩)
    exact ⟨a, xs, hv, h1, h2, h3, h4⟩
  · rename_i t1 ds1 hg
    cases h
    obtain ⟨v, hv⟩ := G.has i _ hg
    obtain ⟨a, xs, rfl, h1, h2, h3, h4⟩ := G.ok (.inr i) v _ (ent_slot.mpr ⟨hv, hg⟩)
    exact ⟨a, xs, hv, h1, h2, h3, h4⟩
  · cases h
/-- the object at a, which slot i owns, is changed -/
theorem Good.put {i : Nat} (G : Good K f M H τ T σ Γ) (h : DL.slotO Γ i = some (t, ds)) (hs : σ[i]? = some (some (.ref a))) (ho : Own (upd H a o) a t' xs') (r : Reps K M xs' ds') (hp : slotP Γ i t' ds' = some Γ') : Good K f M (upd H a o) τ T σ Γ' := by
  obtain ⟨a1, xs, hs1, h1, h2, h3, h4⟩ := G.slotO h
  rw [hs] at hs1; cases hs1
  have ne : ∀ k v c, k ≠ .inr i → ent τ T σ Γ k = some (v, c) → ¬ own H v c a := fun k v c hk q e => by
    unfold DL.slotO at h
    split at h
    · rename_i t1 ds1 hg
      exact hk (G.inj k (.inr i) v c _ _ a q (ent_slot.mpr ⟨hs, hg⟩) e rfl)
    · rename_i t1 ds1 hg
      exact hk (G.inj k (.inr i) v c _ _ a q (ent_slot.mpr ⟨hs, hg⟩) e rfl)
    · cases h
  have stp : ∀ k u e, k ≠ .inr i → ent τ T σ Γ k = some (u, e) → COk K f M (upd H a o) σ u e ∧ ∀ b, own (upd H a o) u e b ↔ own H u e b := fun k u e hk q => by
    refine (G.ok k u e q).step (Sub.refl M) fun b r => ?_
    have hb : b ≠ a := fun z => ne k u e hk q (by rw [← z]; exact r)
    obtain ⟨_, _, _, m, _⟩ := (G.ok k u e q).own_ok r
    exact ⟨upd_ne hb, m⟩
  have main : ∀ c0 c1 : Cell, Γ[i]? = some (some c0) → OwnOk K f M (upd H a o) (.ref a) t' ds' → (c1 = .ow t' ds' ∧ (∃ t ds, c0 = .ow t ds) ∨ c1 = .rf t' ds' ∧ ∃ t ds, c0 = .rf t ds) → Good K f M (upd H a o) τ T σ (Γ.set i (some c1)) := fun c0 c1 hg ok hc => by
    have hl := lt_of_get hg
    have cs : ∀ k u e, ent τ T σ (Γ.set i (some c1)) k = some (u, e) → (k = .inr i ∧ u = .ref a ∧ e = c1) ∨ (k ≠ .inr i ∧ ent τ T σ Γ k = some (u, e)) := fun k u e q => by
      by_cases hk : k = .inr i
      · subst hk
        rw [ent_setG_self hs hl] at q; cases q
        exact .inl ⟨rfl, rfl, rfl⟩
      · rw [ent_setG hk] at q
        exact .inr ⟨hk, q⟩
    refine ⟨G.bys.right h4, G.sub.right h3, G.m0, G.new, G.tl, by rw [List.length_set]; exact G.sl, fun j e q => ?_, fun k u e q => ?_, fun k k' u e u' e' b q q' r r' => ?_, fun j k q => ?_, fun j t ds q => ?_, G.tabs.upd fun u e => by obtain ⟨u', e1, e2⟩ := h1.notT; rw [e1] at e; cases e; exact e2⟩
    · by_cases hj : i = j
      · subst hj; exact ⟨_, hs⟩
      · rw [List.getElem?_set_ne hj] at q; exact G.has j e q
    · rcases cs k u e q with ⟨_, rfl, rfl⟩ | ⟨hk, q⟩
      · rcases hc with ⟨rfl, _⟩ | ⟨rfl, _⟩
        · exact ok
        · exact ok
      · exact (stp k u e hk q).1
    · rcases cs k u e q with ⟨k1, u1, e1⟩ | ⟨hk, q2⟩
      · rcases cs k' u' e' q' with ⟨k1', u1', e1'⟩ | ⟨hk', q2'⟩
        · rw [k1, k1']
        · have hb : b = a := by
            rw [u1, e1] at r
            rcases hc with ⟨hc, _⟩ | ⟨hc, _⟩
            · rw [hc] at r; have r2 : V.ref a = V.ref b := r; injection r2 with r2; exact r2.symm
            · rw [hc] at r; have r2 : V.ref a = V.ref b := r; injection r2 with r2; exact r2.symm
          exact (ne k' u' e' hk' q2' (by rw [← hb]; exact ((stp k' u' e' hk' q2').2 b).mp r')).elim
      · rcases cs k' u' e' q' with ⟨k1', u1', e1'⟩ | ⟨hk', q2'⟩
        · have hb : b = a := by
            rw [u1', e1'] at r'
            rcases hc with ⟨hc, _⟩ | ⟨hc, _⟩
            · rw [hc] at r'; have r2 : V.ref a = V.ref b := r'; injection r2 with r2; exact r2.symm
            · rw [hc] at r'; have r2 : V.ref a = V.ref b := r'; injection r2 with r2; exact r2.symm
          exact (ne k u e hk q2 (by rw [← hb]; exact ((stp k u e hk q2).2 b).mp r)).elim
        · exact G.inj _ _ _ _ _ _ b q2 q2' (((stp k u e hk q2).2 b).mp r) (((stp k' u' e' hk' q2').2 b).mp r')
    · by_cases hj : i = j
      · subst hj
        rw [List.getElem?_set_self hl] at q
        rcases hc with ⟨rfl, _⟩ | ⟨rfl, _⟩
        · cases q
        · cases q
      · rw [List.getElem?_set_ne hj] at q; exact G.nbr j k q
    · by_cases hj : i = j
      · subst hj
        rw [List.getElem?_set_self hl] at q
        rcases hc with ⟨rfl, _⟩ | ⟨rfl, t0, ds0, rfl⟩
        · cases q
        · exact G.args i t0 ds0 hg
      · rw [List.getElem?_set_ne hj] at q; exact G.args j t ds q
  have ok : OwnOk K f M (upd H a o) (.ref a) t' ds' := ⟨a, xs', rfl, ho, r, h3, h4⟩
  unfold slotP at hp
  split at hp
  · rename_i t1 ds1 hg
    cases hp
    exact main _ _ hg ok (.inl ⟨rfl, t1, ds1, rfl⟩)
  · rename_i t1 ds1 hg
    cases hp
    exact main _ _ hg ok (.inr ⟨rfl, t1, ds1, rfl⟩)
  · cases hp
/-- the first pending value's own object is changed -/
theorem Good.putT (G : Good K f M H (.ref a :: τ) (.ow t ds :: T) σ Γ) (ho : Own (upd H a o) a t' xs') (r : Reps K M xs' ds') : Good K f M (upd H a o) (.ref a :: τ) (.ow t' ds' :: T) σ Γ := by
  obtain ⟨a1, xs, e, h1, h2, h3, h4⟩ := G.ok (.inl 0) _ _ rfl
  cases e
  have ne : ∀ k v c, ent τ T σ Γ k = some (v, c) → ¬ own H v c a := fun k v c q e => by
    match k with
    | .inl j => have z := G.inj (.inl 0) (.inl (j + 1)) _ _ v c a rfl q rfl e; cases z
    | .inr j => have z := G.inj (.inl 0) (.inr j) _ _ v c a rfl q rfl e; cases z
  refine (G.pop.lay h3 h4 (fun u e => by obtain ⟨u', e1, e2⟩ := h1.notT; rw [e1] at e; cases e; exact e2) ne o).push ⟨a, xs', rfl, ho, r, h3, h4⟩ fun b e k v' c' q => ?_
  have e' : a = b := by
    have e2 : V.ref a = V.ref b := e
    injection e2
  rw [← e']
  exact fun z => ne k v' c' q ((G.pop.layOwn ne o k v' c' a q).mp z)
end

/-! ### methods that change their receiver -/
def tagTy : Tag → String
  | .lst => "list"
  | .dk _ => "dict"
  | .dt _ => "dict"
  | .tup => "tuple"
  | .scr => "-"
  | .ins _ _ => "-"
  | .exc _ _ => "-"
theorem tyV_own {K : PySem.W.Frag} {H : Hp} {a : Addr} {t : Tag} {xs : List V} {tn : String} (h : Own H a t xs) (e : tagTy t = tn) (n : tn ≠ "-") : tyV K tn (.ref a) H := by
  cases t with
  | lst => exact .inl ⟨e.symm, xs, .of h⟩
  | tup => exact h.elim
  | scr => exact h.elim
  | dk ks => exact .inr (.inr (.inl ⟨e.symm, .inl ⟨_, h.2⟩⟩))
  | dt ks => exact .inr (.inr (.inl ⟨e.symm, .inr ⟨_, h.2⟩⟩))
  | ins C ns => exact (n e.symm).elim
  | exc C ns => exact h.elim
/-- by values: the receiver's kind and items, the arguments; the answer, the items behind it -/
def SM (K : PySem.W.Frag) (r : V → List V → Hp → VK → Prop) (g : Tag → List D → List D → Option (D × Tag × List D)) : Prop :=
  ∀ M H a t xs ds vs es d t' ds' Q, Sub M H → Own H a t xs → Reps K M xs ds → RepHs K M H vs es → Reps K M vs es → g t ds es = some (d, t', ds') →
    (∀ v xs' o, Rep K M v d → Reps K M xs' ds' → (∀ H', H' a = some o → Own H' a t' xs') → Q v (upd H a o)) → r (.ref a) vs H Q
def eMut (i : Nat) (tn : String) (g : Tag → List D → List D → Option (D × Tag × List D)) (L : AF) : EF := fun Γ => match slotO Γ i with
  | some (t0, _) => if tagTy t0 = tn ∧ tn ≠ "-" then bindL L (fun cs Γ1 => match shs cs, slotO Γ1 i with
    | some es, some (t, ds) => (match g t ds es with
      | some (d, t', ds') => (match slotP Γ1 i t' ds' with
        | some Γ2 => some (.val (.sh d), Γ2)
        | none => none)
      | none => none)
    | _, _ => none) Γ else none
  | none => none
theorem repHs_of {K : PySem.W.Frag} {M H : Hp} (s : Sub M H) : ∀ {vs : List V} {ds : List D}, Reps K M vs ds → RepHs K M H vs ds
  | [], [], _ => trivial
  | [], _ :: _, r => by unfold Reps at r; exact r.elim
  | _ :: _, [], r => by unfold Reps at r; exact r.elim
  | _ :: _, _ :: _, r => ⟨Rep.toH s r.of_cons.1, repHs_of s r.of_cons.2⟩
section
variable {X : Cx} {W : WX} {o e : Expr} {es : List Expr} {L : AF} {name x : Str} {apos cpos opos : Pos} {tn id : String} {r : V → List V → Hp → VK → Prop} {g : Tag → List D → List D → Option (D × Tag × List D)}
theorem mut_core {i : Nat} (hs : SM X.K r g) {σ : L2.St} {H : Hp} {Q : VK} (h : tE X.K W (eMut i tn g L) σ H Q) : tBM X.K tn r (tVar i) (tL X.K W L) σ H Q := by
  obtain ⟨f, M, τ, T, Γ, ra, Γ', G, hF, p⟩ := h
  unfold eMut at hF
  split at hF
  · rename_i t0 ds0 ho
    split at hF
    · rename_i ht
      obtain ⟨a, xs0, hσ, hown, _⟩ := G.slotO ho
      refine ⟨.ref a, hσ, tyV_own hown ht.1 ht.2, runL G hF p fun cs Γ1 vs H1 M1 hl G1 e1 => ?_⟩
      split at e1
      · rename_i es' t1 ds1 hes hso
        split at e1
        · rename_i d t' ds' hg
          split at e1
          · rename_i Γ2 hp
            cases e1
            obtain ⟨rs, G2⟩ := G1.shs hl hes
            obtain ⟨a1, xs1, hσ1, hown1, hr1, _⟩ := G2.slotO hso
            rw [hσ] at hσ1; cases hσ1
            refine hs M1 H1 a t1 xs1 ds1 vs es' d t' ds' Q G2.sub hown1 hr1 (repHs_of G2.sub rs) rs hg fun v xs' o hv hx hw => ?_
            have G3 := G2.put hso hσ (hw (upd H1 a o) (by rw [upd_same])) hx hp
            exact p v _ M1 (G3.pushSh hv)
          · cases e1
        · cases e1
      · cases e1
    · cases hF
  · cases hF
theorem de_mut (i : Nat) (pa : PlainAttrs tn) (slot : Slot tn name id) (hty : typeOf (.builtin id) = pure (.type "method_descriptor")) (hm : MtR X id r) (hs : SM X.K r g) (ha : DA X W (e :: es) L) (hN : X.N[i]? = some x := by rfl)
    (hv : Vis X.env.scope x := by first | exact Or.inl rfl | exact Or.inr (Or.inl rfl) | exact Or.inr (Or.inr rfl)) (hd : (x == ("__debug__" : Str)) = false := by decide) (hcd : (x == ("__classdict__" : Str)) = false := by decide)
    (hbase : attributeBase (.Name x opos) name X.env (eval (.Name x opos) X.env) = eval (.Name x opos) X.env := by rfl)
    (hfew : ((backTo cpos (starEach (e :: es) X.env)).all (fun x => !x.1) && (backToKw cpos (keywordEach [] X.env)).all (fun x => x.1.isSome)
      && decide ((e :: es).length + ([] : List Keyword).length + (if ([] : List Keyword).isEmpty then 0 else 1) < 30)) = true := by rfl)
    (hline : (apos.endLine == cpos.line) = true := by rfl) (hst : starEach (e :: es) X.env = (false, eval e X.env) :: starEach es X.env := by rfl) (hplain : (backTo cpos (starEach es X.env)).any (·.1) = false := by rfl) :
    DE X W (.Call (.Attribute (.Name x opos) name apos) (e :: es) [] cpos) (eMut i tn g L) :=
  PEimp (pe_bm pa slot hty hm (pe_var hN hv hd hcd) ha hbase hfew hline hst hplain) fun _ _ _ h => mut_core hs h
end
/-- xs.append(e) -/
def gAppend : Tag → List D → List D → Option (D × Tag × List D)
  | .lst, ds, [d] => if ds.length < 16777216 then some (.leaf .non, .lst, ds ++ [d]) else none
  | _, _, _ => none
theorem smAppend {K : PySem.W.Frag} : SM K rAppend gAppend := by
  intro M H a t xs ds vs es d t' ds' Q s own r rh rv hg q
  unfold gAppend at hg
  split at hg
  · rename_i e
    split at hg
    · rename_i hl
      cases hg
      obtain ⟨x, ys, rfl, r1, r2⟩ := rv.cons_of
      rw [r2.nil_of]
      exact ⟨a, xs, x, rfl, rfl, own, by rw [r.length, sizeLine_eq]; exact hl, q _ (xs ++ [x]) (.lst (xs ++ [x])) (by unfold Rep; rfl) (r.append (.cons r1 .nil)) fun H' e => e⟩
    · cases hg
  · cases hg
/-- xs.pop(i), xs.pop() -/
def gPopAt : Tag → List D → List D → Option (D × Tag × List D)
  | .lst, ds, [.leaf (.int i)] => if -9223372036854775808 ≤ i ∧ i < 9223372036854775808 then (match seqIndex? i ds.length with
    | some k => (match ds[k]? with
      | some d => some (d, .lst, ds.eraseIdx k)
      | none => none)
    | none => none) else none
  | _, _, _ => none
theorem smPopAt {K : PySem.W.Frag} : SM K rPopAt gPopAt := by
  intro M H a t xs ds vs es d t' ds' Q s own r rh rv hg q
  unfold gPopAt at hg
  split at hg
  · rename_i i
    split at hg
    · rename_i hi
      split at hg
      · rename_i k hk
        split at hg
        · rename_i d0 hd
          cases hg
          obtain ⟨x, ex, rx⟩ := r.get hd
          exact ⟨a, xs, i, k, x, rfl, rv.one, own, hi.1, hi.2, by rw [r.length]; exact hk, ex, q x (xs.eraseIdx k) (.lst (xs.eraseIdx k)) rx (r.eraseIdx k) fun H' e => e⟩
        · cases hg
      · cases hg
    · cases hg
  · cases hg
/-! ### x[k] = e -/
section
def putL {κ α : Type} [DecidableEq κ] (k : κ) (v : α) : List κ → List α → List α
  | k' :: ks, x :: xs => (if k' = k then v else x) :: putL k v ks xs
  | _, _ => []
/-- keys and items behind d[k] = v -/
def putK2 {κ α : Type} [DecidableEq κ] (k : κ) (v : α) (ks : List κ) (xs : List α) : List κ × List α := if ks.contains k then (ks, putL k v ks xs) else (ks ++ [k], xs ++ [v])
theorem putL_len {κ α : Type} [DecidableEq κ] {k : κ} {v : α} : ∀ {ks : List κ} {xs : List α}, ks.length = xs.length → (putL k v ks xs).length = xs.length
  | [], [], _ => rfl
  | [], _ :: _, h => by cases h
  | _ :: _, [], h => by cases h
  | _ :: ks, _ :: xs, h => by
    unfold putL
    rw [List.length_cons, List.length_cons, putL_len (by simpa using h)]
theorem putL_zip {κ α : Type} [DecidableEq κ] {k : κ} {v : α} : ∀ {ks : List κ} {xs : List α}, ks.length = xs.length → (ks.zip xs).map (fun kv => if kv.1 = k then (kv.1, v) else kv) = ks.zip (putL k v ks xs)
  | [], [], _ => rfl
  | [], _ :: _, h => by cases h
  | _ :: _, [], h => by cases h
  | k' :: ks, x :: xs, h => by
    unfold putL
    rw [List.zip_cons_cons, List.map_cons, List.zip_cons_cons, putL_zip (by simpa using h)]
    by_cases hk : k' = k
    · rw [if_pos hk, if_pos hk]
    · rw [if_neg hk, if_neg hk]
theorem any_zip {κ α : Type} [DecidableEq κ] {k : κ} : ∀ {ks : List κ} {xs : List α}, ks.length = xs.length → ((ks.zip xs).any fun kv => decide (kv.1 = k)) = ks.contains k
  | [], [], _ => rfl
  | [], _ :: _, h => by cases h
  | _ :: _, [], h => by cases h
  | k' :: ks, x :: xs, h => by
    rw [List.zip_cons_cons, List.any_cons, List.contains_cons, any_zip (by simpa using h)]
    congr 1
    by_cases hk : k' = k
    · subst hk; simp
    · have : ¬ k = k' := fun z => hk z.symm
      simp [hk, this]
theorem putK_zip {κ : Type} [DecidableEq κ] {k : κ} {v : V} {ks : List κ} {xs : List V} (h : ks.length = xs.length) : putK (ks.zip xs) k v = (putK2 k v ks xs).1.zip (putK2 k v ks xs).2 := by
  unfold putK putK2
  rw [any_zip h]
  cases hc : ks.contains k with
  | true =>
    rw [if_pos rfl, if_pos rfl]
    exact putL_zip h
  | false =>
    rw [if_neg (by decide), if_neg (by decide)]
    show ks.zip xs ++ [(k, v)] = (ks ++ [k]).zip (xs ++ [v])
    rw [List.zip_append h]
    rfl
theorem putK2_reps {K : PySem.W.Frag} {M : Hp} {κ : Type} [DecidableEq κ] {k : κ} {v : V} {d : D} {ks : List κ} {xs : List V} {ds : List D} (h : ks.length = xs.length) (r : Reps K M xs ds) (rv : Rep K M v d) :
    (putK2 k v ks xs).1 = (putK2 k d ks ds).1 ∧ Reps K M (putK2 k v ks xs).2 (putK2 k d ks ds).2 ∧ (putK2 k v ks xs).1.length = (putK2 k v ks xs).2.length := by
  unfold putK2
  cases hc : ks.contains k with
  | true =>
    rw [if_pos rfl, if_pos rfl]
    refine ⟨rfl, ?_, (putL_len h).symm ▸ h⟩
    dsimp only
    clear hc
    induction ks generalizing xs ds with
    | nil =>
      cases xs with
      | nil => cases ds <;> exact .nil
      | cons x xs => cases h
    | cons k' ks ih =>
      cases xs with
      | nil => cases h
      | cons x xs =>
        cases ds with
        | nil => unfold Reps at r; exact r.elim
        | cons d' ds =>
          unfold putL
          obtain ⟨r1, r2⟩ := r.of_cons
          refine .cons ?_ (ih (by simpa using h) r2)
          by_cases hk : k' = k
          · rw [if_pos hk, if_pos hk]; exact rv
          · rw [if_neg hk, if_neg hk]; exact r1
  | false =>
    rw [if_neg (by decide), if_neg (by decide)]
    refine ⟨rfl, r.append (.cons rv .nil), ?_⟩
    dsimp only
    rw [List.length_append, List.length_append, h]
    rfl
end
/-- behind x[k] = v: the kind and the items -/
def gStore : Tag → List D → D → D → Option (Tag × List D)
  | .lst, ds, .leaf (.int i), d => (ixN ds.length i).map fun j => (.lst, ds.set j d)
  | .dk ks, ds, .leaf (.int i), d => if ds.length < 16777216 then some (.dk (putK2 (Sum.inl i) d ks ds).1, (putK2 (Sum.inl i : Key) d ks ds).2) else none
  | .dk ks, ds, .leaf (.str x), d => if ds.length < 16777216 then some (.dk (putK2 (Sum.inr x) d ks ds).1, (putK2 (Sum.inr x : Key) d ks ds).2) else none
  | _, _, _, _ => none
theorem gStore_cases {t t' : Tag} {ds ds' : List D} {k d : D} (h : gStore t ds k d = some (t', ds')) : (t = .lst ∧ ∃ z j, k = .leaf (.int z) ∧ ixN ds.length z = some j ∧ t' = .lst ∧ ds' = ds.set j d) ∨
    ∃ ks key, t = .dk ks ∧ k = .leaf (kV key) ∧ ds.length < 16777216 ∧ t' = .dk (putK2 key d ks ds).1 ∧ ds' = (putK2 key d ks ds).2 := by
  unfold gStore at h
  split at h
  · left
    rename_i i
    cases hj : ixN ds.length i with
    | none => rw [hj] at h; cases h
    | some j =>
      rw [hj] at h
      cases h
      exact ⟨rfl, i, j, rfl, hj, rfl, rfl⟩
  · right
    split at h
    · rename_i ks i hl
      cases h
      exact ⟨ks, Sum.inl i, rfl, rfl, hl, rfl, rfl⟩
    · cases h
  · right
    split at h
    · rename_i ks i hl
      cases h
      exact ⟨ks, Sum.inr i, rfl, rfl, hl, rfl, rfl⟩
    · cases h
  · cases h
def sStore (i : Nat) (A B : EF) : GS := bindS (eKeep A) fun c Γ => match c, slotO Γ i with
  | .sh d, some _ => (match B Γ with
    | some (.val c2, Γ1) => (match look Γ1 c2, slotO Γ1 i with
      | some k, some (t, ds) => (match gStore t ds k d with
        | some (t', ds') => (match slotP Γ1 i t' ds' with
          | some Γ2 => some (.nx Γ2)
          | none => none)
        | none => none)
      | _, _ => none)
    | some (.exc x, Γ1) => some (.xc x Γ1)
    | none => none)
  | _, _ => none
theorem PSetor {X : Cx} {t t' : TSet} (h : PSet X t) (h' : PSet X t') : PSet X (fun o i v H Q => t o i v H Q ∨ t' o i v H Q) := fun pins s σ H o i v ov iv u Q I ro ri rv q => q.elim (h pins s σ H o i v ov iv u Q I ro ri rv) (h' pins s σ H o i v ov iv u Q I ro ri rv)
section
variable {X : Cx} {W : WX} {value ix : Expr} {x : Str} {opos pos pos' : Pos} {A B : EF} {k : Nat}
theorem ds_store (i : Nat) (hv : DE X W value A) (hi : DE X W ix B) (hr : RoomG k X.A) (hN : X.N[i]? = some x := by rfl)
    (hvis : Vis X.env.scope x := by first | exact Or.inl rfl | exact Or.inr (Or.inl rfl) | exact Or.inr (Or.inr rfl)) (hd : (x == ("__debug__" : Str)) = false := by decide) (hcd : (x == ("__classdict__" : Str)) = false := by decide)
    (ha : ∀ v, assign (.Subscript (.Name x opos) ix pos') X.env v = (holding [v] (eval (.Name x opos) X.env) >>= fun ov => holding [v, ov] (eval ix X.env) >>= fun iv => standAt pos' >>= fun _ => holding [v, ov, iv] (setItem ov iv v) >>= fun _ => release [v, ov, iv] []) := by intro _; rfl)
    (hs : swapsWithSole [.Subscript (.Name x opos) ix pos'] value pos.line X.env = pure false := by rfl) (hw : swappedStores [.Subscript (.Name x opos) ix pos'] value X.env = pure none := by rfl)
    (h1 : (assignEach [.Subscript (.Name x opos) ix pos'] X.env).map (·.2) = [assign (.Subscript (.Name x opos) ix pos') X.env] := by rfl) :
    DS X W (.Assign [.Subscript (.Name x opos) ix pos'] value pos) (sStore i A B) := by
  refine PSimp (ps_asg (de_keep hv) (pg_sub (pe_var hN hvis hd hcd) hi (PSetor set_list (set_dict (hu_of hr.room))) ha) hs hw h1) fun D σ H h => ?_
  refine runS h fun f c Γ1 v H1 M1 o G1 hk p => ?_
  split at hk
  · rename_i d td hso
    obtain ⟨t0, ds0⟩ := td
    obtain ⟨a, xs0, hσ, _⟩ := G1.slotO hso
    refine ⟨.ref a, hσ, ?_⟩
    split at hk
    · rename_i c2 Γ2 hB
      refine ⟨f, M1, [v], [.sh d], Γ1, _, Γ2, G1, hB, fun iv H2 M2 G2 => ?_⟩
      split at hk
      · rename_i kd t ds hlk hso2
        split at hk
        · rename_i t' ds' hg
          split at hk
          · rename_i Γ3 hp
            cases hk
            have ri := G2.look (k := .inl 0) rfl hlk
            have rv : Rep X.K M2 v d := G2.ok (.inl 1) v _ rfl
            have G3 := G2.pop.pop
            obtain ⟨a1, xs, hσ1, own, rs, m, b⟩ := G3.slotO hso2
            rw [hσ] at hσ1; cases hσ1
            rcases gStore_cases hg with ⟨rfl, z, j, rfl, hj, rfl, rfl⟩ | ⟨ks, key, rfl, rfl, hl, rfl, rfl⟩
            · have G4 := G3.put (o := .lst (xs.set j v)) (xs' := xs.set j v) hso2 hσ (by show (upd H2 a _) a = _; rw [upd_same]) (rs.set j rv) hp
              exact .inl ⟨a, xs, z, j, rfl, ri, own, by rw [rs.length]; exact hj, p _ _ M2 G4⟩
            · obtain ⟨hlen, hH⟩ := own
              obtain ⟨e1, e2, e3⟩ := putK2_reps (k := key) hlen rs rv
              have G4 := G3.put (o := .dK (putK (ks.zip xs) key v)) (xs' := (putK2 key v ks xs).2) (t' := .dk (putK2 key d ks ds).1) hso2 hσ ⟨by rw [← e1]; exact e3, by rw [upd_same, putK_zip hlen, e1]⟩ e2 hp
              refine .inr ⟨a, _, rfl, .inl ⟨ks.zip xs, key, hH, ri, ?_, rfl⟩, p _ _ M2 G4⟩
              rw [List.length_zip, hlen, Nat.min_self, rs.length, sizeLine_eq]
              exact hl
          · cases hk
        · cases hk
      · cases hk
    · rename_i x Γ2 hB
      cases hk
      exact ⟨f, M1, [v], [.sh d], Γ1, _, Γ2, G1, hB, PostX.pop (p σ)⟩
    · cases hk
  · cases hk
end
end DL

set_option Elab.async false
set_option linter.all false
set_option maxRecDepth 100000
set_option maxHeartbeats 1000000
/-! comprehensions, dicts made -/
namespace DL
open PySem PySem.Spec PyProof.Rows L2

def clearG (Γ : Gam) : List Nat → Gam
  | [] => Γ
  | i :: is => (clearG Γ is).set i none
def restoreG (Γ Γe : Gam) : List Nat → Gam
  | [] => Γe
  | i :: is => (restoreG Γ Γe is).set i (Γ.getD i none)
section
variable {Γ Γe : Gam} {σ σ' : L2.St}
theorem clearG_len : ∀ is : List Nat, (clearG Γ is).length = Γ.length
  | [] => rfl
  | i :: is => by unfold clearG; rw [List.length_set, clearG_len is]
theorem restoreG_len : ∀ is : List Nat, (restoreG Γ Γe is).length = Γe.length
  | [] => rfl
  | i :: is => by unfold restoreG; rw [List.length_set, restoreG_len is]
theorem clearG_get {j : Nat} {c : Cell} : ∀ {is : List Nat}, (clearG Γ is)[j]? = some (some c) → Γ[j]? = some (some c) ∧ j ∉ is
  | [], h => ⟨h, by simp⟩
  | i :: is, h => by
    unfold clearG at h
    by_cases hj : i = j
    · subst hj
      have := lt_of_get h
      rw [List.length_set] at this
      rw [List.getElem?_set_self this] at h
      cases h
    · rw [List.getElem?_set_ne hj] at h
      obtain ⟨h1, h2⟩ := clearG_get h
      exact ⟨h1, fun z => by rcases List.mem_cons.mp z with z | z; exact hj z.symm; exact h2 z⟩
theorem restoreG_get (hl : Γe.length = Γ.length) {j : Nat} {c : Cell} : ∀ {is : List Nat}, (restoreG Γ Γe is)[j]? = some (some c) → (j ∈ is ∧ Γ[j]? = some (some c)) ∨ (j ∉ is ∧ Γe[j]? = some (some c))
  | [], h => .inr ⟨by simp, h⟩
  | i :: is, h => by
    unfold restoreG at h
    by_cases hj : i = j
    · subst hj
      have hlt := lt_of_get h
      rw [List.length_set] at hlt
      rw [List.getElem?_set_self hlt] at h
      rw [restoreG_len, hl] at hlt
      have e := Option.some.inj h
      rw [List.getD_eq_getElem?_getD, List.getElem?_eq_getElem hlt] at e
      refine .inl ⟨List.mem_cons_self, ?_⟩
      rw [List.getElem?_eq_getElem hlt]
      exact congrArg some e
    · rw [List.getElem?_set_ne hj] at h
      rcases restoreG_get hl h with ⟨h1, h2⟩ | ⟨h1, h2⟩
      · exact .inl ⟨List.mem_cons_of_mem _ h1, h2⟩
      · exact .inr ⟨(fun z => by rcases List.mem_cons.mp z with z | z; exact hj z.symm; exact h1 z), h2⟩
theorem wipe_out' {j : Nat} : ∀ {is : List Nat}, j ∉ is → (wipe σ is)[j]? = σ[j]?
  | [], _ => rfl
  | i :: is, h => by
    unfold wipe
    rw [List.getElem?_set_ne (fun z => h (by rw [z]; exact List.mem_cons_self)), wipe_out' fun z => h (List.mem_cons_of_mem _ z)]
theorem wipe_in {j : Nat} : ∀ {is : List Nat}, j ∈ is → (wipe σ is)[j]? = if j < σ.length then some none else none
  | i :: is, h => by
    unfold wipe
    by_cases hj : i = j
    · subst hj
      by_cases hl : i < σ.length
      · rw [List.getElem?_set_self (by rw [wipe_length]; exact hl), if_pos hl]
      · rw [if_neg hl]
        exact List.getElem?_eq_none (by rw [List.length_set, wipe_length]; omega)
    · rw [List.getElem?_set_ne hj]
      rcases List.mem_cons.mp h with h | h
      · exact (hj h.symm).elim
      · exact wipe_in h
theorem wipe_eq {is : List Nat} (hl : σ'.length = σ.length) (h : ∀ j, j ∉ is → σ'[j]? = σ[j]?) : wipe σ' is = wipe σ is := by
  apply List.ext_getElem?
  intro j
  by_cases hj : j ∈ is
  · rw [wipe_in hj, wipe_in hj, hl]
  · rw [wipe_out' hj, wipe_out' hj, h j hj]
theorem wipe_wipe (σ : L2.St) (is : List Nat) : wipe (wipe σ is) is = wipe σ is := wipe_eq (wipe_length _ _) fun _ hj => wipe_out' hj
end
section
variable {K : PySem.W.Frag} {f : Frm} {M M' H H' : Hp} {τ : List V} {T : List Cell} {σ : L2.St} {Γ Γe : Gam} {v : V} {c : Cell}
/-- slots forgotten -/
theorem Good.wipe (G : Good K f M H τ T σ Γ) (nb : NoBr T) (is : List Nat) : Good K f M H τ T (L2.wipe σ is) (clearG Γ is) := by
  have cs : ∀ k v c, ent τ T (L2.wipe σ is) (clearG Γ is) k = some (v, c) → ent τ T σ Γ k = some (v, c) ∧ (∀ i, k = .inr i → i ∉ is) := fun k v c q => by
    match k with
    | .inl j => exact ⟨q, fun i z => by cases z⟩
    | .inr j =>
      obtain ⟨q1, q2⟩ := ent_slot.mp q
      obtain ⟨h1, h2⟩ := clearG_get q2
      rw [wipe_out' h2] at q1
      exact ⟨ent_slot.mpr ⟨q1, h1⟩, fun i z => by cases z; exact h2⟩
  refine ⟨G.bys, G.sub, G.m0, G.new, G.tl, by rw [wipe_length, clearG_len]; exact G.sl, fun i c e => ?_, fun k v c q => ?_, fun k k' v c v' c' a q q' r r' => G.inj _ _ _ _ _ _ a (cs _ _ _ q).1 (cs _ _ _ q').1 r r', fun i j e => G.nbr i j (clearG_get e).1, fun i t ds e => ?_, G.tabs⟩
  · obtain ⟨h1, h2⟩ := clearG_get e
    rw [wipe_out' h2]
    exact G.has i c h1
  · obtain ⟨q1, hk⟩ := cs k v c q
    have h := G.ok k v c q1
    cases c with
    | sh d => exact h
    | ow t ds => exact h
    | rf t ds => exact h
    | on t os => exact h
    | br i =>
      exfalso
      match k with
      | .inl j => exact nb _ (List.mem_of_getElem? (ent_temp.mp q1).2) i rfl
      | .inr j => exact G.nbr j i (ent_slot.mp q1).2
  · obtain ⟨h1, h2⟩ := clearG_get e
    rw [wipe_out' h2]
    exact G.args i t ds h1
open Classical in
/-- what a block's walk takes for its callers' world: all but what the visible slots own -/
noncomputable def blkB (K : PySem.W.Frag) (H : Hp) (σ : L2.St) (Γ : Gam) (is : List Nat) : Hp := fun a => if ∃ i v c, i ∉ is ∧ ent [] [] σ Γ (.inr i) = some (v, c) ∧ own H v c a then none else noTb K H a
theorem Good.bracket (G : Good K f M H τ T σ Γ) (is : List Nat) : ∃ f', Good K f' M H [] [] (L2.wipe σ is) (clearG Γ is) ∧
    ∀ M' H' v c Γe, Solid c → Good K f' M' H' [v] [c] (L2.wipe σ is) Γe → Good K f M' H' (v :: τ) (c :: T) σ (restoreG Γ Γe is) := by
  have B_some : ∀ {a u}, blkB K H σ Γ is a = some u → (¬ ∃ i v c, i ∉ is ∧ ent [] [] σ Γ (.inr i) = some (v, c) ∧ own H v c a) ∧ noTb K H a = some u := fun {a u} e => by
    unfold blkB at e
    split at e
    · cases e
    · rename_i n; exact ⟨n, e⟩
  have B_of : ∀ {a u}, (¬ ∃ i v c, i ∉ is ∧ ent [] [] σ Γ (.inr i) = some (v, c) ∧ own H v c a) → noTb K H a = some u → blkB K H σ Γ is a = some u := fun {a u} n e => by
    unfold blkB
    rw [if_neg n]
    exact e
  have B_none : ∀ {a}, blkB K H σ Γ is a = none → f.B a = none := fun {a} e => by
    by_cases n : ∃ i v c, i ∉ is ∧ ent [] [] σ Γ (.inr i) = some (v, c) ∧ own H v c a
    · obtain ⟨i, v, c, _, q, r⟩ := n
      obtain ⟨_, _, _, _, hb⟩ := (G.ok (.inr i) v c q).own_ok r
      exact hb
    · cases hz : f.B a with
      | none => rfl
      | some u => rw [B_of n ((noTb_of (G.offB hz)).trans (G.bys a u hz))] at e; cases e
  have cs : ∀ k v c, ent [] [] (L2.wipe σ is) (clearG Γ is) k = some (v, c) → ∃ i, k = .inr i ∧ i ∉ is ∧ ent [] [] σ Γ (.inr i) = some (v, c) := fun k v c q => by
    match k with
    | .inl j => have := (ent_temp.mp q).1; simp at this
    | .inr j =>
      obtain ⟨q1, q2⟩ := ent_slot.mp q
      obtain ⟨h1, h2⟩ := clearG_get q2
      rw [wipe_out' h2] at q1
      exact ⟨j, rfl, h2, ent_slot.mpr ⟨q1, h1⟩⟩
  refine ⟨⟨blkB K H σ Γ is, M, f.vs⟩, ⟨fun a u e => (noTb_some (B_some e).2).2, G.sub, Sub.refl M, fun a o u e _ => ⟨o, e⟩, rfl, by rw [wipe_length, clearG_len]; exact G.sl, fun i c e => ?_, fun k v c q => ?_, fun k k' v c v' c' a q q' r r' => ?_, fun i j e => G.nbr i j (clearG_get e).1, fun i t ds e => ?_, ⟨G.tabs.t, G.tabs.nm, fun p ps z => noTb_no p ps (B_some z).2⟩⟩, ?_⟩
  · obtain ⟨h1, h2⟩ := clearG_get e
    rw [wipe_out' h2]
    exact G.has i c h1
  · obtain ⟨i, rfl, hi, q1⟩ := cs k v c q
    have h := G.ok (.inr i) v c q1
    have nb : ∀ a, own H v c a → blkB K H σ Γ is a = none := fun a r => by
      unfold blkB
      rw [if_pos ⟨i, v, c, hi, q1, r⟩]
    cases c with
    | sh d => exact h
    | ow t ds => exact OwnOk.frm h fun a e => nb a e
    | rf t ds => exact OwnOk.frm h fun a e => nb a e
    | on t os => exact ⟨h.1, fun a ha => ⟨(h.2 a ha).1, nb a ha⟩⟩
    | br j => exact (G.nbr i j (ent_slot.mp q1).2).elim
  · obtain ⟨i, rfl, _, q1⟩ := cs k v c q
    obtain ⟨i', rfl, _, q1'⟩ := cs k' v' c' q'
    exact G.inj _ _ _ _ _ _ a q1 q1' r r'
  · obtain ⟨h1, h2⟩ := clearG_get e
    rw [wipe_out' h2]
    exact G.args i t ds h1
  · intro M' H' v c Γe sc G'
    have hl : Γe.length = Γ.length := by rw [← G'.sl, wipe_length, G.sl]
    -- what stood pending or hidden stands
    have stand : ∀ {a u}, noTb K H a = some u → (¬ ∃ i v c, i ∉ is ∧ ent [] [] σ Γ (.inr i) = some (v, c) ∧ own H v c a) → H' a = some u ∧ blkB K H σ Γ is a = some u := fun {a u} e n => ⟨G'.bys a u (B_of n e), B_of n e⟩
    have hid : ∀ k v c a, ent τ T σ Γ k = some (v, c) → (∀ i, k = .inr i → i ∈ is) → own H v c a → ¬ ∃ i v c, i ∉ is ∧ ent [] [] σ Γ (.inr i) = some (v, c) ∧ own H v c a := fun k v c a q hk r ⟨i, v', c', hi, q', r'⟩ => by
      have z := G.inj k (.inr i) v c v' c' a q q' r r'
      exact hi (hk i z)
    have stp : ∀ k u e, ent τ T σ Γ k = some (u, e) → (∀ i, k = .inr i → i ∈ is) → COk K f M' H' σ u e ∧ ∀ a, own H' u e a ↔ own H u e a := fun k u e q hk => by
      refine (G.ok k u e q).step G'.m0 fun a r => ?_
      obtain ⟨o, ho⟩ := G.ownedSome q r
      obtain ⟨_, _, ow, m, _⟩ := (G.ok k u e q).own_ok r
      obtain ⟨s1, s2⟩ := stand ((noTb_of (G.tabs.offO ow)).trans ho) (hid k u e a q hk r)
      refine ⟨by rw [s1, ho], ?_⟩
      cases hq : M' a with
      | none => rfl
      | some w =>
        obtain ⟨w', hw'⟩ := G'.new a w o hq s2
        have hw2 : M a = some w' := hw'
        rw [m] at hw2; cases hw2
    -- the cells behind: pending and hidden ones as they were, the others as the block left them
    have cs2 : ∀ k u e, ent τ T σ (restoreG Γ Γe is) k = some (u, e) → ((∀ i, k = .inr i → i ∈ is) ∧ ent τ T σ Γ k = some (u, e)) ∨ ∃ i, k = .inr i ∧ i ∉ is ∧ ent [v] [c] (L2.wipe σ is) Γe (.inr i) = some (u, e) := fun k u e q => by
      match k with
      | .inl j => exact .inl ⟨(fun i z => by cases z), q⟩
      | .inr j =>
        obtain ⟨q1, q2⟩ := ent_slot.mp q
        rcases restoreG_get hl q2 with ⟨h1, h2⟩ | ⟨h1, h2⟩
        · exact .inl ⟨(fun i z => by cases z; exact h1), ent_slot.mpr ⟨q1, h2⟩⟩
        · exact .inr ⟨j, rfl, h1, ent_slot.mpr ⟨by rw [wipe_out' h1]; exact q1, h2⟩⟩
    have base : Good K f M' H' τ T σ (restoreG Γ Γe is) := by
      refine ⟨fun a u e => ?_, G'.sub, G.m0.trans G'.m0, fun a o u e e' => ?_, G.tl, by rw [restoreG_len, hl]; exact G.sl, fun i c' e => ?_, fun k u e q => ?_, fun k k' u e u' e' a q q' r r' => ?_, fun i j e => ?_, fun i t ds e => ?_, ⟨G'.tabs.t, G'.tabs.nm, G.tabs.nb⟩⟩
      · refine (stand ((noTb_of (G.offB e)).trans (G.bys a u e)) ?_).1
        rintro ⟨i, v', c', _, q, r⟩
        obtain ⟨_, _, _, _, hb⟩ := (G.ok (.inr i) v' c' q).own_ok r
        rw [hb] at e; cases e
      · have n : ¬ ∃ i v c, i ∉ is ∧ ent [] [] σ Γ (.inr i) = some (v, c) ∧ own H v c a := by
          rintro ⟨i, v', c', _, q, r⟩
          obtain ⟨_, _, _, _, hb⟩ := (G.ok (.inr i) v' c' q).own_ok r
          rw [hb] at e'; cases e'
        obtain ⟨w, hw⟩ := G'.new a o u e (B_of n ((noTb_of (G.offB e')).trans (G.bys a u e')))
        exact G.new a w u hw e'
      · rcases restoreG_get hl e with ⟨_, h2⟩ | ⟨h1, h2⟩
        · exact G.has i c' h2
        · obtain ⟨w, hw⟩ := G'.has i c' h2
          rw [wipe_out' h1] at hw
          exact ⟨w, hw⟩
      · rcases cs2 k u e q with ⟨hk, q⟩ | ⟨i, rfl, hi, q⟩
        · exact (stp k u e q hk).1
        · have h := G'.ok _ _ _ q
          cases e with
          | sh d => exact h
          | ow t ds =>
            obtain ⟨a, xs, ea, h1, h2, h3, h4⟩ := h
            exact ⟨a, xs, ea, h1, h2, h3, B_none h4⟩
          | rf t ds =>
            obtain ⟨a, xs, ea, h1, h2, h3, h4⟩ := h
            exact ⟨a, xs, ea, h1, h2, h3, B_none h4⟩
          | on t os => exact ⟨h.1, fun a ha => ⟨(h.2 a ha).1, B_none (h.2 a ha).2⟩⟩
          | br j => exact (G'.nbr i j (ent_slot.mp q).2).elim
      · have cross : ∀ k u e i u' e' a, ((∀ i, k = .inr i → i ∈ is) ∧ ent τ T σ Γ k = some (u, e)) → ent [v] [c] (L2.wipe σ is) Γe (.inr i) = some (u', e') → own H' u e a → own H' u' e' a → False := fun k u e i u' e' a ⟨hk, q⟩ q' r r' => by
          replace r := ((stp k u e q hk).2 a).mp r
          obtain ⟨o, ho⟩ := G.ownedSome q r
          obtain ⟨_, _, ow, _, _⟩ := (G.ok k u e q).own_ok r
          obtain ⟨_, s2⟩ := stand ((noTb_of (G.tabs.offO ow)).trans ho) (hid k u e a q hk r)
          obtain ⟨_, _, _, _, hb⟩ := (G'.ok _ _ _ q').own_ok r'
          have hb' : blkB K H σ Γ is a = none := hb
          rw [s2] at hb'; cases hb'
        rcases cs2 k u e q with h1 | ⟨i, k1, hi, q1⟩
        · rcases cs2 k' u' e' q' with h2 | ⟨i', k2, hi', q2⟩
          · exact G.inj _ _ _ _ _ _ a h1.2 h2.2 (((stp k u e h1.2 h1.1).2 a).mp r) (((stp k' u' e' h2.2 h2.1).2 a).mp r')
          · exact (cross k u e i' u' e' a h1 q2 r r').elim
        · rcases cs2 k' u' e' q' with h2 | ⟨i', k2, hi', q2⟩
          · exact (cross k' u' e' i u e a h2 q1 r' r).elim
          · have z := G'.inj _ _ _ _ _ _ a q1 q2 r r'
            rw [k1, k2, z]
      · rcases restoreG_get hl e with ⟨_, h2⟩ | ⟨_, h2⟩
        · exact G.nbr i j h2
        · exact G'.nbr i j h2
      · rcases restoreG_get hl e with ⟨_, h2⟩ | ⟨h1, h2⟩
        · exact G.args i t ds h2
        · have := G'.args i t ds h2
          rw [wipe_out' h1] at this
          exact this
    have h0 := G'.ok (.inl 0) v c rfl
    refine base.push ?_ fun a r k u e q r' => ?_
    · cases c with
      | sh d => exact h0
      | ow t ds =>
        obtain ⟨a, xs, ea, h1, h2, h3, h4⟩ := h0
        exact ⟨a, xs, ea, h1, h2, h3, B_none h4⟩
      | on t os => exact ⟨h0.1, fun a ha => ⟨(h0.2 a ha).1, B_none (h0.2 a ha).2⟩⟩
      | rf t ds => exact sc.elim
      | br i => exact sc.elim
    · rcases cs2 k u e q with ⟨hk, q1⟩ | ⟨i, k1, hi, q1⟩
      · replace r' := ((stp k u e q1 hk).2 a).mp r'
        obtain ⟨o, ho⟩ := G.ownedSome q1 r'
        obtain ⟨_, _, ow, _, _⟩ := (G.ok k u e q1).own_ok r'
        obtain ⟨_, s2⟩ := stand ((noTb_of (G.tabs.offO ow)).trans ho) (hid k u e a q1 hk r')
        obtain ⟨_, _, _, _, hb⟩ := h0.own_ok r
        have hb' : blkB K H σ Γ is a = none := hb
        rw [s2] at hb'; cases hb'
      · have z := G'.inj (.inl 0) (.inr i) v c u e a rfl q1 r r'
        cases z
end

/-! ### [e for x in xs if t] -/
abbrev WF : WX := fun _ _ _ _ => False
def lcD (P : D → Gam → Option Gam) (t : TF) (E : EF) (is : List Nat) : List D → Gam → List D → Option (List D × Gam)
  | [], Γ, acc => some (acc, Γ)
  | d :: r, Γ, acc => match P d Γ with
    | some Γ1 => (match t Γ1 with
      | some (.val true, Γ2) => (match eKeep E Γ2 with
        | some (.val (.sh e), Γ3) => if acc.length < 16777216 then lcD P t E is r (clearG Γ3 is) (acc ++ [e]) else none
        | _ => none)
      | some (.val false, Γ2) => lcD P t E is r (clearG Γ2 is) acc
      | _ => none)
    | none => none
def eLc (I : IF) (P : D → Gam → Option Gam) (t : TF) (E : EF) (is : List Nat) : EF := fun Γ => match I Γ with
  | some (.val ds, Γ1) => (match lcD P t E is ds (clearG Γ1 is) [] with
    | some (acc, Γe) => some (.val (.ow .lst acc), restoreG Γ1 Γe is)
    | none => none)
  | some (.exc x, Γ1) => some (.exc x, Γ1)
  | none => none
def tYesD : TF := fun Γ => some (.val true, Γ)
theorem tYesD_of {K : PySem.W.Frag} {σ : L2.St} {H : Hp} {Q : Bool → Hp → Prop} (h : DL.tB K WF tYesD σ H Q) : Q true H := by
  obtain ⟨f, M, τ, T, Γ, r, Γ', G, hF, p⟩ := h
  cases hF
  exact p H M G
theorem dts_nil {X : Cx} : PTs X [] (DL.tB X.K WF tYesD) := ⟨fun pins s σ H Q I h => pts_nil.run pins s σ H Q I (tYesD_of h)⟩
theorem dts_one {X : Cx} {c : Expr} {t : TF} (h : DT X WF c t) : PTs X [c] (DL.tB X.K WF t) := pts_one h
theorem lc_reading {K : PySem.W.Frag} {W : WX} {I : IF} {P : D → Gam → Option Gam} {t : TF} {E : EF} {S is : List Nat} (hS : ∀ i ∈ S, i ∈ is) {σ : L2.St} {H : Hp} {Q : VK} (h : tE K W (eLc I P t E is) σ H Q) :
    tLc (tI K W I) (tG K S P) (DL.tB K WF t) (tE K WF (eKeep E)) is σ H Q := by
  obtain ⟨f, M, τ, T, Γ, r, Γ', G, hF, p⟩ := h
  unfold eLc at hF
  split at hF
  · rename_i ds Γ1 hI
    split at hF
    · rename_i acc Γe hl
      cases hF
      refine ⟨f, M, τ, T, Γ, _, Γ1, G, hI, fun J H1 M1 G1 hJ => ?_⟩
      obtain ⟨f', G2, back⟩ := G1.bracket is
      intro L hL
      -- the loop's word
      refine ⟨fun i m H => m = ds.length - i ∧ i ≤ ds.length ∧ ∃ M2 Γ2 acc2, Good K (f'.at M1) M2 H [.ref L] [.ow .lst acc2] (L2.wipe σ is) Γ2 ∧ lcD P t E is (ds.drop i) Γ2 acc2 = some (acc, Γe),
        ⟨ds.length, by simp, Nat.zero_le _, M1, _, [], (G2.inner).alloc hL (by show (upd H1 L (.lst [])) L = _; rw [upd_same]) .nil, hl⟩, ?_⟩
      rintro i m H2 ⟨rfl, hi, M2, Γ2, acc2, G3, e3⟩
      obtain ⟨go, stop⟩ := hJ i H2 (G3.m0.trans G3.sub)
      by_cases hlt : i < ds.length
      · have hd : ds[i]? = some ds[i] := List.getElem?_eq_getElem hlt
        obtain ⟨g, y⟩ := go _ hd
        refine .inr ⟨g, fun H' => ∃ M2 Γ2 acc2, Good K (f'.at M1) M2 H' [.ref L] [.ow .lst acc2] (L2.wipe σ is) Γ2 ∧ lcD P t E is (ds.drop (i + 1)) Γ2 acc2 = some (acc, Γe), fun H' hN => ⟨ds.length - (i + 1), by omega, rfl, hlt, hN⟩, fun x H' hy => ?_⟩
        rw [List.drop_eq_getElem_cons hlt] at e3
        unfold lcD at e3
        split at e3
        · rename_i Γ4 h4
          have y' : YOk K M2 H2 x H' ds[i] := by
            rcases y x H' hy with ⟨a, b⟩ | ⟨q, xs, es, a, b, c, d, e⟩
            · exact .inl ⟨a, Rep.mono G3.m0 _ _ b⟩
            · exact .inr ⟨q, xs, es, a, b, c, Reps.mono G3.m0 _ _ d, e⟩
          obtain ⟨M4, _, G4, r4⟩ := G3.yield y'
          have nb : NoBr [Cell.ow .lst acc2] := fun c hc j => by
            rw [List.mem_singleton] at hc
            rw [hc]
            intro z
            cases z
          refine ⟨f'.at M1, M4, _, _, Γ2, ds[i], Γ4, nb, G4, r4, h4, fun σ5 H5 M5 G5 hσ => ?_⟩
          have hw : L2.wipe σ5 is = L2.wipe σ is := by
            rw [← wipe_wipe σ is]
            exact wipe_eq hσ.1 fun j hj => hσ.2 j fun z => hj (hS j z)
          refine ⟨hw, ?_⟩
          cases ht : t Γ4 with
          | none => rw [ht] at e3; cases e3
          | some q =>
            obtain ⟨rt, Γ5⟩ := q
            rw [ht] at e3
            cases rt with
            | exc x => cases e3
            | val b =>
              refine ⟨f'.at M1, M5, _, _, Γ4, _, Γ5, G5, ht, fun H6 M6 G6 => ?_⟩
              cases b with
              | false => exact iteF ⟨M6, _, acc2, by rw [← hw]; exact G6.wipe nb is, e3⟩
              | true =>
                refine iteT ?_
                dsimp only at e3
                cases hE : eKeep E Γ5 with
                | none => rw [hE] at e3; cases e3
                | some q =>
                  obtain ⟨re, Γ6⟩ := q
                  rw [hE] at e3
                  cases re with
                  | exc x => cases e3
                  | val ce =>
                    refine ⟨f'.at M1, M6, _, _, Γ5, _, Γ6, G6, hE, fun y H7 M7 G7 => ?_⟩
                    cases ce with
                    | ow t ds => cases e3
                    | rf t ds => cases e3
                    | br i => cases e3
                    | on t os => cases e3
                    | sh e =>
                      dsimp only at e3
                      split at e3
                      · rename_i hz
                        have ry : Rep K M7 y e := G7.ok (.inl 0) y _ rfl
                        obtain ⟨a7, xs7, ea, hown, rs, _⟩ := G7.pop.ok (.inl 0) _ _ rfl
                        cases ea
                        refine ⟨xs7, hown, by rw [rs.length, sizeLine_eq]; exact hz, M7, _, acc2 ++ [e], ?_, e3⟩
                        have G8 := G7.pop.putT (o := .lst (xs7 ++ [y])) (t' := .lst) (xs' := xs7 ++ [y]) (ds' := acc2 ++ [e]) (by show (upd H7 L _) L = _; rw [upd_same]) (rs.append (.cons ry .nil))
                        rw [← hw]
                        exact G8.wipe (fun c hc j => by
                          rw [List.mem_singleton] at hc
                          rw [hc]
                          intro z
                          cases z) is
                      · cases e3
        · cases e3
      · have e : i = ds.length := by omega
        refine .inl ⟨stop e, ?_⟩
        rw [e, List.drop_length] at e3
        cases e3
        exact p _ H2 M2 (back M2 H2 _ _ Γe trivial (G2.outer G3))
    · cases hF
  · rename_i x Γ1 hI
    cases hF
    exact ⟨f, M, τ, T, Γ, _, Γ', G, hI, p⟩
  · cases hF
section
variable {X : Cx} {W : WX}
theorem de_lc {elt tg iter : Expr} {ifs : List Expr} {scope : Scope} {own : List (Str × Nat)} {pos : Pos} {I : IF} {P : D → Gam → Option Gam} {t : TF} {E : EF} {S : List Nat} (hi : DI X W tg iter I) (hN : X.N.Nodup) (ok : BlkOk X.N X.env.scope scope own)
    (hg : ∀ (s : Shared) (H : Hp) (C : Addr) (cl : List (Str × Addr)) (fp : List Addr), DG (X.blk s H scope (compEnvC scope cl C X.env) fp) tg S P)
    (ht : ∀ (s : Shared) (H : Hp) (C : Addr) (cl : List (Str × Addr)) (fp : List Addr), PTs (X.blk s H scope (compEnvC scope cl C X.env) fp) ifs (DL.tB X.K WF t))
    (he : ∀ (s : Shared) (H : Hp) (C : Addr) (cl : List (Str × Addr)) (fp : List Addr), DE (X.blk s H scope (compEnvC scope cl C X.env) fp) WF elt E)
    (hS : ∀ i ∈ S, i ∈ own.map (·.2) := by decide) (hc : X.calm = true := by rfl) (hs : ∀ x, foldedSetIterable iter X.env x = pure x := by intro _; rfl) :
    DE X W (.ListComp elt [⟨tg, iter, ifs, 0⟩] scope pos) (eLc I P t E (own.map (·.2))) :=
  PEimp (pe_lc hc hN hi ok hg ht (fun s H C cl fp => de_keep (he s H C cl fp)) hs) fun _ _ _ h => lc_reading hS h
/-- x = [..] -/
theorem ds_setLc (i : Nat) {y : Str} {py : Pos} {elt tg iter : Expr} {ifs : List Expr} {scope : Scope} {own : List (Str × Nat)} {pos spos : Pos} {I : IF} {P : D → Gam → Option Gam} {t : TF} {E : EF} {S : List Nat} (hi : DI X W tg iter I) (hN : X.N.Nodup) (ok : BlkOk X.N X.env.scope scope own)
    (hsw : swapsWith (.ListComp elt [⟨tg, iter, ifs, 0⟩] scope pos) (some (.Name y py)) spos.line X.env = pure true)
    (hg : ∀ (s : Shared) (H : Hp) (C : Addr) (cl : List (Str × Addr)) (fp : List Addr), DG (X.blk s H scope (compEnvC scope cl C X.env) fp) tg S P)
    (ht : ∀ (s : Shared) (H : Hp) (C : Addr) (cl : List (Str × Addr)) (fp : List Addr), PTs (X.blk s H scope (compEnvC scope cl C X.env) fp) ifs (DL.tB X.K WF t))
    (he : ∀ (s : Shared) (H : Hp) (C : Addr) (cl : List (Str × Addr)) (fp : List Addr), DE (X.blk s H scope (compEnvC scope cl C X.env) fp) WF elt E)
    (hy : X.N[i]? = some y := by rfl) (hyl : X.env.scope.names.lookup y = some .local := by rfl)
    (hS : ∀ i ∈ S, i ∈ own.map (·.2) := by decide) (hc : X.calm = true := by rfl) (hs : ∀ x, foldedSetIterable iter X.env x = pure x := by intro _; rfl) :
    DS X W (.Assign [.Name y py] (.ListComp elt [⟨tg, iter, ifs, 0⟩] scope pos) spos) (sSet i (eLc I P t E (own.map (·.2)))) := by
  refine PSimp (ps_setLc (te := tE X.K WF (eKeep E)) (g := tG X.K S P) (tt := DL.tB X.K WF t) hc hN hy hyl hsw hi ok hg ht (fun s H C cl fp => de_keep (he s H C cl fp)) hs) fun D σ H h => ?_
  refine lc_reading hS (runS h fun f c Γ1 v H1 M1 o G1 hk p => ?_)
  split at hk
  · rename_i c' Γ2 h2
    obtain ⟨sc, M2, G2⟩ := G1.solid h2
    split at hk
    · rename_i Γ3 h3
      cases hk
      exact p _ H1 M2 (G2.setS sc NoBr.nil h3)
    · cases hk
  · cases hk

/-! ### dicts made -/
def eDict0 : EF := fun Γ => some (.val (.ow (.dk []) []), Γ)
theorem de_dict0 {pos : Pos} : DE X W (.Dict [] [] pos) eDict0 := by
  refine PEimp pe_dnewK fun σ H Q h => ?_
  obtain ⟨f, M, τ, T, Γ, r, Γ', G, hF, p⟩ := h
  cases hF
  exact fun q hq => p _ _ M (G.alloc (xs := []) hq ⟨rfl, by rw [upd_same]; rfl⟩ .nil)
end

end DL

set_option Elab.async false
set_option linter.all false
set_option maxRecDepth 100000
set_option maxHeartbeats 1000000
/-! dict displays -/
namespace DL
open PySem PySem.Spec PyProof.Rows L2

theorem merge_nodup {κvs : List (Key × V)} : ∀ {more kvs : List (Key × V)}, ((kvs ++ more).map (·.1)).Nodup → mergeK kvs more = kvs ++ more
  | [], kvs, _ => by rw [List.append_nil]; rfl
  | (k, v) :: more, kvs, h => by
    have step : putK kvs k v = kvs ++ [(k, v)] := by
      unfold putK
      rw [if_neg]
      intro z
      rw [List.any_eq_true] at z
      obtain ⟨p, hp, e⟩ := z
      have e' : p.1 = k := of_decide_eq_true e
      rw [List.map_append, List.map_cons, List.nodup_append] at h
      exact h.2.2 p.1 (List.mem_map.mpr ⟨p, hp, rfl⟩) k List.mem_cons_self e'
    show mergeK (putK kvs k v) more = _
    rw [step, merge_nodup (κvs := κvs) (by rw [List.append_assoc]; exact h), List.append_assoc]
    rfl
def aKeeps : List EF → AF
  | [] => aNil
  | E :: Es => aCons (eKeep E) (aKeeps Es)
def trsOf (K : PySem.W.Frag) (W : WX) : List Key → List EF → List (TE × TE)
  | k :: ks, E :: Es => (tC (kV k), tE K W (eKeep E)) :: trsOf K W ks Es
  | _, _ => []
def pairVs : List Key → List V → List (V × V)
  | k :: ks, v :: vs => (kV k, v) :: pairVs ks vs
  | _, _ => []
theorem pairs_run {K : PySem.W.Frag} {W : WX} {σ : L2.St} : ∀ {ks : List Key} {Es : List EF} {H : Hp} {Q : List (V × V) → Hp → Prop}, ks.length = Es.length → tL K W (aKeeps Es) σ H (fun vs H1 => Q (pairVs ks vs) H1) → tPairs (trsOf K W ks Es) σ H Q
  | [], [], H, Q, _, h => by
    obtain ⟨f, M, τ, T, Γ, r, Γ', G, hF, p⟩ := h
    cases hF
    exact p [] H M rfl G
  | [], _ :: _, _, _, hl, _ => by cases hl
  | _ :: _, [], _, _, hl, _ => by cases hl
  | k :: ks, E :: Es, H, Q, hl, h => by
    obtain ⟨f, M, τ, T, Γ, r, Γ', G, hF, p⟩ := h
    show tE K W (eKeep E) σ H fun y H2 => tPairs (trsOf K W ks Es) σ H2 fun ps H3 => Q ((kV k, y) :: ps) H3
    unfold aKeeps aCons at hF
    cases hA : eKeep E Γ with
    | none => rw [hA] at hF; cases hF
    | some q =>
      obtain ⟨ra, Γ1⟩ := q
      rw [hA] at hF
      cases ra with
      | exc x => cases hF; exact ⟨f, M, τ, T, Γ, .exc x, Γ', G, hA, p⟩
      | val c =>
        refine ⟨f, M, τ, T, Γ, .val c, Γ1, G, hA, fun v H1 M1 G1 => pairs_run (by simpa using hl) ?_⟩
        dsimp only at hF
        cases hL : aKeeps Es Γ1 with
        | none => rw [hL] at hF; cases hF
        | some q2 =>
          obtain ⟨rl, Γ2⟩ := q2
          rw [hL] at hF
          cases rl with
          | exc x => cases hF; exact ⟨f, M1, _, _, Γ1, .exc x, Γ', G1, hL, PostX.pop p⟩
          | val cs =>
            cases hF
            refine ⟨f, M1, _, _, Γ1, .val cs, Γ', G1, hL, fun vs H2 M2 hl2 G2 => ?_⟩
            refine p (v :: vs) H2 M2 (by rw [List.length_cons, List.length_cons, hl2]) ?_
            rw [List.reverse_cons, List.reverse_cons, List.append_assoc, List.append_assoc]
            exact G2
theorem pairVs_eq : ∀ {ks : List Key} {vs : List V}, ks.length = vs.length → pairVs ks vs = (ks.zip vs).map fun kv => (kV kv.1, kv.2)
  | [], [], _ => rfl
  | [], _ :: _, h => by cases h
  | _ :: _, [], h => by cases h
  | k :: ks, v :: vs, h => by
    rw [List.zip_cons_cons, List.map_cons]
    show (kV k, v) :: pairVs ks vs = _
    rw [pairVs_eq (by simpa using h)]
theorem map_fst_zip' {α β : Type} : ∀ {xs : List α} {ys : List β}, xs.length = ys.length → (xs.zip ys).map (·.1) = xs
  | [], [], _ => rfl
  | [], _ :: _, h => by cases h
  | _ :: _, [], h => by cases h
  | x :: xs, y :: ys, h => by rw [List.zip_cons_cons, List.map_cons, map_fst_zip' (by simpa using h)]
/-- {k: e, ..}, the keys written and all different -/
def eDisp (ks : List Key) (Es : List EF) : EF := fun Γ => match aKeeps Es Γ with
  | some (.val cs, Γ1) => (match shs cs with
    | some ds => if ks.length = ds.length then some (.val (.ow (.dk ks) ds), Γ1) else none
    | none => none)
  | some (.exc x, Γ1) => some (.exc x, Γ1)
  | none => none
section
variable {X : Cx} {W : WX} {pos : Pos}
theorem de_disp {keys : List (Option Expr)} {values : List Expr} (ks : List Key) {Es : List EF} (h : PPs X pos keys values (trsOf X.K W ks Es)) (hall : keys.all (·.isSome) = true := by rfl) (hl : keys.length = values.length := by rfl) (h0 : keys ≠ [] := by simp)
    (h15 : keys.length ≤ 15 := by decide) (hk : ks.length = Es.length := by rfl) (hk15 : ks.length ≤ 15 := by decide) (hnd : ks.Nodup := by decide) : DE X W (.Dict keys values pos) (eDisp ks Es) := by
  refine PEimp (pe_disp h hall hl h0 h15) fun σ H Q h => ?_
  obtain ⟨f, M, τ, T, Γ, r, Γ', G, hF, p⟩ := h
  intro q hq
  have G0 := G.alloc (p := q) (t := .dk []) (xs := []) (ds := []) (o := .dK []) hq ⟨rfl, by rw [upd_same]; rfl⟩ .nil
  refine pairs_run hk ?_
  unfold eDisp at hF
  cases hA : aKeeps Es Γ with
  | none => rw [hA] at hF; cases hF
  | some z =>
    obtain ⟨ra, Γ1⟩ := z
    rw [hA] at hF
    cases ra with
    | exc x => cases hF; exact ⟨f, M, _, _, Γ, .exc x, Γ', G0, hA, PostX.pop p⟩
    | val cs =>
      refine ⟨f, M, _, _, Γ, .val cs, Γ1, G0, hA, fun vs H2 M2 hlen G2 => ?_⟩
      dsimp only at hF
      split at hF
      · rename_i ds hd
        split at hF
        · rename_i hks
          cases hF
          obtain ⟨rs, G3⟩ := G2.shs hlen hd
          have hkv : ks.length = vs.length := by rw [rs.length]; exact hks
          obtain ⟨a1, xs1, ea, hown, _⟩ := G3.ok (.inl 0) _ _ rfl
          cases ea
          obtain ⟨_, hH⟩ := hown
          have hz : ([] : List Key).zip xs1 = [] := by cases xs1 <;> rfl
          rw [hz] at hH
          refine ⟨hH, ks.zip vs, pairVs_eq hkv, by rw [List.length_zip, hkv, Nat.min_self, ← hkv]; exact hk15, ?_⟩
          have hm : mergeK [] (ks.zip vs) = ks.zip vs := merge_nodup (κvs := []) (by rw [List.nil_append, map_fst_zip' hkv]; exact hnd)
          rw [hm]
          exact p _ _ M2 (G3.putT (o := .dK (ks.zip vs)) (t' := .dk ks) (xs' := vs) (ds' := ds) ⟨hkv, by rw [upd_same]⟩ rs)
        · cases hF
      · cases hF
end
end DL

set_option Elab.async false
set_option linter.all false
set_option maxRecDepth 100000
set_option maxHeartbeats 1000000
/-! the end: the law's call, by the mirror -/
namespace DL
open PySem PySem.Spec PyProof.Rows L2

def scriptD (ns : List Int) : D := .node .scr (ns.map D.int)
/-- the mirror of the law answers True -/
def SaysTrue (m : MF) (ns : List Int) : Prop := ∃ T', m [.sh (scriptD ns)] = some (.val (.sh (.leaf (.bl true))), T')
theorem reps_ints {K : PySem.W.Frag} {M : Hp} : ∀ ns : List Int, Reps K M (ns.map V.int) (ns.map D.int)
  | [] => .nil
  | n :: ns => .cons (by unfold Rep; rfl) (reps_ints ns)
/-- what the making of lambdas asks of the base -/
def TBs (K : PySem.W.Frag) (mg : Str → Option Value) (base : Heap) : Prop := ∀ x ∈ lamNames, ∀ c P, PySem.W.tabIn K x = some (c, P) → LamX.TabB base mg c P
theorem TT_mem {K : PySem.W.Frag} {x : Str} {c P : Addr} (hx : x ∈ lamNames) (h : PySem.W.tabIn K x = some (c, P)) : (P, (x ++ ".<locals>.") ++ "<lambda>") ∈ lamT K := by
  unfold lamT
  exact List.mem_filterMap.mpr ⟨x, hx, by rw [h]; rfl⟩
theorem TT_of {K : PySem.W.Frag} {p : Addr × Str} (h : p ∈ lamT K) : ∃ x ∈ lamNames, ∃ c, PySem.W.tabIn K x = some (c, p.1) ∧ p.2 = (x ++ ".<locals>.") ++ "<lambda>" := by
  unfold lamT at h
  obtain ⟨x, hx, e⟩ := List.mem_filterMap.mp h
  cases ht : PySem.W.tabIn K x with
  | none => rw [ht] at e; cases e
  | some cp =>
    rw [ht] at e
    cases e
    exact ⟨x, hx, cp.1, ht, rfl⟩
theorem callG {P : Program} {w : World} {K : PySem.W.Frag} {mg mb : Str → Option Value} {k : Nat} {fa a : Addr} {fd : FuncData} {x : Str} {m : MF} {st : Shared} {vs : List Value} {ns : List Int}
    (inK : K.In st.heap) (hmg : st.heap.Ns mainGlobals mg) (hmb : st.heap.Ns builtinsNs mb) (hboot : ∀ x : Str, x ≠ "__name__" → mb x = bootBuiltins x) (lim : st.heap.NoLimit) (gens : st.gens = #[])
    (tabs : ∀ x ∈ lamNames, ∀ c P, PySem.W.tabIn K x = some (c, P) → PySem.W.CodeHd st.heap c P ∧ st.heap.get? P = some { cls := .none, data := .fields #[] } ∧ K.lookup P = none)
    (hbm : ∃ (bm : Addr) (ob : Obj), mg "__builtins__" = some (.ref bm) ∧ bm ≠ builtinsNs ∧ st.heap.get? bm = some ob ∧ ob.cls = .type "module" ∧ ob.dict = some builtinsNs ∧ ob.data = .plain)
    (obj : st.heap.get? a = some { cls := .type "list", data := .seq vs.toArray }) (theInts : IntsAre vs ns) (few : ns.length ≤ sizeLine) (room : Room k callerA)
    (F : ∀ base : Heap, K.In base → base.Ns mainGlobals mg → TBs K mg base → FnG P w K mg base k fa fd [x] m) (bnd : ∀ (s : Shared) (u : Value), BindsTo s fd ⟨[u], []⟩ [(x, u)]) (says : SaysTrue m ns) :
    codeAny (model P w) callerA (.call (.ref fa) ⟨[.ref a], []⟩) (fun r s' => r = .ok (.ret (.bool true)) ∧ OldK st.heap s'.heap ∧ s'.os = st.os ∧ AllBare s'.gens) st := by
  have rv := vals_ints theInts
  have lenV := theInts.length
  have tbAt : ∀ b, isTb K b → st.heap.get? b = some { cls := .none, data := .fields #[] } ∧ K.lookup b = none ∧ ∃ c, PySem.W.CodeHd st.heap c b := fun b ⟨p, hp, e⟩ => by
    obtain ⟨x, hx, c, ht, _⟩ := TT_of hp
    obtain ⟨h1, h2, h3⟩ := tabs x hx c p.1 ht
    rw [← e]
    exact ⟨h2, h3, c, h1⟩
  have aT : ¬ isTb K a := fun z => by
    have q := (tbAt a z).1
    rw [obj] at q
    have z' : Data.seq vs.toArray _ = Data.fields #[] := congrArg Obj.data (Option.some.inj q)
    cases z'
  -- an abstract heap that tracks nothing but the script and the tables
  have core : ∀ H : Hp, (∀ b, isTb K b → H b = some (.tbl #[])) → (∀ b, H b = none ∨ isTb K b ∨ ∃ o xs, H b = some (.frz o (.lst xs))) → SqL K H a (ns.map V.int) → HOk P w H st.heap → (∀ b, H b ≠ none → (b = a ∧ K.lookup a = none) ∨ isTb K b) →
      codeAny (model P w) callerA (.call (.ref fa) ⟨[.ref a], []⟩) (fun r s' => r = .ok (.ret (.bool true)) ∧ OldK st.heap s'.heap ∧ s'.os = st.os ∧ AllBare s'.gens) st := by
    intro H htb only seq hok at_a
    have noD : ∀ {b : Addr} {o : Obj}, st.heap.get? b = some o → (∀ vs n, o.data ≠ .seq vs n) → o.data ≠ .fields #[] → H b = none := fun {b o} e h1 h2 => by
      cases q : H b with
      | none => rfl
      | some u =>
        rcases at_a b (by rw [q]; intro z; cases z) with ⟨e', _⟩ | e'
        · rw [e', obj] at e
          cases e
          exact (h1 _ _ rfl).elim
        · rw [(tbAt b e').1] at e
          cases e
          exact (h2 rfl).elim
    have notA : ∀ {b : Addr} {o : Obj}, st.heap.get? b = some o → (∀ es ep, o.data = .dict es ep → H b = none) := fun {b o} e es ep d => noD e (fun vs n z => by rw [d] at z; cases z) fun z => by rw [d] at z; cases z
    have ns2 : ∀ {b : Addr} {mm : Str → Option Value}, st.heap.Ns b mm → (hidT st.heap H).Ns b mm := by
      rintro b mm ⟨o, es, ep, e, d, r⟩
      exact ⟨o, es, ep, hidT_get e (notA e es ep d), d, r⟩
    have inB : K.In (hidT st.heap H) := by
      intro b o e
      refine hidT_get (inK b o e) ?_
      cases q : H b with
      | none => rfl
      | some u =>
        rcases at_a b (by rw [q]; intro z; cases z) with ⟨rfl, z⟩ | z
        · rw [z] at e
          cases e
        · rw [(tbAt b z).2.1] at e
          cases e
    have md : Mod K mg (hidT st.heap H) := ⟨inB, ns2 hmg, ⟨mb, ns2 hmb, hboot⟩, by obtain ⟨mc, h1, h2⟩ := lim; exact ⟨mc, ns2 h1, h2⟩⟩
    have TB : TBs K mg (hidT st.heap H) := fun x hx c P ht => by
      obtain ⟨hC, hTp, _⟩ := tabs x hx c P ht
      refine ⟨?_, ?_, fun z => ?_⟩
      · obtain ⟨o, us, file, tf, flags, tg, inF, text, tt, e1, r1, r2, r3, r4, r5, r6, r7, r8, hne⟩ := hC
        refine ⟨o, us, file, tf, flags, tg, inF, text, tt, hidT_get e1 (noD e1 (fun vs n z => ?_) fun z => ?_), r1, r2, r3, r4, r5, r6, r7, r8, hne⟩
        · rw [r2] at z
          cases z
        · rw [r2] at z
          cases z
          simp at r3
      · obtain ⟨bm, ob, b1, b2, b3, b4, b5, b6⟩ := hbm
        have nG : bm ≠ mainGlobals := fun q => by
          obtain ⟨o, es, ep, e, hd, _⟩ := hmg
          rw [q, e] at b3
          cases b3
          rw [hd] at b6
          cases b6
        have nP : bm ≠ P := fun q => by
          rw [q, hTp] at b3
          cases b3
          cases b6
        refine ⟨bm, ob, b1, b2, nG, nP, hidT_get b3 (noD b3 (fun vs n z => ?_) fun z => ?_), b4, b5, b6⟩
        · rw [b6] at z
          cases z
        · rw [b6] at z
          cases z
      · obtain ⟨o, es, ep, e, hd, _⟩ := hmg
        rw [z, hTp] at e
        cases e
        cases hd
    have env : Env0 P w K mg (hidT st.heap H) callerA [] st H := ⟨rfl, md, fun _ _ e => of_hidT e, Nat.le_of_eq (hidT_size _ _), trivial, (fun b hb => absurd (show b ∈ ([] : List Addr) from hb) (by simp)), hok, .of_eq gens⟩
    obtain ⟨T', hT⟩ := says
    have subH : Sub (noTb K H) H := fun b u e => (noTb_some e).2
    have g0 : Good K ⟨noTb K H, noTb K H, []⟩ (noTb K H) H [] [] [] [] := by
      refine ⟨subH, subH, Sub.refl _, fun b o u e _ => ⟨o, e⟩, rfl, rfl, fun i c e => by simp at e, fun k v c q => ?_, fun k k' v c v' c' b q => ?_, fun i j e => by simp at e, fun i t ds e => by simp at e, fun p hp => ?_, noTb_no (K := K), noTb_no (K := K)⟩
      · match k with
        | .inl j => have := (ent_temp.mp q).1; simp at this
        | .inr j => have := (ent_slot.mp q).1; simp at this
      · match k with
        | .inl j => have := (ent_temp.mp q).1; simp at this
        | .inr j => have := (ent_slot.mp q).1; simp at this
      · exact LamX.TabS.nil (htb p.1 ⟨p, hp, rfl⟩)
    have g : Good K ⟨noTb K H, noTb K H, []⟩ (noTb K H) H [.ref a] [.sh (scriptD ns)] [] [] := g0.pushSh (by
      unfold scriptD Rep
      refine ⟨a, _, rfl, ?_, reps_ints ns⟩
      rcases seq with r | r
      · refine .inl ?_
        rcases r with r | ⟨o, r⟩
        · exact .inl ((noTb_of fun ps z => by rw [r] at z; cases z).trans r)
        · exact .inr ⟨o, (noTb_of fun ps z => by rw [r] at z; cases z).trans r⟩
      · exact .inr r)
    have asked : spM K ([x] : List Str).length m [.ref a] H (fun v H' => v = .bl true ∧ ∀ b o, noTb K H b = some o → H' b = some o) (fun _ _ _ => False) :=
      ⟨rfl, _, noTb K H, _, _, T', g, hT, trivial, fun v H' M' g' => ⟨g'.ok (.inl 0) v _ rfl, g'.bys⟩⟩
    refine codeAny_mono ((F _ inB (ns2 hmg) TB).run callerA [] st H ⟨[.ref a], []⟩ [.ref a] [.ref a] _ _ ⟨room, rfl⟩ env (bnd st (.ref a)) (.cons rfl .nil) asked) ?_
    rintro (er | fl) s' h
    · obtain ⟨_, _, _, _, _, _, _, _, _, _, _, _, bad⟩ := h
      exact bad.elim
    · cases fl with
      | next => exact h.elim
      | brk => exact h.elim
      | cont => exact h.elim
      | ret u =>
        obtain ⟨v, H', os, bare, un, hok', rel, hv, keep⟩ := h
        subst hv
        obtain rfl : u = Value.bool true := rel
        have key : ∀ b o, ¬ isTb K b → st.heap.get? b = some o → s'.heap.get? b = some o := fun b o nb e => by
          rcases only b with z | z | ⟨ob, xs, z⟩
          · exact un.keep b o e z (fun y => absurd (show b ∈ ([] : List Addr) from y) (by simp)) (by simp)
          · exact absurd z nb
          · obtain ⟨e1, _⟩ := hok b _ z
            obtain ⟨e2, _⟩ := hok' b _ (keep b _ ((noTb_of fun ps y => by rw [z] at y; cases y).trans z))
            rw [e1] at e
            rw [← Option.some.inj e]
            exact e2
        have grown : ∀ b, isTb K b → ∃ more : Array Value, s'.heap.get? b = some { cls := .none, data := .fields more } := fun b hb => by
          obtain ⟨more, z⟩ := un.tbls b #[] (htb b hb)
          exact ⟨_, hok' b _ z⟩
        refine ⟨rfl, ⟨fun b o e => ?_, fun b o e => ?_⟩, os, bare⟩
        · by_cases hb : isTb K b
          · obtain ⟨more, hm⟩ := grown b hb
            obtain ⟨q1, _, c, q2⟩ := tbAt b hb
            rw [q1] at e
            cases e
            exact .inr (.inl ⟨(q2.tab q1).isCodeTable, rfl, #[], more, rfl, by rw [Array.empty_append]; exact hm⟩)
          · exact .inl (key b o hb e)
        · by_cases hb : isTb K b
          · obtain ⟨more, hm⟩ := grown b hb
            exact ⟨_, hm⟩
          · exact ⟨o, key b o hb e⟩
  open Classical in
  cases hk : K.lookup a with
  | some o =>
    have e := inK a o hk
    rw [obj] at e
    have e2 := Option.some.inj e
    subst e2
    refine core (fun b => if isTb K b then some (.tbl #[]) else none) (fun b hb => if_pos hb) (fun b => ?_) (.inr ⟨_, vs.toArray, _, hk, rfl, rfl, rfl, by rw [List.size_toArray, lenV]; exact few, by simpa using rv⟩) (fun b u z => ?_) fun b z => ?_
    · by_cases hb : isTb K b
      · exact .inr (.inl hb)
      · exact .inl (if_neg hb)
    · by_cases hb : isTb K b
      · have z' := (if_pos hb).symm.trans z
        cases z'
        exact (tbAt b hb).1
      · have z' := (if_neg hb).symm.trans z
        cases z'
    · by_cases hb : isTb K b
      · exact .inr hb
      · exact absurd (if_neg hb) z
  | none =>
    refine core (fun b => if b = a then some (.frz { cls := .type "list", data := .seq vs.toArray } (.lst (ns.map V.int))) else if isTb K b then some (.tbl #[]) else none) (fun b hb => (if_neg (show ¬ b = a from fun z => aT (by rw [← z]; exact hb))).trans (if_pos hb)) (fun b => ?_) (.inl (.inr ⟨{ cls := .type "list", data := .seq vs.toArray }, if_pos rfl⟩)) (fun b u z => ?_) fun b z => ?_
    · by_cases hb : b = a
      · exact .inr (.inr ⟨_, _, if_pos hb⟩)
      · by_cases hb2 : isTb K b
        · exact .inr (.inl hb2)
        · exact .inl ((if_neg hb).trans (if_neg hb2))
    · by_cases hb : b = a
      · have z' := (if_pos hb).symm.trans z
        cases z'
        rw [hb]
        exact ⟨obj, by rw [List.length_map]; exact few, vs, _, rv, obj⟩
      · have z1 := (if_neg hb).symm.trans z
        by_cases hb2 : isTb K b
        · have z' := (if_pos hb2).symm.trans z1
          cases z'
          exact (tbAt b hb2).1
        · have z' := (if_neg hb2).symm.trans z1
          cases z'
    · by_cases hb : b = a
      · exact .inl ⟨hb, hk⟩
      · by_cases hb2 : isTb K b
        · exact .inr hb2
        · exact absurd ((if_neg hb).trans (if_neg hb2)) z
/-- the tables of the defs whose lambdas are made -/
def TabF (q : Program) (K : PySem.W.Frag) : Prop := ∀ x ∈ lamNames, (∃ d, (recsOf q).find? (fun e => e.name == x) = some d) ∧ ∀ c P, PySem.W.tabIn K x = some (c, P) → K.lookup P = none
theorem walk_G {l : PySem.W.OpenLaw} {k : Nat} {q : Program} {loose : List Str} {XP : (Str → Option Value) → Heap → Prop} {YP : World → Heap → Prop} {d : DefRec} {K : Params → PySem.W.Frag} {x : Str}
    (hn : l.most = some 63) (hdf : d.params.defaults = []) (room : Room k callerA) (hY : ∀ (w : World) (h : Heap), YP w h → (K w.params).In h) (hL : ∀ w : World, TabF q (K w.params))
    (F : ∀ (w : World) (mg : Str → Option Value) (fa : Addr) (h : Heap), (K w.params).In h → h.Ns mainGlobals mg → mg d.name = some (.ref fa) →
      ∃ (fd : FuncData) (m : MF), (∀ (s : Shared) (u : Value), BindsTo s fd ⟨[u], []⟩ [(x, u)]) ∧ (∀ base : Heap, (K w.params).In base → base.Ns mainGlobals mg → TBs (K w.params) mg base → FnG l.prog w (K w.params) mg base k fa fd [x] m) ∧ ∀ ns : List Int, ns.length ≤ 63 → SaysTrue m ns) :
    PySem.W.WalkO q loose XP YP l.row.toRowW d [] (fun f vs => PySem.call f vs) := by
  refine Att.attach_call hn hdf fun w s₀ s₁ mg mb fa o pm cd doc a vs ns G Y ho hd hcd hmg hobj hints hlen hg => ?_
  obtain ⟨fd, m, hb, hF, hs⟩ := F w mg fa _ (hY w _ Y) G.T.g hmg
  exact callG (hY w _ Y) G.T.g G.T.b G.T.builtins G.T.nolimit hg (fun x hx c P ht => by
    obtain ⟨⟨d', hd'⟩, h2⟩ := hL w x hx
    obtain ⟨q1, q2⟩ := PySem.W.tab_of G.T (hY w _ Y) hd' ht
    exact ⟨q1, q2, h2 c P ht⟩) G.T.bmain hobj hints (Nat.le_trans hlen (by rw [sizeLine_eq]; decide)) room hF hb (hs ns hlen)
end DL

set_option Elab.async false
set_option linter.all false
set_option maxRecDepth 100000
set_option maxHeartbeats 1000000
/-! the mirrors, run: what is asked of a mirror at a state, rule by rule -/
namespace DL
open PySem PySem.Spec PyProof.Rows L2

def evE (F : EF) (Γ : Gam) (Q : Cell → Gam → Prop) (X : Exc → Gam → Prop) : Prop := ∃ r Γ1, F Γ = some (r, Γ1) ∧ match r with
  | .val c => Q c Γ1
  | .exc x => X x Γ1
def evT (F : TF) (Γ : Gam) (Q : Bool → Gam → Prop) (X : Exc → Gam → Prop) : Prop := ∃ r Γ1, F Γ = some (r, Γ1) ∧ match r with
  | .val b => Q b Γ1
  | .exc x => X x Γ1
def evA (F : AF) (Γ : Gam) (Q : List Cell → Gam → Prop) (X : Exc → Gam → Prop) : Prop := ∃ r Γ1, F Γ = some (r, Γ1) ∧ match r with
  | .val cs => Q cs Γ1
  | .exc x => X x Γ1
def evI (F : IF) (Γ : Gam) (Q : List D → Gam → Prop) (X : Exc → Gam → Prop) : Prop := ∃ r Γ1, F Γ = some (r, Γ1) ∧ match r with
  | .val ds => Q ds Γ1
  | .exc x => X x Γ1
def evO (F : OF) (Γ : Gam) (Q : Option Int → Gam → Prop) (X : Exc → Gam → Prop) : Prop := ∃ r Γ1, F Γ = some (r, Γ1) ∧ match r with
  | .val o => Q o Γ1
  | .exc x => X x Γ1
def evP (P : D → Gam → Option Gam) (d : D) (Γ : Gam) (Q : Gam → Prop) : Prop := ∃ Γ1, P d Γ = some Γ1 ∧ Q Γ1
def evPs (P : List D → Gam → Option Gam) (ds : List D) (Γ : Gam) (Q : Gam → Prop) : Prop := ∃ Γ1, P ds Γ = some Γ1 ∧ Q Γ1
def flQ (N : Gam → Prop) (R : Cell → Gam → Prop) (B C : Gam → Prop) (X : Exc → Gam → Prop) : Fl → Prop
  | .nx Γ => N Γ
  | .rt c Γ => R c Γ
  | .bk Γ => B Γ
  | .ct Γ => C Γ
  | .xc x Γ => X x Γ
def evS (G : GS) (Γ : Gam) (N : Gam → Prop) (R : Cell → Gam → Prop) (B C : Gam → Prop) (X : Exc → Gam → Prop) : Prop := ∃ o, G Γ = some o ∧ flQ N R B C X o
def evM (m : MF) (T : List Cell) (Q : Cell → List Cell → Prop) (X : Exc → List Cell → Prop) : Prop := ∃ r T', m T = some (r, T') ∧ match r with
  | .val c => Q c T'
  | .exc x => X x T'
/-- an outcome -/
def evG (x : Option Out) (Γ : Gam) (Q : Cell → Gam → Prop) : Prop := ∃ o, x = some o ∧ okNew o = true ∧ Q o.cell Γ
def ev1 (g : D → Option Out) (x : Option D) (Γ : Gam) (Q : Cell → Gam → Prop) : Prop := ∃ d, x = some d ∧ evG (g d) Γ Q
def ev2 (g : D → D → Option Out) (x y : Option D) (Γ : Gam) (Q : Cell → Gam → Prop) : Prop := ∃ d e, x = some d ∧ y = some e ∧ evG (g d e) Γ Q
def evL (g : List D → Option Out) (x : Option (List D)) (Γ : Gam) (Q : Cell → Gam → Prop) : Prop := ∃ d, x = some d ∧ evG (g d) Γ Q
def evSome {α : Type} (x : Option α) (Q : α → Prop) : Prop := ∃ a, x = some a ∧ Q a
theorem evSome_mk {α : Type} {x : Option α} {Q : α → Prop} (a : α) (h : x = some a) (q : Q a) : evSome x Q := ⟨a, h, q⟩

section
variable {Γ : Gam} {X : Exc → Gam → Prop} {Q : Cell → Gam → Prop} {A B : EF}

theorem evE_bind {k : Cell → EF} (h : evE A Γ (fun c Γ1 => evE (k c) Γ1 Q X) X) : evE (bindE A k) Γ Q X := by
  obtain ⟨r, Γ1, e, q⟩ := h
  cases r with
  | val c =>
    obtain ⟨r2, Γ2, e2, q2⟩ := q
    exact ⟨r2, Γ2, by unfold bindE; rw [e]; exact e2, q2⟩
  | exc x => exact ⟨.exc x, Γ1, by unfold bindE; rw [e], q⟩
theorem evT_bind {k : Cell → TF} {Q : Bool → Gam → Prop} (h : evE A Γ (fun c Γ1 => evT (k c) Γ1 Q X) X) : evT (DL.bindB A k) Γ Q X := by
  obtain ⟨r, Γ1, e, q⟩ := h
  cases r with
  | val c =>
    obtain ⟨r2, Γ2, e2, q2⟩ := q
    exact ⟨r2, Γ2, by unfold DL.bindB; rw [e]; exact e2, q2⟩
  | exc x => exact ⟨.exc x, Γ1, by unfold DL.bindB; rw [e], q⟩
theorem evL_bind {k : List Cell → EF} {L : AF} (h : evA L Γ (fun c Γ1 => evE (k c) Γ1 Q X) X) : evE (DL.bindL L k) Γ Q X := by
  obtain ⟨r, Γ1, e, q⟩ := h
  cases r with
  | val c =>
    obtain ⟨r2, Γ2, e2, q2⟩ := q
    exact ⟨r2, Γ2, by unfold DL.bindL; rw [e]; exact e2, q2⟩
  | exc x => exact ⟨.exc x, Γ1, by unfold DL.bindL; rw [e], q⟩
theorem evS_bind {k : Cell → GS} {N R B' C} (h : evE A Γ (fun c Γ1 => evS (k c) Γ1 N R B' C X) X) : evS (bindS A k) Γ N R B' C X := by
  obtain ⟨r, Γ1, e, q⟩ := h
  cases r with
  | val c =>
    obtain ⟨r2, e2, q2⟩ := q
    exact ⟨r2, by unfold bindS; rw [e]; exact e2, q2⟩
  | exc x => exact ⟨.xc x Γ1, by unfold bindS; rw [e], q⟩
theorem evLS_bind {L : AF} {k : List Cell → GS} {N R B' C} (h : evA L Γ (fun c Γ1 => evS (k c) Γ1 N R B' C X) X) : evS (bindLS L k) Γ N R B' C X := by
  obtain ⟨r, Γ1, e, q⟩ := h
  cases r with
  | val c =>
    obtain ⟨r2, e2, q2⟩ := q
    exact ⟨r2, by unfold bindLS; rw [e]; exact e2, q2⟩
  | exc x => exact ⟨.xc x Γ1, by unfold bindLS; rw [e], q⟩
theorem evE_mono {Q' : Cell → Gam → Prop} {X' : Exc → Gam → Prop} (h : evE A Γ Q X) (q : ∀ c Γ1, Q c Γ1 → Q' c Γ1) (x : ∀ e Γ1, X e Γ1 → X' e Γ1) : evE A Γ Q' X' := by
  obtain ⟨r, Γ1, e, p⟩ := h
  refine ⟨r, Γ1, e, ?_⟩
  cases r with
  | val c => exact q _ _ p
  | exc c => exact x _ _ p

/-! ### expressions -/
theorem evVar {i : Nat} (c : Cell) (h : Γ[i]? = some (some c)) (q : Q (.br i) Γ) : evE (eVar i) Γ Q X := ⟨.val (.br i), Γ, by unfold eVar; rw [h], q⟩
theorem evC {v : V} (q : Q (.sh (.leaf v)) Γ) : evE (eC v) Γ Q X := ⟨_, _, rfl, q⟩
theorem evD {d : D} (q : Q (.sh d) Γ) : evE (eD d) Γ Q X := ⟨_, _, rfl, q⟩
theorem evKeep (h : evE A Γ (fun c Γ1 => evSome (keep Γ1 c) fun p => Q (.sh p.1) p.2) X) : evE (eKeep A) Γ Q X := by
  refine evE_bind (evE_mono h (fun c Γ1 q => ?_) fun _ _ z => z)
  obtain ⟨p, e, q⟩ := q
  exact ⟨.val (.sh p.1), p.2, by (try dsimp only); rw [e], q⟩
theorem evOut {x : Option Out} (h : evG x Γ Q) : evE (eOut x) Γ Q X := by
  obtain ⟨o, e, k, q⟩ := h
  exact ⟨.val o.cell, Γ, by unfold eOut; rw [e]; dsimp only; rw [if_pos k], q⟩
theorem evUn {g : D → Option Out} (h : evE A Γ (fun c Γ1 => ev1 g (look Γ1 c) Γ1 Q) X) : evE (eUn g A) Γ Q X := by
  refine evE_bind (evE_mono h (fun c Γ1 q => ?_) fun _ _ z => z)
  obtain ⟨d, e, q⟩ := q
  obtain ⟨r, Γ2, e2, q2⟩ := evOut (X := X) q
  exact ⟨r, Γ2, by (try dsimp only); rw [e]; exact e2, q2⟩
theorem evBin {g : D → D → Option Out} (h : evE A Γ (fun c Γ1 => evE B Γ1 (fun c' Γ2 => ev2 g (look Γ2 c) (look Γ2 c') Γ2 Q) X) X) : evE (eBin g A B) Γ Q X := by
  refine evE_bind (evE_mono h (fun c Γ1 h1 => evE_bind (evE_mono h1 (fun c' Γ2 q => ?_) fun _ _ z => z)) fun _ _ z => z)
  obtain ⟨d, e, h1, h2, q⟩ := q
  obtain ⟨r, Γ3, e2, q2⟩ := evOut (X := X) q
  exact ⟨r, Γ3, by (try dsimp only); rw [h1, h2]; exact e2, q2⟩
/-- the bool that is looked at -/
def evBl (x : Option D) (Q : Bool → Prop) : Prop := ∃ b, x = some (.leaf (.bl b)) ∧ Q b
theorem evBl_mk {x : Option D} {b : Bool} {Q : Bool → Prop} (hx : x = some (.leaf (.bl b))) (q : Q b) : evBl x Q := ⟨b, hx, q⟩
theorem evTof {Q : Bool → Gam → Prop} (h : evE A Γ (fun c Γ1 => evBl (look Γ1 c) fun b => Q b Γ1) X) : evT (tOf A) Γ Q X := by
  refine evT_bind (evE_mono h (fun c Γ1 q => ?_) fun _ _ z => z)
  obtain ⟨b, e, q⟩ := q
  exact ⟨.val b, Γ1, by (try dsimp only); rw [e], q⟩
theorem evTand {t u : TF} {Q : Bool → Gam → Prop} (h : evT t Γ (fun b Γ1 => (b = true → evT u Γ1 Q X) ∧ (b = false → Q false Γ1)) X) : evT (tAndD t u) Γ Q X := by
  obtain ⟨r, Γ1, e, q⟩ := h
  cases r with
  | val b => cases b with
    | true =>
      obtain ⟨r2, Γ2, e2, q2⟩ := q.1 rfl
      exact ⟨r2, Γ2, by unfold tAndD; rw [e]; exact e2, q2⟩
    | false => exact ⟨.val false, Γ1, by unfold tAndD; rw [e], q.2 rfl⟩
  | exc x => exact ⟨.exc x, Γ1, by unfold tAndD; rw [e], q⟩
theorem evTor {t u : TF} {Q : Bool → Gam → Prop} (h : evT t Γ (fun b Γ1 => (b = true → Q true Γ1) ∧ (b = false → evT u Γ1 Q X)) X) : evT (tOrD t u) Γ Q X := by
  obtain ⟨r, Γ1, e, q⟩ := h
  cases r with
  | val b => cases b with
    | true => exact ⟨.val true, Γ1, by unfold tOrD; rw [e], q.1 rfl⟩
    | false =>
      obtain ⟨r2, Γ2, e2, q2⟩ := q.2 rfl
      exact ⟨r2, Γ2, by unfold tOrD; rw [e]; exact e2, q2⟩
  | exc x => exact ⟨.exc x, Γ1, by unfold tOrD; rw [e], q⟩
theorem evTnot {t : TF} {Q : Bool → Gam → Prop} (h : evT t Γ (fun b Γ1 => Q (!b) Γ1) X) : evT (tNotD t) Γ Q X := by
  obtain ⟨r, Γ1, e, q⟩ := h
  cases r with
  | val b => exact ⟨.val (!b), Γ1, by unfold tNotD; rw [e], q⟩
  | exc x => exact ⟨.exc x, Γ1, by unfold tNotD; rw [e], q⟩
theorem evTyes {Q : Bool → Gam → Prop} (q : Q true Γ) : evT tYesD Γ Q X := ⟨.val true, Γ, rfl, q⟩
theorem evEand (h : evE A Γ (fun c Γ1 => evBl (look Γ1 c) fun b => (b = true → evE B Γ1 Q X) ∧ (b = false → Q (.sh (.leaf (.bl false))) Γ1)) X) : evE (eAndD A B) Γ Q X := by
  refine evE_bind (evE_mono h (fun c Γ1 q => ?_) fun _ _ z => z)
  obtain ⟨b, e, q⟩ := q
  cases b with
  | true =>
    obtain ⟨r2, Γ2, e2, q2⟩ := q.1 rfl
    exact ⟨r2, Γ2, by (try dsimp only); rw [e]; exact e2, q2⟩
  | false => exact ⟨_, Γ1, by (try dsimp only); rw [e], q.2 rfl⟩
theorem evEor (h : evE A Γ (fun c Γ1 => evBl (look Γ1 c) fun b => (b = true → Q (.sh (.leaf (.bl true))) Γ1) ∧ (b = false → evE B Γ1 Q X)) X) : evE (eOrD A B) Γ Q X := by
  refine evE_bind (evE_mono h (fun c Γ1 q => ?_) fun _ _ z => z)
  obtain ⟨b, e, q⟩ := q
  cases b with
  | true => exact ⟨_, Γ1, by (try dsimp only); rw [e], q.1 rfl⟩
  | false =>
    obtain ⟨r2, Γ2, e2, q2⟩ := q.2 rfl
    exact ⟨r2, Γ2, by (try dsimp only); rw [e]; exact e2, q2⟩
theorem evEnot (h : evE A Γ (fun c Γ1 => evBl (look Γ1 c) fun b => Q (.sh (.leaf (.bl (!b)))) Γ1) X) : evE (eNotD A) Γ Q X := by
  refine evE_bind (evE_mono h (fun c Γ1 q => ?_) fun _ _ z => z)
  obtain ⟨b, e, q⟩ := q
  exact ⟨_, Γ1, by (try dsimp only); rw [e], q⟩
theorem evIf {t : TF} (h : evT t Γ (fun b Γ1 => (b = true → evE A Γ1 Q X) ∧ (b = false → evE B Γ1 Q X)) X) : evE (eIf t A B) Γ Q X := by
  obtain ⟨r, Γ1, e, q⟩ := h
  cases r with
  | val b => cases b with
    | true =>
      obtain ⟨r2, Γ2, e2, q2⟩ := q.1 rfl
      exact ⟨r2, Γ2, by unfold eIf; rw [e]; exact e2, q2⟩
    | false =>
      obtain ⟨r2, Γ2, e2, q2⟩ := q.2 rfl
      exact ⟨r2, Γ2, by unfold eIf; rw [e]; exact e2, q2⟩
  | exc x => exact ⟨.exc x, Γ1, by unfold eIf; rw [e], q⟩
def ev2B (g : D → D → Option Out) (x y : Option D) (Q : Bool → Prop) : Prop := ∃ d e b, x = some d ∧ y = some e ∧ g d e = some (.old (.leaf (.bl b))) ∧ Q b
theorem evChain {g g' : D → D → Option Out} {C : EF} (h : evE A Γ (fun c Γ1 => evE B Γ1 (fun c' Γ2 => ev2B g (look Γ2 c) (look Γ2 c') fun b => (b = true → evE C Γ2 (fun c2 Γ3 => ev2 g' (look Γ3 c') (look Γ3 c2) Γ3 Q) X) ∧ (b = false → Q (.sh (.leaf (.bl false))) Γ2)) X) X) : evE (eChain g g' A B C) Γ Q X := by
  refine evE_bind (evE_mono h (fun c Γ1 h1 => evE_bind (evE_mono h1 (fun c' Γ2 q => ?_) fun _ _ z => z)) fun _ _ z => z)
  obtain ⟨d, e, b, h1, h2, h3, q⟩ := q
  cases b with
  | true =>
    have z : evE (DL.bindE C (fun c2 Γ2 => match look Γ2 c', look Γ2 c2 with
      | some e, some e' => eOut (g' e e') Γ2
      | _, _ => none)) Γ2 Q X := by
      refine evE_bind (evE_mono (q.1 rfl) (fun c2 Γ3 q => ?_) fun _ _ z => z)
      obtain ⟨d, e, h1, h2, q⟩ := q
      obtain ⟨r, Γ4, e2, q2⟩ := evOut (X := X) q
      exact ⟨r, Γ4, by (try dsimp only); rw [h1, h2]; exact e2, q2⟩
    obtain ⟨r, Γ4, e2, q2⟩ := z
    exact ⟨r, Γ4, by (try dsimp only); rw [h1, h2]; dsimp only; rw [h3]; exact e2, q2⟩
  | false => exact ⟨.val (.sh (.leaf (.bl false))), Γ2, by (try dsimp only); rw [h1, h2]; dsimp only; rw [h3], q.2 rfl⟩
theorem evNil {Q : List Cell → Gam → Prop} (q : Q [] Γ) : evA aNil Γ Q X := ⟨_, _, rfl, q⟩
theorem evCons {L : AF} {Q : List Cell → Gam → Prop} (h : evE A Γ (fun c Γ1 => evA L Γ1 (fun cs Γ2 => Q (c :: cs) Γ2) X) X) : evA (aCons A L) Γ Q X := by
  obtain ⟨r, Γ1, e, q⟩ := h
  cases r with
  | val c =>
    obtain ⟨r2, Γ2, e2, q2⟩ := q
    cases r2 with
    | val cs => exact ⟨.val (c :: cs), Γ2, by unfold aCons; rw [e]; dsimp only; rw [e2], q2⟩
    | exc x => exact ⟨.exc x, Γ2, by unfold aCons; rw [e]; dsimp only; rw [e2], q2⟩
  | exc x => exact ⟨.exc x, Γ1, by unfold aCons; rw [e], q⟩
theorem evA_mono {L : AF} {Q Q' : List Cell → Gam → Prop} (h : evA L Γ Q X) (q : ∀ c Γ1, Q c Γ1 → Q' c Γ1) : evA L Γ Q' X := by
  obtain ⟨r, Γ1, e, p⟩ := h
  refine ⟨r, Γ1, e, ?_⟩
  cases r with
  | val c => exact q _ _ p
  | exc c => exact p
theorem evOfL {g : List D → Option Out} {L : AF} (h : evA L Γ (fun cs Γ1 => evL g (shs cs) Γ1 Q) X) : evE (eOfL g L) Γ Q X := by
  refine evL_bind (evA_mono h fun c Γ1 q => ?_)
  obtain ⟨d, e, q⟩ := q
  obtain ⟨r, Γ2, e2, q2⟩ := evOut (X := X) q
  exact ⟨r, Γ2, by (try dsimp only); rw [e]; exact e2, q2⟩
theorem evBI {g : List D → Option Out} {L : AF} (h : evA L Γ (fun cs Γ1 => evL g (lookL Γ1 cs) Γ1 Q) X) : evE (eBI g L) Γ Q X := by
  refine evL_bind (evA_mono h fun c Γ1 q => ?_)
  obtain ⟨d, e, q⟩ := q
  obtain ⟨r, Γ2, e2, q2⟩ := evOut (X := X) q
  exact ⟨r, Γ2, by (try dsimp only); rw [e]; exact e2, q2⟩
theorem evSolid (h : evE A Γ (fun c Γ1 => evSome (solid Γ1 c) fun p => Q p.1 p.2) X) : evE (eSolid A) Γ Q X := by
  refine evE_bind (evE_mono h (fun c Γ1 q => ?_) fun _ _ z => z)
  obtain ⟨p, e, q⟩ := q
  exact ⟨.val p.1, p.2, by (try dsimp only); rw [e], q⟩
theorem evDict0 (q : Q (.ow (.dk []) []) Γ) : evE eDict0 Γ Q X := ⟨_, _, rfl, q⟩
theorem evDisp {ks : List Key} {Es : List EF} (h : evA (aKeeps Es) Γ (fun cs Γ1 => evSome (shs cs) fun ds => ks.length = ds.length ∧ Q (.ow (.dk ks) ds) Γ1) X) : evE (eDisp ks Es) Γ Q X := by
  obtain ⟨r, Γ1, e, q⟩ := h
  cases r with
  | val cs =>
    obtain ⟨ds, e2, n, q⟩ := q
    exact ⟨.val (.ow (.dk ks) ds), Γ1, by unfold eDisp; rw [e]; dsimp only; rw [e2]; dsimp only; rw [if_pos n], q⟩
  | exc x => exact ⟨.exc x, Γ1, by unfold eDisp; rw [e], q⟩
theorem evONone {Q : Option Int → Gam → Prop} (q : Q none Γ) : evO oNone Γ Q X := ⟨_, _, rfl, q⟩
def evInt (x : Option D) (Q : Int → Prop) : Prop := ∃ i, x = some (.leaf (.int i)) ∧ Q i
theorem evInt_mk {x : Option D} {i : Int} {Q : Int → Prop} (hx : x = some (.leaf (.int i))) (q : Q i) : evInt x Q := ⟨i, hx, q⟩
theorem evOSome {Q : Option Int → Gam → Prop} (h : evE A Γ (fun c Γ1 => evInt (look Γ1 c) fun i => Q (some i) Γ1) X) : evO (oSome A) Γ Q X := by
  obtain ⟨r, Γ1, e, q⟩ := h
  cases r with
  | val c =>
    obtain ⟨i, e2, q⟩ := q
    exact ⟨.val (some i), Γ1, by unfold oSome; rw [e]; dsimp only; rw [e2], q⟩
  | exc x => exact ⟨.exc x, Γ1, by unfold oSome; rw [e], q⟩
theorem evSlice {F F' : OF} (h : evE A Γ (fun c Γ1 => evO F Γ1 (fun lo Γ2 => evO F' Γ2 (fun hi Γ3 => ev1 (gCut lo hi) (look Γ3 c) Γ3 Q) X) X) X) : evE (eSlice A F F') Γ Q X := by
  refine evE_bind (evE_mono h (fun c Γ1 q => ?_) fun _ _ z => z)
  obtain ⟨r, Γ2, e, q⟩ := q
  cases r with
  | val lo =>
    obtain ⟨r, Γ3, e2, q⟩ := q
    cases r with
    | val hi =>
      obtain ⟨d, e3, q⟩ := q
      obtain ⟨r, Γ4, e4, q⟩ := evOut (X := X) q
      exact ⟨r, Γ4, by (try dsimp only); rw [e]; dsimp only; rw [e2]; dsimp only; rw [e3]; exact e4, q⟩
    | exc x => exact ⟨.exc x, Γ3, by (try dsimp only); rw [e]; dsimp only; rw [e2], q⟩
  | exc x => exact ⟨.exc x, Γ2, by (try dsimp only); rw [e], q⟩
theorem evMut {i : Nat} {tn : String} {g : Tag → List D → List D → Option (D × Tag × List D)} {L : AF}
    (h0 : evSome (slotO Γ i) fun p => tagTy p.1 = tn ∧ tn ≠ "-")
    (h : evA L Γ (fun cs Γ1 => evSome (shs cs) fun es => evSome (slotO Γ1 i) fun p => evSome (g p.1 p.2 es) fun q => evSome (slotP Γ1 i q.2.1 q.2.2) fun Γ2 => Q (.sh q.1) Γ2) X) : evE (eMut i tn g L) Γ Q X := by
  obtain ⟨p, e, c⟩ := h0
  have z : evE (DL.bindL L (fun cs Γ1 => match shs cs, slotO Γ1 i with
    | some es, some (t, ds) => (match g t ds es with
      | some (d, t', ds') => (match slotP Γ1 i t' ds' with
        | some Γ2 => some (.val (.sh d), Γ2)
        | none => none)
      | none => none)
    | _, _ => none)) Γ Q X := by
    refine evL_bind (evA_mono h fun cs Γ1 q => ?_)
    obtain ⟨es, e1, ⟨t, ds⟩, e2, ⟨d, t', ds'⟩, e3, Γ2, e4, q⟩ := q
    exact ⟨.val (.sh d), Γ2, by (try dsimp only); rw [e1, e2]; dsimp only; rw [e3]; dsimp only; rw [e4], q⟩
  obtain ⟨r, Γ1, e1, q⟩ := z
  exact ⟨r, Γ1, by unfold eMut; rw [e]; dsimp only; rw [if_pos c]; exact e1, q⟩
theorem evCall {n : Nat} {m : MF} {dfl : List D} {L : AF}
    (h : evA L Γ (fun cs Γ1 => cs.length + dfl.length = n ∧ evSome (argsC Γ1 cs) fun p => evM m (p.1 ++ dfl.map .sh) (fun c T' => evSome (putB Γ1 p.2 T') fun Γ' => isSolid c = true ∧ Q c Γ') (fun x T' => evSome (putB Γ1 p.2 T') fun Γ' => X x Γ')) X) : evE (eCallN n m dfl L) Γ Q X := by
  refine evL_bind (evA_mono h fun cs Γ1 q => ?_)
  obtain ⟨n0, ⟨T, b⟩, e1, r, T', e2, q⟩ := q
  cases r with
  | val c =>
    obtain ⟨Γ', e3, k, q⟩ := q
    exact ⟨.val c, Γ', by (try dsimp only); rw [if_pos n0, e1]; dsimp only; rw [e2]; dsimp only; rw [e3]; dsimp only; rw [if_pos k], q⟩
  | exc x =>
    obtain ⟨Γ', e3, q⟩ := q
    exact ⟨.exc x, Γ', by (try dsimp only); rw [if_pos n0, e1]; dsimp only; rw [e2]; dsimp only; rw [e3], q⟩
end
end DL

set_option Elab.async false
set_option linter.all false
set_option maxRecDepth 100000
set_option maxHeartbeats 1000000
/-! the mirrors, run: states, statements, loops, calls -/
namespace DL
open PySem PySem.Spec PyProof.Rows L2

/-! ### a state is written by parts, so that a written state stays a list -/
def setG : Nat → Option Cell → Gam → Option Gam
  | _, _, [] => none
  | 0, c, _ :: Γ => some (c :: Γ)
  | i + 1, c, x :: Γ => match setG i c Γ with
    | some Γ' => some (x :: Γ')
    | none => none
theorem setG_eq : ∀ (Γ : Gam) (i : Nat) (c : Option Cell), setG i c Γ = if i < Γ.length then some (Γ.set i c) else none
  | [], i, c => by cases i <;> rfl
  | x :: Γ, 0, c => by simp [setG]
  | x :: Γ, i + 1, c => by
    simp only [setG, setG_eq Γ i c, List.length_cons, Nat.add_lt_add_iff_right, List.set_cons_succ]
    by_cases h : i < Γ.length <;> simp [h]
theorem setG_set {Γ Γ' : Gam} {i : Nat} {c : Option Cell} (h : setG i c Γ = some Γ') : Γ.set i c = Γ' := by
  rw [setG_eq] at h
  split at h
  · exact Option.some.inj h
  · cases h
theorem setG_lt {Γ Γ' : Gam} {i : Nat} {c : Option Cell} (h : setG i c Γ = some Γ') : i < Γ.length := by
  rw [setG_eq] at h
  split at h
  · assumption
  · cases h
/-- a name is bound -/
def putN (i : Nat) (c : Cell) (Γ : Gam) : Option Gam := match isRf Γ[i]? with
  | true => none
  | false => setG i (some c) Γ
theorem putN_set {i : Nat} {c : Cell} {Γ Γ' : Gam} (h : putN i c Γ = some Γ') : setC i c Γ = some Γ' := by
  unfold putN at h
  split at h
  · cases h
  · rename_i k
    unfold setC
    rw [if_pos (setG_lt h), if_neg (by rw [k]; exact Bool.false_ne_true), setG_set h]
def keepN (Γ : Gam) : Cell → Option (D × Gam)
  | .sh d => some (d, Γ)
  | .ow t ds => some (.node t ds, Γ)
  | .rf _ _ => none
  | .br i => match Γ[i]? with
    | some (some (.sh d)) => some (d, Γ)
    | some (some (.ow t ds)) => match setG i (some (.sh (.node t ds))) Γ with
      | some Γ' => some (.node t ds, Γ')
      | none => none
    | _ => none
  | .on _ _ => none
theorem keepN_keep {Γ : Gam} {c : Cell} {p : D × Gam} (h : keepN Γ c = some p) : keep Γ c = some p := by
  unfold keepN at h
  unfold keep
  split at h
  · exact h
  · exact h
  · cases h
  · split at h
    · rename_i e; (try dsimp only); (try rw [e]); exact h
    · rename_i e
      split at h
      · rename_i e2; (try dsimp only); (try rw [e]); (try dsimp only); rw [setG_set e2]; exact h
      · cases h
    · cases h
  · cases h
def solidN (Γ : Gam) : Cell → Option (Cell × Gam)
  | .sh d => some (.sh d, Γ)
  | .ow t ds => some (.ow t ds, Γ)
  | .rf _ _ => none
  | .br i => match keepN Γ (.br i) with
    | some (d, Γ') => some (.sh d, Γ')
    | none => none
  | .on t os => some (.on t os, Γ)
theorem solidN_solid {Γ : Gam} {c : Cell} {p : Cell × Gam} (h : solidN Γ c = some p) : solid Γ c = some p := by
  unfold solidN at h
  unfold solid
  split at h
  · exact h
  · exact h
  · cases h
  · split at h
    · rename_i e; (try dsimp only); rw [keepN_keep e]; exact h
    · cases h
  · exact h
def slotN (Γ : Gam) (i : Nat) (t : Tag) (ds : List D) : Option Gam := match Γ[i]? with
  | some (some (.ow _ _)) => setG i (some (.ow t ds)) Γ
  | some (some (.rf _ _)) => setG i (some (.rf t ds)) Γ
  | _ => none
theorem slotN_slotP {Γ Γ' : Gam} {i : Nat} {t : Tag} {ds : List D} (h : slotN Γ i t ds = some Γ') : slotP Γ i t ds = some Γ' := by
  unfold slotN at h
  unfold slotP
  split at h
  · rename_i e; (try rw [e]); (try dsimp only); rw [setG_set h]
  · rename_i e; (try rw [e]); (try dsimp only); rw [setG_set h]
  · cases h
def putBN (Γ : Gam) (b : Option (Nat × Nat)) (T' : List Cell) : Option Gam := match b with
  | none => some Γ
  | some (i, j) => match T'[j]? with
    | some (.ow t ds) => slotN Γ i t ds
    | _ => none
theorem putBN_putB {Γ Γ' : Gam} {b : Option (Nat × Nat)} {T' : List Cell} (h : putBN Γ b T' = some Γ') : putB Γ b T' = some Γ' := by
  unfold putBN at h
  unfold putB
  split at h
  · exact h
  · rename_i i j
    split at h
    · rename_i t ds e
      (try dsimp only)
      (try rw [e])
      exact slotN_slotP h
    · cases h
def evKp (Γ : Gam) (c : Cell) (Q : D → Gam → Prop) : Prop := ∃ d Γ', keepN Γ c = some (d, Γ') ∧ Q d Γ'
theorem evKp_mk {Γ : Gam} {c : Cell} {Q : D → Gam → Prop} (d : D) (Γ' : Gam) (h : keepN Γ c = some (d, Γ')) (q : Q d Γ') : evKp Γ c Q := ⟨d, Γ', h, q⟩
def evSd (Γ : Gam) (c : Cell) (Q : Cell → Gam → Prop) : Prop := ∃ d Γ', solidN Γ c = some (d, Γ') ∧ Q d Γ'
theorem evSd_mk {Γ : Gam} {c : Cell} {Q : Cell → Gam → Prop} (d : Cell) (Γ' : Gam) (h : solidN Γ c = some (d, Γ')) (q : Q d Γ') : evSd Γ c Q := ⟨d, Γ', h, q⟩
def evSt (Γ : Gam) (i : Nat) (Q : Tag → List D → Prop) : Prop := ∃ t ds, slotO Γ i = some (t, ds) ∧ Q t ds
theorem evSt_mk {Γ : Gam} {i : Nat} {Q : Tag → List D → Prop} (t : Tag) (ds : List D) (h : slotO Γ i = some (t, ds)) (q : Q t ds) : evSt Γ i Q := ⟨t, ds, h, q⟩
/-- what a mutating method gives -/
def evMu (x : Option (D × Tag × List D)) (Q : D → Tag → List D → Prop) : Prop := ∃ d t ds, x = some (d, t, ds) ∧ Q d t ds
def evPt (x : Option (Tag × List D)) (Q : Tag → List D → Prop) : Prop := ∃ t ds, x = some (t, ds) ∧ Q t ds
theorem evPt_mk {x : Option (Tag × List D)} {Q : Tag → List D → Prop} (t : Tag) (ds : List D) (h : x = some (t, ds)) (q : Q t ds) : evPt x Q := ⟨t, ds, h, q⟩

section
variable {Γ : Gam} {X : Exc → Gam → Prop} {Q : Cell → Gam → Prop} {A B : EF} {N : Gam → Prop} {R : Cell → Gam → Prop} {Bk Ct : Gam → Prop}
theorem evKeepN (h : evE A Γ (fun c Γ1 => evKp Γ1 c fun d Γ2 => Q (.sh d) Γ2) X) : evE (eKeep A) Γ Q X :=
  evKeep (evE_mono h (fun c Γ1 ⟨d, Γ2, e, q⟩ => ⟨(d, Γ2), keepN_keep e, q⟩) fun _ _ z => z)
theorem evSolidN (h : evE A Γ (fun c Γ1 => evSd Γ1 c Q) X) : evE (eSolid A) Γ Q X :=
  evSolid (evE_mono h (fun c Γ1 ⟨d, Γ2, e, q⟩ => ⟨(d, Γ2), solidN_solid e, q⟩) fun _ _ z => z)
theorem evMutN {i : Nat} {tn : String} {g : Tag → List D → List D → Option (D × Tag × List D)} {L : AF}
    (h0 : evSt Γ i fun t _ => tagTy t = tn ∧ tn ≠ "-")
    (h : evA L Γ (fun cs Γ1 => evSome (shs cs) fun es => evSt Γ1 i fun t ds => evMu (g t ds es) fun d t' ds' => evSome (slotN Γ1 i t' ds') fun Γ2 => Q (.sh d) Γ2) X) : evE (eMut i tn g L) Γ Q X := by
  obtain ⟨t, ds, e, c⟩ := h0
  refine evMut ⟨(t, ds), e, c⟩ (evA_mono h fun cs Γ1 ⟨es, e1, t, ds, e2, d, t', ds', e3, Γ2, e4, q⟩ => ⟨es, e1, (t, ds), e2, (d, t', ds'), e3, Γ2, slotN_slotP e4, q⟩)
theorem evM_mono {m : MF} {T : List Cell} {Q Q' : Cell → List Cell → Prop} {X X' : Exc → List Cell → Prop} (h : evM m T Q X) (q : ∀ c T', Q c T' → Q' c T') (x : ∀ c T', X c T' → X' c T') : evM m T Q' X' := by
  obtain ⟨r, T', e, p⟩ := h
  refine ⟨r, T', e, ?_⟩
  cases r with
  | val c => exact q _ _ p
  | exc c => exact x _ _ p
theorem evCallN {n : Nat} {m : MF} {dfl : List D} {L : AF}
    (h : evA L Γ (fun cs Γ1 => cs.length + dfl.length = n ∧ evSome (argsC Γ1 cs) fun p => evM m (p.1 ++ dfl.map .sh) (fun c T' => evSome (putBN Γ1 p.2 T') fun Γ' => isSolid c = true ∧ Q c Γ') (fun x T' => evSome (putBN Γ1 p.2 T') fun Γ' => X x Γ')) X) : evE (eCallN n m dfl L) Γ Q X := by
  refine evCall (evA_mono h fun cs Γ1 ⟨n0, p, e1, q⟩ => ⟨n0, p, e1, evM_mono q (fun c T' ⟨Γ', e, q⟩ => ⟨Γ', putBN_putB e, q⟩) fun c T' ⟨Γ', e, q⟩ => ⟨Γ', putBN_putB e, q⟩⟩)
/-- a call whose answer is known -/
theorem evCallE {n : Nat} {m : MF} {L : AF}
    (h : evA L Γ (fun cs Γ1 => cs.length + 0 = n ∧ evSome (argsC Γ1 cs) fun p => evM m p.1 (fun c T' => evSome (putBN Γ1 p.2 T') fun Γ' => isSolid c = true ∧ Q c Γ') (fun x T' => evSome (putBN Γ1 p.2 T') fun Γ' => X x Γ')) X) : evE (eCallN n m [] L) Γ Q X := by
  refine evCallN (evA_mono h fun cs Γ1 ⟨n0, p, e1, q⟩ => ⟨n0, p, e1, ?_⟩)
  show evM m (p.1 ++ []) _ _
  rw [List.append_nil]
  exact q
/-! ### statements -/
theorem evSNil (q : N Γ) : evS sNil Γ N R Bk Ct X := ⟨_, rfl, q⟩
theorem evPass (q : N Γ) : evS sPass Γ N R Bk Ct X := ⟨_, rfl, q⟩
theorem evBreak (q : Bk Γ) : evS sBreak Γ N R Bk Ct X := ⟨_, rfl, q⟩
theorem evCont (q : Ct Γ) : evS sCont Γ N R Bk Ct X := ⟨_, rfl, q⟩
theorem evRetN (q : R (.sh (.leaf .non)) Γ) : evS sRetN Γ N R Bk Ct X := ⟨_, rfl, q⟩
theorem evSeq {G G' : GS} (h : evS G Γ (fun Γ1 => evS G' Γ1 N R Bk Ct X) R Bk Ct X) : evS (sSeq G G') Γ N R Bk Ct X := by
  obtain ⟨o, e, q⟩ := h
  cases o with
  | nx Γ1 =>
    obtain ⟨o2, e2, q2⟩ := q
    exact ⟨o2, by unfold sSeq; rw [e]; exact e2, q2⟩
  | rt c Γ1 => exact ⟨.rt c Γ1, by unfold sSeq; rw [e], q⟩
  | bk Γ1 => exact ⟨.bk Γ1, by unfold sSeq; rw [e], q⟩
  | ct Γ1 => exact ⟨.ct Γ1, by unfold sSeq; rw [e], q⟩
  | xc x Γ1 => exact ⟨.xc x Γ1, by unfold sSeq; rw [e], q⟩
theorem evExpr (h : evE A Γ (fun _ Γ1 => N Γ1) X) : evS (sExpr A) Γ N R Bk Ct X :=
  evS_bind (evE_mono h (fun c Γ1 q => ⟨_, rfl, q⟩) fun _ _ z => z)
theorem evRet (h : evE A Γ R X) : evS (sRet A) Γ N R Bk Ct X :=
  evS_bind (evE_mono h (fun c Γ1 q => ⟨_, rfl, q⟩) fun _ _ z => z)
theorem evSIf {t : TF} {G G' : GS} (h : evT t Γ (fun b Γ1 => (b = true → evS G Γ1 N R Bk Ct X) ∧ (b = false → evS G' Γ1 N R Bk Ct X)) X) : evS (sIf t G G') Γ N R Bk Ct X := by
  obtain ⟨r, Γ1, e, q⟩ := h
  cases r with
  | val b => cases b with
    | true =>
      obtain ⟨r2, e2, q2⟩ := q.1 rfl
      exact ⟨r2, by unfold sIf; rw [e]; exact e2, q2⟩
    | false =>
      obtain ⟨r2, e2, q2⟩ := q.2 rfl
      exact ⟨r2, by unfold sIf; rw [e]; exact e2, q2⟩
  | exc x => exact ⟨.xc x Γ1, by unfold sIf; rw [e], q⟩
theorem evSet {i : Nat} (h : evE A Γ (fun c Γ1 => evSd Γ1 c fun c' Γ2 => evSome (putN i c' Γ2) N) X) : evS (sSet i A) Γ N R Bk Ct X :=
  evS_bind (evE_mono h (fun c Γ1 ⟨c', Γ2, e, Γ3, e2, q⟩ => ⟨.nx Γ3, by dsimp only; rw [solidN_solid e]; dsimp only; rw [putN_set e2], q⟩) fun _ _ z => z)
def evPr (cs : List Cell) (Q : Cell → Cell → Prop) : Prop := ∃ c e, cs = [c, e] ∧ isSolid c = true ∧ isSolid e = true ∧ Q c e
theorem evPr_mk {c e : Cell} {Q : Cell → Cell → Prop} (h1 : isSolid c = true) (h2 : isSolid e = true) (q : Q c e) : evPr [c, e] Q := ⟨c, e, rfl, h1, h2, q⟩
theorem evPar {i j : Nat} {L : AF} (h : evA L Γ (fun cs Γ1 => evPr cs fun c e => evSome (putN j e Γ1) fun Γ2 => evSome (putN i c Γ2) N) X) : evS (sPar i j L) Γ N R Bk Ct X :=
  evLS_bind (evA_mono h fun cs Γ1 ⟨c, e, e1, k1, k2, Γ2, e2, Γ3, e3, q⟩ => ⟨.nx Γ3, by
    subst e1
    unfold kPar
    dsimp only
    rw [k1, k2, if_pos (by rfl), putN_set e2]
    dsimp only
    rw [putN_set e3], q⟩)
theorem evStore {i : Nat} (h : evE A Γ (fun c Γ1 => evKp Γ1 c fun d Γ2 => evSt Γ2 i fun _ _ => evE B Γ2 (fun c2 Γ3 => evSome (look Γ3 c2) fun k => evSt Γ3 i fun t ds => evPt (gStore t ds k d) fun t' ds' => evSome (slotN Γ3 i t' ds') N) X) X) : evS (sStore i A B) Γ N R Bk Ct X := by
  unfold sStore
  refine evS_bind (evKeepN (evE_mono h (fun c Γ1 q => ?_) fun _ _ z => z))
  obtain ⟨d, Γ2, e1, t0, ds0, e2, r, Γ3, e3, q⟩ := q
  refine ⟨d, Γ2, e1, ?_⟩
  cases r with
  | val c2 =>
    obtain ⟨k, e4, t, ds, e5, t', ds', e6, Γ4, e7, q⟩ := q
    exact ⟨.nx Γ4, by dsimp only; rw [e2]; dsimp only; rw [e3]; dsimp only; rw [e4, e5]; dsimp only; rw [e6]; dsimp only; rw [slotN_slotP e7], q⟩
  | exc x => exact ⟨.xc x Γ3, by dsimp only; rw [e2]; dsimp only; rw [e3], q⟩
theorem evAsg {P : D → Gam → Option Gam} (h : evE A Γ (fun c Γ1 => evKp Γ1 c fun d Γ2 => evP P d Γ2 N) X) : evS (sAsg P A) Γ N R Bk Ct X := by
  unfold sAsg
  refine evS_bind (evKeepN (evE_mono h (fun c Γ1 q => ?_) fun _ _ z => z))
  obtain ⟨d, Γ2, e1, Γ3, e2, q⟩ := q
  exact ⟨d, Γ2, e1, .nx Γ3, by dsimp only; rw [e2], q⟩
theorem evNm {i : Nat} {d : D} (h : evSome (putN i (.sh d) Γ) N) : evP (pNm i) d Γ N := by
  obtain ⟨Γ', e, q⟩ := h
  exact ⟨Γ', putN_set e, q⟩
theorem evPNil (q : N Γ) : evPs pNil [] Γ N := ⟨Γ, rfl, q⟩
theorem evPCons {F : D → Gam → Option Gam} {G : List D → Gam → Option Gam} {d : D} {ds : List D} (h : evP F d Γ fun Γ1 => evPs G ds Γ1 N) : evPs (pCons F G) (d :: ds) Γ N := by
  obtain ⟨Γ1, e, Γ2, e2, q⟩ := h
  exact ⟨Γ2, by unfold pCons; dsimp only; rw [e]; exact e2, q⟩
theorem evPTup {n : Nat} {F : List D → Gam → Option Gam} {ds : List D} (hn : ds.length = n) (h : evPs F ds Γ N) : evP (pTup n F) (.node .tup ds) Γ N := by
  obtain ⟨Γ1, e, q⟩ := h
  exact ⟨Γ1, by unfold pTup; dsimp only; rw [if_pos hn]; exact e, q⟩
theorem evPLst {n : Nat} {F : List D → Gam → Option Gam} {ds : List D} (hn : ds.length = n) (h : evPs F ds Γ N) : evP (pTup n F) (.node .lst ds) Γ N := by
  obtain ⟨Γ1, e, q⟩ := h
  exact ⟨Γ1, by unfold pTup; dsimp only; rw [if_pos hn]; exact e, q⟩

/-! ### walks -/
theorem evIOfL {g : List D → Option (List D)} {L : AF} {Q : List D → Gam → Prop} (h : evA L Γ (fun cs Γ1 => evSome (shs cs) fun ds => evSome (g ds) fun es => Q es Γ1) X) : evI (iOfL g L) Γ Q X := by
  obtain ⟨r, Γ1, e, q⟩ := h
  cases r with
  | val cs =>
    obtain ⟨ds, e1, es, e2, q⟩ := q
    exact ⟨.val es, Γ1, by unfold iOfL; rw [e]; dsimp only; rw [e1]; dsimp only; rw [e2], q⟩
  | exc x => exact ⟨.exc x, Γ1, by unfold iOfL; rw [e], q⟩
def seqD : D → Option (List D)
  | .node .lst ds => some ds
  | .node .scr ds => some ds
  | .node .tup ds => some ds
  | .leaf (.str x) => some (signsD x)
  | _ => none
theorem evISeq {Q : List D → Gam → Prop} (h : evE A Γ (fun c Γ1 => evKp Γ1 c fun d Γ2 => evSome (seqD d) fun ds => Q ds Γ2) X) : evI (iSeq A) Γ Q X := by
  obtain ⟨r, Γ1, e, q⟩ := evKeepN (Q := fun c Γ1 => ∃ d ds, c = .sh d ∧ seqD d = some ds ∧ Q ds Γ1) (evE_mono h (fun c Γ1 ⟨d, Γ2, e, ds, e2, q⟩ => ⟨d, Γ2, e, d, ds, rfl, e2, q⟩) fun _ _ z => z)
  cases r with
  | val c =>
    obtain ⟨d, ds, rfl, e2, q⟩ := q
    refine ⟨.val ds, Γ1, ?_, q⟩
    unfold iSeq
    rw [e]
    dsimp only
    unfold seqD at e2
    split at e2
    · cases e2; rfl
    · cases e2; rfl
    · cases e2; rfl
    · cases e2; rfl
    · cases e2
  | exc x => exact ⟨.exc x, Γ1, by unfold iSeq; rw [e], q⟩
/-- a loop over what is walked -/
def evFor (P : D → Gam → Option Gam) (B : GS) (ds : List D) (Γ : Gam) (N : Gam → Prop) (R : Cell → Gam → Prop) (X : Exc → Gam → Prop) : Prop := ∃ o, forD P B ds Γ = some o ∧ flQ N R (fun _ => False) (fun _ => False) X o
theorem evFor_to {P : D → Gam → Option Gam} {B : GS} {ds : List D} (h : evFor P B ds Γ N R X) : evS (forD P B ds) Γ N R Bk Ct X := by
  obtain ⟨o, e, q⟩ := h
  cases o with
  | nx Γ => exact ⟨_, e, q⟩
  | rt c Γ => exact ⟨_, e, q⟩
  | bk Γ => exact q.elim
  | ct Γ => exact q.elim
  | xc x Γ => exact ⟨_, e, q⟩
theorem evSFor {I : IF} {P : D → Gam → Option Gam} {B : GS} (h : evI I Γ (fun ds Γ1 => evFor P B ds Γ1 N R X) X) : evS (sFor I P B) Γ N R Bk Ct X := by
  obtain ⟨r, Γ1, e, q⟩ := h
  cases r with
  | val ds =>
    obtain ⟨o, e2, q2⟩ := evFor_to (Bk := Bk) (Ct := Ct) q
    exact ⟨o, by unfold sFor; rw [e]; exact e2, q2⟩
  | exc x => exact ⟨.xc x Γ1, by unfold sFor; rw [e], q⟩
theorem evFor_nil {P : D → Gam → Option Gam} {B : GS} (q : N Γ) : evFor P B [] Γ N R X := ⟨.nx Γ, rfl, q⟩
theorem evFor_cons {P : D → Gam → Option Gam} {B : GS} {d : D} {ds : List D} (h : evP P d Γ fun Γ1 => evS B Γ1 (fun Γ2 => evFor P B ds Γ2 N R X) R N (fun Γ2 => evFor P B ds Γ2 N R X) X) : evFor P B (d :: ds) Γ N R X := by
  obtain ⟨Γ1, e, o, e1, q⟩ := h
  cases o with
  | nx Γ2 =>
    obtain ⟨o2, e2, q2⟩ := q
    exact ⟨o2, by unfold forD; rw [e]; dsimp only; rw [e1]; exact e2, q2⟩
  | rt c Γ2 => exact ⟨.rt c Γ2, by unfold forD; rw [e]; dsimp only; rw [e1], q⟩
  | bk Γ2 => exact ⟨.nx Γ2, by unfold forD; rw [e]; dsimp only; rw [e1], q⟩
  | ct Γ2 =>
    obtain ⟨o2, e2, q2⟩ := q
    exact ⟨o2, by unfold forD; rw [e]; dsimp only; rw [e1]; exact e2, q2⟩
  | xc x Γ2 => exact ⟨.xc x Γ2, by unfold forD; rw [e]; dsimp only; rw [e1], q⟩
/-- by an invariant of what is still to be walked -/
theorem evFor_inv {P : D → Gam → Option Gam} {B : GS} (I : List D → Gam → Prop) : ∀ (ds : List D) {Γ : Gam}, I ds Γ → (∀ d r Γ, I (d :: r) Γ → evP P d Γ fun Γ1 => evS B Γ1 (I r) R N (I r) X) → (∀ Γ, I [] Γ → N Γ) → evFor P B ds Γ N R X
  | [], Γ, h, _, n => evFor_nil (n _ h)
  | d :: r, Γ, h, st, n => by
    refine evFor_cons ?_
    obtain ⟨Γ1, e, o, e1, q⟩ := st d r Γ h
    refine ⟨Γ1, e, o, e1, ?_⟩
    cases o with
    | nx Γ2 => exact evFor_inv I r q st n
    | rt c Γ2 => exact q
    | bk Γ2 => exact q
    | ct Γ2 => exact evFor_inv I r q st n
    | xc x Γ2 => exact q
/-- a while, by a measure -/
theorem evWhile {t : TF} {B : GS} (I : Nat → Gam → Prop) (st : ∀ n Γ, I n Γ → evT t Γ (fun b Γ1 => (b = true → evS B Γ1 (fun Γ2 => ∃ m, m < n ∧ I m Γ2) R N (fun Γ2 => ∃ m, m < n ∧ I m Γ2) X) ∧ (b = false → N Γ1)) X) : ∀ (n : Nat) {Γ : Gam}, I n Γ → evS (sWhile t B) Γ N R Bk Ct X := by
  intro n
  induction n using Nat.strongRecOn with
  | _ n ih =>
    intro Γ h
    obtain ⟨r, Γ1, e, q⟩ := st n Γ h
    cases r with
    | val b =>
      cases b with
      | true =>
        obtain ⟨o, e1, q⟩ := q.1 rfl
        cases o with
        | nx Γ2 =>
          obtain ⟨m, hm, hi⟩ := q
          obtain ⟨o2, e2, q2⟩ := ih m hm hi
          exact ⟨o2, by rw [sWhile_eq, e]; dsimp only; rw [e1]; exact e2, q2⟩
        | rt c Γ2 => exact ⟨.rt c Γ2, by rw [sWhile_eq, e]; dsimp only; rw [e1], q⟩
        | bk Γ2 => exact ⟨.nx Γ2, by rw [sWhile_eq, e]; dsimp only; rw [e1], q⟩
        | ct Γ2 =>
          obtain ⟨m, hm, hi⟩ := q
          obtain ⟨o2, e2, q2⟩ := ih m hm hi
          exact ⟨o2, by rw [sWhile_eq, e]; dsimp only; rw [e1]; exact e2, q2⟩
        | xc x Γ2 => exact ⟨.xc x Γ2, by rw [sWhile_eq, e]; dsimp only; rw [e1], q⟩
      | false => exact ⟨.nx Γ1, by rw [sWhile_eq, e], q.2 rfl⟩
    | exc x => exact ⟨.xc x Γ1, by rw [sWhile_eq, e], q⟩
/-! ### a def -/
def stG : Nat → List Cell → Option Gam
  | 0, [] => some []
  | n + 1, [] => match stG n [] with
    | some Γ => some (none :: Γ)
    | none => none
  | 0, _ :: _ => none
  | n + 1, .sh d :: T => match stG n T with
    | some Γ => some (some (.sh d) :: Γ)
    | none => none
  | n + 1, .ow t ds :: T => match stG n T with
    | some Γ => some (some (.rf t ds) :: Γ)
    | none => none
  | _ + 1, _ :: _ => none
theorem stG_start : ∀ {n : Nat} {T : List Cell} {Γ : Gam}, stG n T = some Γ → startG n T = Γ ∧ T.all plainC = true
  | 0, [], Γ, h => by unfold stG at h; cases h; exact ⟨rfl, rfl⟩
  | n + 1, [], Γ, h => by
    unfold stG at h
    split at h
    · rename_i Γ1 e
      cases h
      obtain ⟨e1, e2⟩ := stG_start e
      refine ⟨?_, rfl⟩
      unfold startG at e1 ⊢
      simp only [List.map_nil, List.nil_append, List.length_nil, Nat.sub_zero] at e1 ⊢
      rw [List.replicate_succ, e1]
    · cases h
  | 0, _ :: _, Γ, h => by unfold stG at h; cases h
  | n + 1, c :: T, Γ, h => by
    cases c with
    | sh d =>
      unfold stG at h
      split at h
      · rename_i Γ1 e
        cases h
        obtain ⟨e1, e2⟩ := stG_start e
        refine ⟨?_, by rw [List.all_cons, e2]; rfl⟩
        unfold startG at e1 ⊢
        simp only [List.map_cons, List.cons_append, List.length_cons, Nat.add_sub_add_right, toSlot]
        rw [e1]
      · cases h
    | ow t ds =>
      unfold stG at h
      split at h
      · rename_i Γ1 e
        cases h
        obtain ⟨e1, e2⟩ := stG_start e
        refine ⟨?_, by rw [List.all_cons, e2]; rfl⟩
        unfold startG at e1 ⊢
        simp only [List.map_cons, List.cons_append, List.length_cons, Nat.add_sub_add_right, toSlot]
        rw [e1]
      · cases h
    | rf t ds => unfold stG at h; cases h
    | br i => unfold stG at h; cases h
    | on t os => unfold stG at h; cases h
theorem evDef {n : Nat} {G : GS} {T : List Cell} {Q : Cell → List Cell → Prop} {X : Exc → List Cell → Prop} (Γ : Gam) (hs : stG n T = some Γ)
    (h : evS G Γ (fun Γ1 => evSome (endT Γ1 0 T) fun T' => Q (.sh (.leaf .non)) T') (fun c Γ1 => evSome (finC Γ1 c) fun c' => evSome (endT Γ1 0 T) fun T' => Q c' T') (fun _ => False) (fun _ => False) (fun x Γ1 => evSome (endT Γ1 0 T) fun T' => X x T')) : evM (runD n G) T Q X := by
  obtain ⟨rfl, ha⟩ := stG_start hs
  obtain ⟨o, e, q⟩ := h
  cases o with
  | nx Γ1 =>
    obtain ⟨T', e1, q⟩ := q
    exact ⟨.val (.sh (.leaf .non)), T', by unfold runD; rw [if_pos ha, e]; dsimp only; rw [e1], q⟩
  | rt c Γ1 =>
    obtain ⟨c', e2, T', e1, q⟩ := q
    exact ⟨.val c', T', by unfold runD; rw [if_pos ha, e]; dsimp only; rw [e2, e1], q⟩
  | bk Γ1 => exact q.elim
  | ct Γ1 => exact q.elim
  | xc x Γ1 =>
    obtain ⟨T', e1, q⟩ := q
    exact ⟨.exc x, T', by unfold runD; rw [if_pos ha, e]; dsimp only; rw [e1], q⟩
end

/-! ### a comprehension -/
def evLcD (P : D → Gam → Option Gam) (t : TF) (E : EF) (is : List Nat) (ds : List D) (Γ : Gam) (acc : List D) (Q : List D → Gam → Prop) : Prop := ∃ out Γ', lcD P t E is ds Γ acc = some (out, Γ') ∧ Q out Γ'
section
variable {Γ : Gam} {X : Exc → Gam → Prop} {Q : List D → Gam → Prop} {P : D → Gam → Option Gam} {t : TF} {E : EF} {is : List Nat} {acc : List D}
theorem evLcNil (q : Q acc Γ) : evLcD P t E is [] Γ acc Q := ⟨acc, Γ, rfl, q⟩
theorem evLcCons {d : D} {r : List D} (h : evP P d Γ fun Γ1 => evT t Γ1 (fun b Γ2 => (b = true → evE E Γ2 (fun c Γ3 => evKp Γ3 c fun e Γ4 => acc.length < 16777216 ∧ evLcD P t E is r (clearG Γ4 is) (acc ++ [e]) Q) (fun _ _ => False)) ∧ (b = false → evLcD P t E is r (clearG Γ2 is) acc Q)) (fun _ _ => False)) : evLcD P t E is (d :: r) Γ acc Q := by
  obtain ⟨Γ1, e1, rr, Γ2, e2, q⟩ := h
  cases rr with
  | val b =>
    cases b with
    | true =>
      have z := evKeepN (Q := fun c Γ4 => ∃ e, c = .sh e ∧ acc.length < 16777216 ∧ evLcD P t E is r (clearG Γ4 is) (acc ++ [e]) Q) (evE_mono (q.1 rfl) (fun c Γ3 ⟨e, Γ4, k, q⟩ => ⟨e, Γ4, k, e, rfl, q⟩) fun _ _ z => z)
      obtain ⟨r2, Γ3, e3, q⟩ := z
      cases r2 with
      | val c =>
        obtain ⟨e, rfl, n, out, Γ5, e5, q⟩ := q
        exact ⟨out, Γ5, by unfold lcD; rw [e1]; dsimp only; rw [e2]; dsimp only; rw [e3]; dsimp only; rw [if_pos n]; exact e5, q⟩
      | exc x => exact q.elim
    | false =>
      obtain ⟨out, Γ5, e5, q⟩ := q.2 rfl
      exact ⟨out, Γ5, by unfold lcD; rw [e1]; dsimp only; rw [e2]; exact e5, q⟩
  | exc x => exact q.elim
theorem evLc_inv (I : List D → Gam → List D → Prop) : ∀ (ds : List D) {Γ : Gam} {acc : List D}, I ds Γ acc → (∀ d r Γ acc, I (d :: r) Γ acc → evP P d Γ fun Γ1 => evT t Γ1 (fun b Γ2 => (b = true → evE E Γ2 (fun c Γ3 => evKp Γ3 c fun e Γ4 => acc.length < 16777216 ∧ I r (clearG Γ4 is) (acc ++ [e])) (fun _ _ => False)) ∧ (b = false → I r (clearG Γ2 is) acc)) (fun _ _ => False)) → (∀ Γ acc, I [] Γ acc → Q acc Γ) → evLcD P t E is ds Γ acc Q
  | [], Γ, acc, h, _, n => evLcNil (n _ _ h)
  | d :: r, Γ, acc, h, st, n => by
    refine evLcCons ?_
    obtain ⟨Γ1, e1, rr, Γ2, e2, q⟩ := st d r Γ acc h
    refine ⟨Γ1, e1, rr, Γ2, e2, ?_⟩
    cases rr with
    | val b =>
      refine ⟨fun hb => ?_, fun hb => evLc_inv I r (q.2 hb) st n⟩
      exact evE_mono (q.1 hb) (fun c Γ3 ⟨e, Γ4, k, hl, hI⟩ => ⟨e, Γ4, k, hl, evLc_inv I r hI st n⟩) fun _ _ z => z
    | exc x => exact q
theorem evLc {I : IF} {Q : Cell → Gam → Prop} (h : evI I Γ (fun ds Γ1 => evLcD P t E is ds (clearG Γ1 is) [] fun out Γ2 => Q (.ow .lst out) (restoreG Γ1 Γ2 is)) X) : evE (eLc I P t E is) Γ Q X := by
  obtain ⟨r, Γ1, e, q⟩ := h
  cases r with
  | val ds =>
    obtain ⟨out, Γ2, e2, q⟩ := q
    exact ⟨_, _, by unfold eLc; rw [e]; dsimp only; rw [e2], q⟩
  | exc x => exact ⟨.exc x, Γ1, by unfold eLc; rw [e], q⟩
end
end DL

set_option Elab.async false
set_option linter.all false
set_option maxRecDepth 100000
set_option maxHeartbeats 1000000
/-! the mirrors, run: the operators -/
namespace DL
open PySem PySem.Spec PyProof.Rows L2

section
variable {Γ : Gam} {X : Exc → Gam → Prop} {Q : Cell → Gam → Prop}
theorem ev2_mk {g : D → D → Option Out} {x y : Option D} (d e : D) (hx : x = some d) (hy : y = some e) (h : evG (g d e) Γ Q) : ev2 g x y Γ Q := ⟨d, e, hx, hy, h⟩
theorem ev1_mk {g : D → Option Out} {x : Option D} (d : D) (hx : x = some d) (h : evG (g d) Γ Q) : ev1 g x Γ Q := ⟨d, hx, h⟩
theorem evL_mk {g : List D → Option Out} {x : Option (List D)} (d : List D) (hx : x = some d) (h : evG (g d) Γ Q) : evL g x Γ Q := ⟨d, hx, h⟩
theorem evG_old {x : Option Out} {d : D} (h : x = some (.old d)) (q : Q (.sh d) Γ) : evG x Γ Q := ⟨_, h, rfl, q⟩
theorem evG_lst {x : Option Out} {ds : List D} (h : x = some (.new .lst ds)) (q : Q (.ow .lst ds) Γ) : evG x Γ Q := ⟨_, h, rfl, q⟩
theorem evG_tup {x : Option Out} {ds : List D} (h : x = some (.new .tup ds)) (q : Q (.sh (.node .tup ds)) Γ) : evG x Γ Q := ⟨_, h, rfl, q⟩

variable {i j : Int} {xs ys : List D}
theorem vAdd (q : Q (.sh (.leaf (.int (i + j)))) Γ) : evG (gAdd (.leaf (.int i)) (.leaf (.int j))) Γ Q := evG_old rfl q
theorem vAddL (h : xs.length + ys.length ≤ 16777216) (q : Q (.ow .lst (xs ++ ys)) Γ) : evG (gAdd (.node .lst xs) (.node .lst ys)) Γ Q := evG_lst (by unfold gAdd; dsimp only; rw [if_pos h]) q
theorem vSub (q : Q (.sh (.leaf (.int (i - j)))) Γ) : evG (gSub (.leaf (.int i)) (.leaf (.int j))) Γ Q := evG_old rfl q
/-- 2 ^ 256, as a bound of what is multiplied and divided -/
theorem bigB : (115792089237316195423570985008687907853269984665640564039457584007913129639936 : Int) ≤ 2 ^ 300 := by decide
theorem bigC : (115792089237316195423570985008687907853269984665640564039457584007913129639936 : Int) ≤ 2 ^ 1000 := by decide +kernel
theorem vMul (h : ((-115792089237316195423570985008687907853269984665640564039457584007913129639936 < i ∧ i < 115792089237316195423570985008687907853269984665640564039457584007913129639936) ∧ -115792089237316195423570985008687907853269984665640564039457584007913129639936 < j ∧ j < 115792089237316195423570985008687907853269984665640564039457584007913129639936)) (q : Q (.sh (.leaf (.int (i * j)))) Γ) : evG (gMul (.leaf (.int i)) (.leaf (.int j))) Γ Q :=
  evG_old (by
    have b := bigC
    have z : cMul i j = true := by
      unfold cMul
      refine decide_eq_true ⟨⟨?_, ?_⟩, ?_, ?_⟩
      · exact Int.lt_of_le_of_lt (Int.neg_le_neg b) h.1.1
      · exact Int.lt_of_lt_of_le h.1.2 b
      · exact Int.lt_of_le_of_lt (Int.neg_le_neg b) h.2.1
      · exact Int.lt_of_lt_of_le h.2.2 b
    unfold gMul
    dsimp only
    rw [if_pos z]) q
theorem vFdiv (h : 0 < j ∧ j < 115792089237316195423570985008687907853269984665640564039457584007913129639936) (q : Q (.sh (.leaf (.int (i / j)))) Γ) : evG (gFdiv (.leaf (.int i)) (.leaf (.int j))) Γ Q :=
  evG_old (by
    have z : cDiv i j = true := by unfold cDiv; exact decide_eq_true ⟨h.1, Int.lt_of_lt_of_le h.2 bigB⟩
    unfold gFdiv gII
    dsimp only
    rw [if_pos z]) q
theorem vMod (h : 0 < j) (q : Q (.sh (.leaf (.int (i % j)))) Γ) : evG (gMod (.leaf (.int i)) (.leaf (.int j))) Γ Q :=
  evG_old (by
    unfold gMod gII
    dsimp only
    rw [if_pos (decide_eq_true h)]) q
theorem vPow {k : Int} (h : 0 ≤ j ∧ j ≤ 1000000 ∧ i.natAbs < 18446744073709551616) (e : i ^ j.toNat = k) (q : Q (.sh (.leaf (.int k))) Γ) : evG (gPow (.leaf (.int i)) (.leaf (.int j))) Γ Q :=
  evG_old (by
    subst e
    unfold gPow gII
    dsimp only
    rw [if_pos (decide_eq_true h)]) q
theorem vNeg (q : Q (.sh (.leaf (.int (-i)))) Γ) : evG (gNeg (.leaf (.int i))) Γ Q := evG_old rfl q
theorem vLt (q : Q (.sh (.leaf (.bl (decide (i < j))))) Γ) : evG (gLt (.leaf (.int i)) (.leaf (.int j))) Γ Q := evG_old rfl q
theorem vLe (q : Q (.sh (.leaf (.bl (decide (i ≤ j))))) Γ) : evG (gLe (.leaf (.int i)) (.leaf (.int j))) Γ Q := evG_old rfl q
theorem vGt (q : Q (.sh (.leaf (.bl (decide (j < i))))) Γ) : evG (gGt (.leaf (.int i)) (.leaf (.int j))) Γ Q := evG_old rfl q
theorem vGe (q : Q (.sh (.leaf (.bl (decide (j ≤ i))))) Γ) : evG (gGe (.leaf (.int i)) (.leaf (.int j))) Γ Q := evG_old rfl q
theorem ev2B_lt {x y : Option D} {Q : Bool → Prop} (hx : x = some (.leaf (.int i))) (hy : y = some (.leaf (.int j))) (q : Q (decide (i < j))) : ev2B gLt x y Q := ⟨_, _, _, hx, hy, rfl, q⟩
theorem ev2B_le {x y : Option D} {Q : Bool → Prop} (hx : x = some (.leaf (.int i))) (hy : y = some (.leaf (.int j))) (q : Q (decide (i ≤ j))) : ev2B gLe x y Q := ⟨_, _, _, hx, hy, rfl, q⟩
theorem ev2B_gt {x y : Option D} {Q : Bool → Prop} (hx : x = some (.leaf (.int i))) (hy : y = some (.leaf (.int j))) (q : Q (decide (j < i))) : ev2B gGt x y Q := ⟨_, _, _, hx, hy, rfl, q⟩
theorem ev2B_ge {x y : Option D} {Q : Bool → Prop} (hx : x = some (.leaf (.int i))) (hy : y = some (.leaf (.int j))) (q : Q (decide (j ≤ i))) : ev2B gGe x y Q := ⟨_, _, _, hx, hy, rfl, q⟩
theorem dec_int : (decide ((V.int i) = V.int j)) = decide (i = j) := by
  by_cases h : i = j
  · subst h; simp
  · rw [decide_eq_false h, decide_eq_false (fun q => h (V.int.inj q))]
theorem dec_str {x y : Str} : (decide ((V.str x) = V.str y)) = decide (x = y) := by
  by_cases h : x = y
  · subst h; simp
  · rw [decide_eq_false h, decide_eq_false (fun q => h (V.str.inj q))]
theorem dec_bl {x y : Bool} : (decide ((V.bl x) = V.bl y)) = decide (x = y) := by
  by_cases h : x = y
  · subst h; simp
  · rw [decide_eq_false h, decide_eq_false (fun q => h (V.bl.inj q))]
theorem eqD_int : eqD (.leaf (.int i)) (.leaf (.int j)) = some (decide (i = j)) := by
  unfold eqD
  dsimp only
  rw [if_pos (by rfl), dec_int]
theorem eqD_str {x y : Str} : eqD (.leaf (.str x)) (.leaf (.str y)) = some (decide (x = y)) := by
  unfold eqD
  dsimp only
  rw [if_pos (by rfl), dec_str]
theorem eqD_bl {x y : Bool} : eqD (.leaf (.bl x)) (.leaf (.bl y)) = some (decide (x = y)) := by
  unfold eqD
  dsimp only
  rw [if_pos (by rfl), dec_bl]
theorem vEqI (q : Q (.sh (.leaf (.bl (decide (i = j))))) Γ) : evG (gEq (.leaf (.int i)) (.leaf (.int j))) Γ Q := evG_old (by unfold gEq; rw [eqD_int]) q
theorem vNeI (q : Q (.sh (.leaf (.bl (!decide (i = j))))) Γ) : evG (gNe (.leaf (.int i)) (.leaf (.int j))) Γ Q := evG_old (by unfold gNe; rw [eqD_int]) q
theorem vEqS {x y : Str} (q : Q (.sh (.leaf (.bl (decide (x = y))))) Γ) : evG (gEq (.leaf (.str x)) (.leaf (.str y))) Γ Q := evG_old (by unfold gEq; rw [eqD_str]) q
theorem vNeS {x y : Str} (q : Q (.sh (.leaf (.bl (!decide (x = y))))) Γ) : evG (gNe (.leaf (.str x)) (.leaf (.str y))) Γ Q := evG_old (by unfold gNe; rw [eqD_str]) q
theorem vEqB {x y : Bool} (q : Q (.sh (.leaf (.bl (decide (x = y))))) Γ) : evG (gEq (.leaf (.bl x)) (.leaf (.bl y))) Γ Q := evG_old (by unfold gEq; rw [eqD_bl]) q
theorem vNeB {x y : Bool} (q : Q (.sh (.leaf (.bl (!decide (x = y))))) Γ) : evG (gNe (.leaf (.bl x)) (.leaf (.bl y))) Γ Q := evG_old (by unfold gNe; rw [eqD_bl]) q
theorem vEq {d e : D} {b : Bool} (h : eqD d e = some b) (q : Q (.sh (.leaf (.bl b))) Γ) : evG (gEq d e) Γ Q := evG_old (by unfold gEq; rw [h]) q
theorem vNe {d e : D} {b : Bool} (h : eqD d e = some b) (q : Q (.sh (.leaf (.bl (!b)))) Γ) : evG (gNe d e) Γ Q := evG_old (by unfold gNe; rw [h]) q
theorem vIsN {d : D} (q : Q (.sh (.leaf (.bl (isNon d)))) Γ) : evG (gIsN d (.leaf .non)) Γ Q := evG_old rfl q
theorem vNotN {d : D} (q : Q (.sh (.leaf (.bl (!isNon d)))) Γ) : evG (gNotN d (.leaf .non)) Γ Q := evG_old rfl q
theorem vIxL {d : D} (h : atI xs i = some d) (q : Q (.sh d) Γ) : evG (gIx (.node .lst xs) (.leaf (.int i))) Γ Q := evG_old (by unfold gIx; dsimp only; rw [h]; rfl) q
theorem vIxT {d : D} (h : atI xs i = some d) (q : Q (.sh d) Γ) : evG (gIx (.node .tup xs) (.leaf (.int i))) Γ Q := evG_old (by unfold gIx; dsimp only; rw [h]; rfl) q
theorem vGetS {d : D} {ks : List Key} {x : Str} (h : getK (Sum.inr x) ks xs = some d) (q : Q (.sh d) Γ) : evG (gGet (.node (.dk ks) xs) (.leaf (.str x))) Γ Q := evG_old (by unfold gGet; dsimp only; rw [h]; rfl) q
theorem vCutL {lo hi : Option Int} (q : Q (.ow .lst (cutD xs lo hi)) Γ) : evG (gCut lo hi (.node .lst xs)) Γ Q := evG_lst rfl q
theorem vCutS {lo hi : Option Int} (q : Q (.ow .lst (cutD xs lo hi)) Γ) : evG (gCut lo hi (.node .scr xs)) Γ Q := evG_lst rfl q
theorem vTup (h : xs.length ≤ 16777216) (q : Q (.sh (.node .tup xs)) Γ) : evG (gTupD xs) Γ Q := evG_tup (by unfold gTupD; rw [if_pos h]) q
theorem vLst (h : xs.length ≤ 16777216) (q : Q (.ow .lst xs) Γ) : evG (gLstD xs) Γ Q := evG_lst (by unfold gLstD; rw [if_pos h]) q
theorem vLenL (q : Q (.sh (.leaf (.int xs.length))) Γ) : evG (gLen [.node .lst xs]) Γ Q := evG_old rfl q
theorem vLenT (q : Q (.sh (.leaf (.int xs.length))) Γ) : evG (gLen [.node .tup xs]) Γ Q := evG_old rfl q
theorem vLenS (q : Q (.sh (.leaf (.int xs.length))) Γ) : evG (gLen [.node .scr xs]) Γ Q := evG_old rfl q
theorem vLenD {ks : List Key} (q : Q (.sh (.leaf (.int xs.length))) Γ) : evG (gLen [.node (.dk ks) xs]) Γ Q := evG_old rfl q
theorem vAbs (q : Q (.sh (.leaf (.int (if i < 0 then -i else i)))) Γ) : evG (gAbs [.leaf (.int i)]) Γ Q := evG_old rfl q
theorem vMin2 (q : Q (.sh (.leaf (.int (if j < i then j else i)))) Γ) : evG (gMin2 [.leaf (.int i), .leaf (.int j)]) Γ Q := evG_old rfl q
theorem vMax2 (q : Q (.sh (.leaf (.int (if j > i then j else i)))) Γ) : evG (gMax2 [.leaf (.int i), .leaf (.int j)]) Γ Q := evG_old rfl q
theorem vListL (q : Q (.ow .lst xs) Γ) : evG (gList [.node .lst xs]) Γ Q := evG_lst rfl q
theorem vListT (q : Q (.ow .lst xs) Γ) : evG (gList [.node .tup xs]) Γ Q := evG_lst rfl q
theorem vListS (q : Q (.ow .lst xs) Γ) : evG (gList [.node .scr xs]) Γ Q := evG_lst rfl q
theorem vTupleL (q : Q (.sh (.node .tup xs)) Γ) : evG (gTuple [.node .lst xs]) Γ Q := evG_tup rfl q
theorem vTupleS (q : Q (.sh (.node .tup xs)) Γ) : evG (gTuple [.node .scr xs]) Γ Q := evG_tup rfl q
theorem vSum {ns : List Int} (h : intsOf xs = some ns) (q : Q (.sh (.leaf (.int ns.sum))) Γ) : evG (gSum [.node .lst xs]) Γ Q := evG_old (by unfold gSum; dsimp only; rw [h]; rfl) q
theorem vAll {bs : List Bool} (h : blsOf xs = some bs) (q : Q (.sh (.leaf (.bl (bs.all id)))) Γ) : evG (gAll [.node .lst xs]) Γ Q := evG_old (by unfold gAll; dsimp only; rw [h]; rfl) q
theorem vRepr {d : D} {p : PyData} (h : toP d = some p) (k : reprOk p = true) (q : Q (.sh (.leaf (.str p.shown))) Γ) : evG (gRepr [d]) Γ Q := evG_old (gRepr_of h k) q
theorem vIsi {d : D} {n m : String} {b : Bool} (h : tyName d = some m) (k : kitB m n = some b) (q : Q (.sh (.leaf (.bl b))) Γ) : evG (gIsi [d, .leaf (.ty n)]) Γ Q := evG_old (by unfold gIsi; dsimp only; rw [h]; dsimp only; rw [k]; rfl) q

/-! methods -/
theorem uAppend {d : D} {Q : D → Tag → List D → Prop} (h : xs.length < 16777216) (q : Q (.leaf .non) .lst (xs ++ [d])) : evMu (gAppend .lst xs [d]) Q := ⟨_, _, _, by unfold gAppend; dsimp only; rw [if_pos h], q⟩
theorem uPopAt {Q : D → Tag → List D → Prop} (k : Nat) (d : D) (hk : i = (k : Int)) (hd : xs[k]? = some d) (hs : xs.length < 16777216) (q : Q d .lst (xs.eraseIdx k)) : evMu (gPopAt .lst xs [.leaf (.int i)]) Q := by
  have hl : k < xs.length := (List.getElem?_eq_some_iff.mp hd).1
  subst hk
  refine ⟨d, .lst, xs.eraseIdx k, ?_, q⟩
  have e : seqIndex? (k : Int) xs.length = some k := by
    have z : ¬ ((k : Int) < 0) := by omega
    simp only [seqIndex?, if_neg z]
    rw [if_pos (by simp; omega), Int.toNat_natCast]
  unfold gPopAt
  dsimp only
  rw [if_pos (by omega), e]
  dsimp only
  rw [hd]
/-! forks -/
theorem fkT {P R : Prop} (h : P) : (true = true → P) ∧ (true = false → R) := ⟨fun _ => h, fun q => nomatch q⟩
theorem fkF {P R : Prop} (h : R) : (false = true → P) ∧ (false = false → R) := ⟨(fun q => nomatch q), fun _ => h⟩
theorem fkD {c P R : Prop} {_ : Decidable c} (h : c → P) (h' : ¬ c → R) : (decide c = true → P) ∧ (decide c = false → R) := ⟨fun q => h (of_decide_eq_true q), fun q => h' (of_decide_eq_false q)⟩
theorem fkDT {c P R : Prop} {_ : Decidable c} (k : c) (h : P) : (decide c = true → P) ∧ (decide c = false → R) := fkD (fun _ => h) fun q => (q k).elim
theorem fkDF {c P R : Prop} {_ : Decidable c} (k : ¬ c) (h : R) : (decide c = true → P) ∧ (decide c = false → R) := fkD (fun q => (k q).elim) fun _ => h
theorem fkN {b : Bool} {P R : Prop} (h : (b = true → R) ∧ (b = false → P)) : ((!b) = true → P) ∧ ((!b) = false → R) := by
  cases b with
  | true => exact ⟨(fun q => nomatch q), fun _ => h.1 rfl⟩
  | false => exact ⟨fun _ => h.2 rfl, (fun q => nomatch q)⟩
theorem atI_nat {α : Type} {l : List α} {k : Nat} {d : α} (h : l[k]? = some d) : atI l (k : Int) = some d := by
  have hl : k < l.length := (List.getElem?_eq_some_iff.mp h).1
  unfold atI ixN
  rw [if_pos (by omega), if_pos (by omega)]
  simpa using h
theorem atI_of {α : Type} {l : List α} {i : Int} (h0 : 0 ≤ i) (h1 : i < l.length) : ∃ d, l[i.toNat]? = some d ∧ atI l i = some d := by
  have h2 : i.toNat < l.length := by omega
  refine ⟨l[i.toNat], List.getElem?_eq_getElem h2, ?_⟩
  have := atI_nat (k := i.toNat) (List.getElem?_eq_getElem h2)
  rwa [Int.toNat_of_nonneg h0] at this
theorem atI_last {α : Type} {l : List α} {d : α} : atI (l ++ [d]) (-1) = some d := by
  unfold atI ixN
  rw [if_neg (by decide), if_pos (by simp; omega)]
  have z : (-1 + (((l ++ [d]).length : Nat) : Int)).toNat = l.length := by simp; omega
  simp only [Option.bind_some, z]
  simp
end
theorem evPutF {i : Nat} {c : Cell} {Γ Γ' : Gam} {N : Gam → Prop} (h : isRf Γ[i]? = false) (e : setG i (some c) Γ = some Γ') (q : N Γ') : evSome (putN i c Γ) N := ⟨Γ', by unfold putN; rw [h]; exact e, q⟩
theorem cutD_mem {α : Type} {xs : List α} {lo hi : Option Int} {x : α} (h : x ∈ DL.cutD xs lo hi) : x ∈ xs := List.mem_of_mem_drop (List.mem_of_mem_take h)
theorem cutD_len {α : Type} (xs : List α) (lo hi : Option Int) : (DL.cutD xs lo hi).length ≤ xs.length := by
  unfold DL.cutD
  rw [List.length_take, List.length_drop]
  omega
theorem evRange1 {j : Int} {Q : List D → Prop} (h : -4611686018427387904 ≤ j ∧ j < 4611686018427387904) (q : Q (rangeD 0 j.toNat)) : evSome (gRange1 [.leaf (.int j)]) Q := ⟨_, by unfold gRange1; dsimp only; rw [if_pos h], q⟩
theorem evRange2 {i j : Int} {Q : List D → Prop} (h : (-4611686018427387904 ≤ i ∧ i < 4611686018427387904) ∧ -4611686018427387904 ≤ j ∧ j < 4611686018427387904) (q : Q (rangeD i (j - i).toNat)) : evSome (gRange2 [.leaf (.int i), .leaf (.int j)]) Q := ⟨_, by unfold gRange2; dsimp only; rw [if_pos h], q⟩
theorem rangeD_succ (i : Int) (n : Nat) : rangeD i (n + 1) = .leaf (.int i) :: rangeD (i + 1) n := by
  unfold rangeD
  rw [List.range_succ_eq_map, List.map_cons, List.map_map]
  refine congr (congrArg _ (by simp)) (List.map_congr_left fun a _ => ?_)
  show D.int (i + ((a + 1 : Nat) : Int)) = D.int (i + 1 + (a : Int))
  have : i + ((a + 1 : Nat) : Int) = i + 1 + (a : Int) := by omega
  rw [this]
/-- a loop over a range: I k before the turn at i + k -/
theorem evFor_range {P : D → Gam → Option Gam} {B : GS} {N : Gam → Prop} {R : Cell → Gam → Prop} {X : Exc → Gam → Prop} (I : Nat → Gam → Prop) : ∀ (n : Nat) (i : Int) (k : Nat) {Γ : Gam}, I k Γ → (∀ m Γ, m < n → I (k + m) Γ → evP P (.leaf (.int (i + (m : Int)))) Γ fun Γ1 => evS B Γ1 (I (k + m + 1)) R N (I (k + m + 1)) X) → (∀ Γ, I (k + n) Γ → N Γ) → evFor P B (rangeD i n) Γ N R X
  | 0, i, k, Γ, h, _, e => evFor_nil (e Γ h)
  | n + 1, i, k, Γ, h, st, e => by
    rw [rangeD_succ]
    have h0 := st 0 Γ (Nat.succ_pos n) h
    rw [show i + ((0 : Nat) : Int) = i by simp] at h0
    refine evFor_cons ?_
    obtain ⟨Γ1, e1, o, e2, q⟩ := h0
    refine ⟨Γ1, e1, o, e2, ?_⟩
    have again : ∀ Γ2, I (k + 1) Γ2 → evFor P B (rangeD (i + 1) n) Γ2 N R X := fun Γ2 h2 =>
      evFor_range I n (i + 1) (k + 1) h2 (fun m Γ hm hI => by
        have := st (m + 1) Γ (by omega) (by rw [show k + (m + 1) = k + 1 + m by omega]; exact hI)
        rw [show i + ((m + 1 : Nat) : Int) = i + 1 + (m : Int) by omega, show k + (m + 1) + 1 = k + 1 + m + 1 by omega] at this
        exact this) (fun Γ hI => e Γ (by rw [show k + (n + 1) = k + 1 + n by omega]; exact hI))
    cases o with
    | nx Γ2 => exact again Γ2 q
    | rt c Γ2 => exact q
    | bk Γ2 => exact q
    | ct Γ2 => exact again Γ2 q
    | xc x Γ2 => exact q
theorem kt_NoneType_bool : kitB "NoneType" "bool" = some false := by with_unfolding_all rfl
theorem kt_NoneType_int : kitB "NoneType" "int" = some false := by with_unfolding_all rfl
theorem kt_NoneType_str : kitB "NoneType" "str" = some false := by with_unfolding_all rfl
theorem kt_NoneType_list : kitB "NoneType" "list" = some false := by with_unfolding_all rfl
theorem kt_NoneType_tuple : kitB "NoneType" "tuple" = some false := by with_unfolding_all rfl
theorem kt_NoneType_dict : kitB "NoneType" "dict" = some false := by with_unfolding_all rfl
theorem kt_bool_bool : kitB "bool" "bool" = some true := by with_unfolding_all rfl
theorem kt_bool_int : kitB "bool" "int" = some true := by with_unfolding_all rfl
theorem kt_bool_str : kitB "bool" "str" = some false := by with_unfolding_all rfl
theorem kt_bool_list : kitB "bool" "list" = some false := by with_unfolding_all rfl
theorem kt_bool_tuple : kitB "bool" "tuple" = some false := by with_unfolding_all rfl
theorem kt_bool_dict : kitB "bool" "dict" = some false := by with_unfolding_all rfl
theorem kt_int_bool : kitB "int" "bool" = some false := by with_unfolding_all rfl
theorem kt_int_int : kitB "int" "int" = some true := by with_unfolding_all rfl
theorem kt_int_str : kitB "int" "str" = some false := by with_unfolding_all rfl
theorem kt_int_list : kitB "int" "list" = some false := by with_unfolding_all rfl
theorem kt_int_tuple : kitB "int" "tuple" = some false := by with_unfolding_all rfl
theorem kt_int_dict : kitB "int" "dict" = some false := by with_unfolding_all rfl
theorem kt_str_bool : kitB "str" "bool" = some false := by with_unfolding_all rfl
theorem kt_str_int : kitB "str" "int" = some false := by with_unfolding_all rfl
theorem kt_str_str : kitB "str" "str" = some true := by with_unfolding_all rfl
theorem kt_str_list : kitB "str" "list" = some false := by with_unfolding_all rfl
theorem kt_str_tuple : kitB "str" "tuple" = some false := by with_unfolding_all rfl
theorem kt_str_dict : kitB "str" "dict" = some false := by with_unfolding_all rfl
theorem kt_list_bool : kitB "list" "bool" = some false := by with_unfolding_all rfl
theorem kt_list_int : kitB "list" "int" = some false := by with_unfolding_all rfl
theorem kt_list_str : kitB "list" "str" = some false := by with_unfolding_all rfl
theorem kt_list_list : kitB "list" "list" = some true := by with_unfolding_all rfl
theorem kt_list_tuple : kitB "list" "tuple" = some false := by with_unfolding_all rfl
theorem kt_list_dict : kitB "list" "dict" = some false := by with_unfolding_all rfl
theorem kt_tuple_bool : kitB "tuple" "bool" = some false := by with_unfolding_all rfl
theorem kt_tuple_int : kitB "tuple" "int" = some false := by with_unfolding_all rfl
theorem kt_tuple_str : kitB "tuple" "str" = some false := by with_unfolding_all rfl
theorem kt_tuple_list : kitB "tuple" "list" = some false := by with_unfolding_all rfl
theorem kt_tuple_tuple : kitB "tuple" "tuple" = some true := by with_unfolding_all rfl
theorem kt_tuple_dict : kitB "tuple" "dict" = some false := by with_unfolding_all rfl
theorem kt_dict_bool : kitB "dict" "bool" = some false := by with_unfolding_all rfl
theorem kt_dict_int : kitB "dict" "int" = some false := by with_unfolding_all rfl
theorem kt_dict_str : kitB "dict" "str" = some false := by with_unfolding_all rfl
theorem kt_dict_list : kitB "dict" "list" = some false := by with_unfolding_all rfl
theorem kt_dict_tuple : kitB "dict" "tuple" = some false := by with_unfolding_all rfl
theorem kt_dict_dict : kitB "dict" "dict" = some true := by with_unfolding_all rfl
theorem evE_id {A : EF} {Γ : Gam} {Q : Cell → Gam → Prop} {X : Exc → Gam → Prop} (h : evE A Γ Q X) : evE A Γ Q X := h
theorem evS_id {G : GS} {Γ : Gam} {N R B C X} (h : evS G Γ N R B C X) : evS G Γ N R B C X := h
theorem evT_id {A : TF} {Γ : Gam} {Q : Bool → Gam → Prop} {X : Exc → Gam → Prop} (h : evT A Γ Q X) : evT A Γ Q X := h
theorem evA_id {A : AF} {Γ : Gam} {Q : List Cell → Gam → Prop} {X : Exc → Gam → Prop} (h : evA A Γ Q X) : evA A Γ Q X := h
theorem evG_id {x : Option Out} {Γ : Gam} {Q : Cell → Gam → Prop} (h : evG x Γ Q) : evG x Γ Q := h
/-- a list of ints, laid -/
abbrev intsD (ns : List Int) : List D := ns.map fun n => .leaf (.int n)
theorem intsOf_ints : ∀ ns : List Int, intsOf (intsD ns) = some ns
  | [] => rfl
  | n :: ns => by
    have h := intsOf_ints ns
    unfold intsD at h ⊢
    rw [List.map_cons]
    unfold intsOf
    rw [h]
    rfl
theorem toPs_ints : ∀ ns : List Int, toPs (intsD ns) = some (ns.map .int)
  | [] => rfl
  | n :: ns => by
    have h := toPs_ints ns
    unfold intsD at h ⊢
    rw [List.map_cons]
    unfold toPs
    rw [h]
    rfl
theorem canLay_ints : ∀ ns : List Int, PyData.canLayAll0 (ns.map .int) = true
  | [] => rfl
  | n :: ns => by
    have h := canLay_ints ns
    rw [List.map_cons]
    unfold PyData.canLayAll0 PyData.canLay0
    rw [h]
    rfl
theorem depthP_ints : ∀ ns : List Int, PyData.depthAll (ns.map .int) ≤ 1
  | [] => by unfold PyData.depthAll; exact Nat.zero_le _
  | n :: ns => by
    have h := depthP_ints ns
    rw [List.map_cons]
    unfold PyData.depthAll PyData.depth
    omega
theorem eqv_ints : ∀ ns ms : List Int, PyData.eqvAll (ns.map .int) (ms.map .int) = decide (ns = ms)
  | [], [] => rfl
  | [], _ :: _ => rfl
  | _ :: _, [] => rfl
  | n :: ns, m :: ms => by
    have h := eqv_ints ns ms
    rw [List.map_cons, List.map_cons]
    unfold PyData.eqvAll PyData.eqv
    rw [h]
    by_cases e : n = m
    · subst e; simp
    · simp [e]
theorem shaped_ints (ns : List Int) : SeqAt.shaped (.list (ns.map .int)) = true := by
  unfold SeqAt.shaped
  unfold PyData.canLay0 PyData.depth
  rw [canLay_ints]
  have := depthP_ints ns
  simp only [Bool.true_and]
  exact decide_eq_true (by omega)
theorem eqD_ints (ns ms : List Int) : eqD (.node .lst (intsD ns)) (.node .lst (intsD ms)) = some (decide (ns = ms)) := by
  unfold eqD toP
  rw [toPs_ints, toPs_ints]
  dsimp only
  rw [shaped_ints, shaped_ints]
  unfold PyData.eqv
  rw [eqv_ints]
  rfl
end DL

set_option Elab.async false
set_option linter.all false
set_option maxRecDepth 100000
set_option maxHeartbeats 1000000
/-! more of the language: extend, sorted, a, b, c = x, y, z -/
namespace DL
open PySem PySem.Spec PyProof.Rows L2

/-- xs.extend(a list) -/
def gExtend : Tag → List D → List D → Option (D × Tag × List D)
  | .lst, ds, [.node .lst es] => if ds.length + es.length ≤ 16777216 then some (.leaf .non, .lst, ds ++ es) else none
  | _, _, _ => none
theorem smExtend {K : PySem.W.Frag} : SM K rExtend gExtend := by
  intro M H a t xs ds vs es d t' ds' Q s own r rh rv hg q
  unfold gExtend at hg
  split at hg
  · rename_i e
    split at hg
    · rename_i hl
      cases hg
      obtain ⟨x, ys, rfl, r1, r2⟩ := rv.cons_of
      rw [r2.nil_of]
      unfold Rep at r1
      obtain ⟨b, zs, rfl, hb, rz⟩ := r1
      have hb' : M b = some (.lst zs) := hb
      exact ⟨a, b, xs, zs, rfl, rfl, own, s b _ hb', by rw [r.length, rz.length, sizeLine_eq]; exact hl, q _ (xs ++ zs) (.lst (xs ++ zs)) (by unfold Rep; rfl) (r.append rz) fun H' e => e⟩
    · cases hg
  · cases hg

/-! ### sorted, of ints -/
def insI (n : Int) : List Int → List Int
  | [] => [n]
  | m :: ms => if n ≤ m then n :: m :: ms else m :: insI n ms
def sortI : List Int → List Int
  | [] => []
  | n :: ns => insI n (sortI ns)
theorem insI_perm (n : Int) : ∀ ms : List Int, (insI n ms).Perm (n :: ms)
  | [] => List.Perm.refl _
  | m :: ms => by
    unfold insI
    split
    · exact List.Perm.refl _
    · exact ((insI_perm n ms).cons m).trans (List.Perm.swap n m ms)
theorem sortI_perm : ∀ ns : List Int, (sortI ns).Perm ns
  | [] => List.Perm.refl _
  | n :: ns => (insI_perm n (sortI ns)).trans ((sortI_perm ns).cons n)
theorem insI_sorted {n : Int} : ∀ {ms : List Int}, ms.Pairwise (· ≤ ·) → (insI n ms).Pairwise (· ≤ ·)
  | [], _ => by simp [insI]
  | m :: ms, h => by
    unfold insI
    obtain ⟨h1, h2⟩ := List.pairwise_cons.mp h
    split
    · rename_i hn
      exact List.pairwise_cons.mpr ⟨fun x hx => by
        rcases List.mem_cons.mp hx with rfl | hx
        · exact hn
        · exact Int.le_trans hn (h1 x hx), h⟩
    · rename_i hn
      exact List.pairwise_cons.mpr ⟨fun x hx => by
        rcases List.mem_cons.mp ((insI_perm n ms).mem_iff.mp hx) with rfl | hx
        · omega
        · exact h1 x hx, insI_sorted h2⟩
theorem sortI_sorted : ∀ ns : List Int, (sortI ns).Pairwise (· ≤ ·)
  | [] => List.Pairwise.nil
  | n :: ns => insI_sorted (sortI_sorted ns)
theorem sorted_one : ∀ {as bs : List Int}, as.Perm bs → as.Pairwise (· ≤ ·) → bs.Pairwise (· ≤ ·) → as = bs
  | [], bs, p, _, _ => by rw [List.nil_perm.mp p]
  | a :: as, [], p, _, _ => by have := p.length_eq; simp at this
  | a :: as, b :: bs, p, h, h' => by
    obtain ⟨a1, a2⟩ := List.pairwise_cons.mp h
    obtain ⟨b1, b2⟩ := List.pairwise_cons.mp h'
    have e : a = b := by
      have x1 : b ≤ a := by
        rcases List.mem_cons.mp (p.mem_iff.mp (List.mem_cons_self)) with e | e
        · omega
        · exact b1 a e
      have x2 : a ≤ b := by
        rcases List.mem_cons.mp (p.mem_iff.mpr (List.mem_cons_self)) with e | e
        · omega
        · exact a1 b e
      omega
    subst e
    rw [sorted_one (List.Perm.cons_inv p) a2 b2]
def gSorted : List D → Option Out
  | [.node .lst ds] => (intsOf ds).map fun ns => .new .lst (intsD (sortI ns))
  | [.node .scr ds] => (intsOf ds).map fun ns => .new .lst (intsD (sortI ns))
  | _ => none
theorem reps_intsD {K : PySem.W.Frag} {M : Hp} : ∀ ns : List Int, Reps K M (ns.map V.int) (intsD ns)
  | [] => .nil
  | n :: ns => .cons (by unfold Rep; rfl) (reps_intsD ns)
theorem shSorted {K : PySem.W.Frag} : SH K (rSortedI K) gSorted := by
  intro M H xs ds o Q s r h q
  unfold gSorted at h
  split at h
  · rename_i ds
    obtain ⟨x, rfl, a, ys, rfl, ho, rs⟩ := r.one
    cases hd : intsOf ds with
    | none => rw [hd] at h; cases h
    | some ns =>
      rw [hd] at h
      cases h
      obtain rfl := intsOf_reps hd rs
      refine ⟨a, ns, rfl, .of ho, fun ns' p hp hs hH => ?_⟩
      have e : ns' = sortI ns := sorted_one (hp.trans (sortI_perm ns).symm) hs (sortI_sorted ns)
      subst e
      exact q.2 p _ hH (reps_intsD _)
  · rename_i ds
    obtain ⟨x, rfl, a, ys, rfl, ho, rs⟩ := r.one
    cases hd : intsOf ds with
    | none => rw [hd] at h; cases h
    | some ns =>
      rw [hd] at h
      cases h
      obtain rfl := intsOf_reps hd rs
      refine ⟨a, ns, rfl, ho, fun ns' p hp hs hH => ?_⟩
      have e : ns' = sortI ns := sorted_one (hp.trans (sortI_perm ns).symm) hs (sortI_sorted ns)
      subst e
      exact q.2 p _ hH (reps_intsD _)
  · cases h
section
variable {Γ : Gam} {Q : Cell → Gam → Prop} {xs : List D}
theorem vSorted {ns : List Int} (q : Q (.ow .lst (intsD (sortI ns))) Γ) : evG (gSorted [.node .lst (intsD ns)]) Γ Q := evG_lst (by unfold gSorted; dsimp only; rw [intsOf_ints]; rfl) q
theorem uExtend {es : List D} {Q : D → Tag → List D → Prop} (h : xs.length + es.length ≤ 16777216) (q : Q (.leaf .non) .lst (xs ++ es)) : evMu (gExtend .lst xs [.node .lst es]) Q := ⟨_, _, _, by unfold gExtend; dsimp only; rw [if_pos h], q⟩
end

/-! ### a, b, c = x, y, z -/
def kPar3 (i j l : Nat) (cs : List Cell) : GS := fun Γ1 => match cs with
  | [c, e, g] => if isSolid c && isSolid e && isSolid g then (match setC l g Γ1 with
    | some Γ2 => match setC j e Γ2 with
      | some Γ3 => match setC i c Γ3 with
        | some Γ4 => some (.nx Γ4)
        | none => none
      | none => none
    | none => none) else none
  | _ => none
def sPar3 (i j l : Nat) (L : AF) : GS := bindLS L (kPar3 i j l)
section
variable {X : Cx} {W : WX}
end
section
variable {Γ : Gam} {X : Exc → Gam → Prop} {N : Gam → Prop} {R : Cell → Gam → Prop} {Bk Ct : Gam → Prop}
def evPr3 (cs : List Cell) (Q : Cell → Cell → Cell → Prop) : Prop := ∃ c e g, cs = [c, e, g] ∧ isSolid c = true ∧ isSolid e = true ∧ isSolid g = true ∧ Q c e g
theorem evPr3_mk {c e g : Cell} {Q : Cell → Cell → Cell → Prop} (h1 : isSolid c = true) (h2 : isSolid e = true) (h3 : isSolid g = true) (q : Q c e g) : evPr3 [c, e, g] Q := ⟨c, e, g, rfl, h1, h2, h3, q⟩
theorem evPar3 {i j l : Nat} {L : AF} (h : evA L Γ (fun cs Γ1 => evPr3 cs fun c e g => evSome (putN l g Γ1) fun Γ2 => evSome (putN j e Γ2) fun Γ3 => evSome (putN i c Γ3) N) X) : evS (sPar3 i j l L) Γ N R Bk Ct X :=
  evLS_bind (evA_mono h fun cs Γ1 ⟨c, e, g, e1, k1, k2, k3, Γ2, e2, Γ3, e3, Γ4, e4, q⟩ => ⟨.nx Γ4, by
    subst e1
    unfold kPar3
    dsimp only
    rw [k1, k2, k3, if_pos (by rfl), putN_set e2]
    dsimp only
    rw [putN_set e3]
    dsimp only
    rw [putN_set e4], q⟩)
end
theorem takes0 {X : Cx} : Takes X WF := fun _ _ ⟨_, _, _, _, _, _, _, _, _, _, _, _, _, _, _, w⟩ => w.2.elim
section
variable {X : Cx} {W : WX} {A B C : EF}
theorem chain_core {K : PySem.W.Frag} {r r' : R2} {g g' : D → D → Option Out} (hs : S2 K r g) (hs' : S2 K r' g') {σ : L2.St} {H : Hp} {Q : VK} (h : tE K W (eChain g g' A B C) σ H Q) : tChain r r' (tE K W A) (tE K W B) (tE K W C) σ H Q := by
  obtain ⟨f, M, τ, T, Γ, rr, Γ', G, hF, p⟩ := h
  refine run1 G hF p fun c1 Γ1 v H1 M1 G1 e1 => ?_
  refine run2 G1 e1 p fun c2 Γ2 v' H2 M2 G2 e2 => ?_
  split at e2
  · rename_i d d' hd hd'
    split at e2
    · rename_i hg
      refine hs M2 H2 v v' d d' _ _ G2.sub (G2.look (k := .inl 1) rfl hd) (G2.look (k := .inl 0) rfl hd') hg fun w hw => ?_
      unfold Rep at hw
      refine ⟨true, hw, iteT ?_⟩
      refine run3 G2 e2 p fun c3 Γ3 v3 H3 M3 G3 e3 => ?_
      split at e3
      · rename_i d2 d3 h2 h3
        obtain ⟨o, ho, hk, rfl, rfl⟩ := eOut_some e3
        exact hs' M3 H3 v' v3 d2 d3 o Q G3.sub (G3.look (k := .inl 1) rfl h2) (G3.look (k := .inl 0) rfl h3) ho (G3.pop.pop.pop.out (okNew_of hk) p)
      · cases e3
    · rename_i hg
      cases e2
      refine hs M2 H2 v v' d d' _ _ G2.sub (G2.look (k := .inl 1) rfl hd) (G2.look (k := .inl 0) rfl hd') hg fun w hw => ?_
      unfold Rep at hw
      exact ⟨false, hw, iteF (p _ H2 M2 (G2.pop.pop.pushSh (by unfold Rep; rfl)))⟩
    · cases e2
  · cases e2
/-- a < b < c, asked -/
theorem dt_chain {a b c : Expr} {pos : Pos} {op op' : CmpOp} {r r' : R2} {g g' : D → D → Option Out} (ho : OpR X (compareOp op) r) (ho' : OpR X (compareOp op') r') (hs : S2 X.K r g) (hs' : S2 X.K r' g') (ha : DE X W a A) (hb : DE X W b B) (hc : DE X W c C)
    (hm : lastMarks [op, op'] [b, c] = false := by with_unfolding_all rfl) : DT X W (.Compare a [op, op'] [b, c] pos) (tOf (eChain g g' A B C)) :=
  PTimp (pt_chain ho ho' ha hb hc hm) fun σ H Q h => chain_core hs hs' (ofB h)
end
section
variable {Γ : Gam} {Q : Cell → Gam → Prop}
theorem vIsNn (q : Q (.sh (.leaf (.bl true))) Γ) : evG (gIsN (.leaf .non) (.leaf .non)) Γ Q := vIsN q
theorem vIsNd {t : Tag} {ds : List D} (q : Q (.sh (.leaf (.bl false))) Γ) : evG (gIsN (.node t ds) (.leaf .non)) Γ Q := vIsN q
theorem vIsNi {i : Int} (q : Q (.sh (.leaf (.bl false))) Γ) : evG (gIsN (.leaf (.int i)) (.leaf .non)) Γ Q := vIsN q
theorem vIsNs {x : Str} (q : Q (.sh (.leaf (.bl false))) Γ) : evG (gIsN (.leaf (.str x)) (.leaf .non)) Γ Q := vIsN q
theorem vNotNn (q : Q (.sh (.leaf (.bl false))) Γ) : evG (gNotN (.leaf .non) (.leaf .non)) Γ Q := vNotN q
theorem vNotNd {t : Tag} {ds : List D} (q : Q (.sh (.leaf (.bl true))) Γ) : evG (gNotN (.node t ds) (.leaf .non)) Γ Q := vNotN q
theorem vNotNi {i : Int} (q : Q (.sh (.leaf (.bl true))) Γ) : evG (gNotN (.leaf (.int i)) (.leaf .non)) Γ Q := vNotN q
theorem vNotNs {x : Str} (q : Q (.sh (.leaf (.bl true))) Γ) : evG (gNotN (.leaf (.str x)) (.leaf .non)) Γ Q := vNotN q
end
end DL

set_option Elab.async false
set_option linter.all false
set_option maxRecDepth 100000
set_option maxHeartbeats 1000000
/-! a def that calls itself: its mirror at no depth asks for nothing -/
namespace DL
open PySem PySem.Spec PyProof.Rows L2
end DL

set_option Elab.async false
set_option linter.all false
set_option maxRecDepth 100000
set_option maxHeartbeats 1000000
/-! own classes: a new instance, fields read and stored -/
namespace DL
open PySem PySem.Spec PyProof.Rows L2

/-! ### one more pending value in the middle; a pending object as a slot -/
def shiftIx (n : Nat) : Ix → Ix
  | .inl j => if j < n then .inl j else .inl (j + 1)
  | .inr i => .inr i
section
variable {K : PySem.W.Frag} {f : Frm} {M H M' H' : Hp} {τ : List V} {T : List Cell} {σ : L2.St} {Γ : Gam} {v : V} {c : Cell} {t : Tag} {ds : List D}
theorem ent_ins {l1 : List V} {c1 : List Cell} {i : Nat} (hl : l1.length = c1.length) : ∀ (k : Ix) (u : V) (e : Cell), ent (l1 ++ v :: τ) (c1 ++ .br i :: T) σ Γ k = some (u, e) → (u = v ∧ e = .br i) ∨ ∃ k', k = shiftIx l1.length k' ∧ ent (l1 ++ τ) (c1 ++ T) σ Γ k' = some (u, e)
  | .inr j, u, e, q => .inr ⟨.inr j, rfl, q⟩
  | .inl j, u, e, q => by
    obtain ⟨q1, q2⟩ := ent_temp.mp q
    rcases Nat.lt_trichotomy j l1.length with h | h | h
    · refine .inr ⟨.inl j, by show _ = if j < l1.length then _ else _; rw [if_pos h], ent_temp.mpr ⟨?_, ?_⟩⟩
      · rw [List.getElem?_append_left h] at q1 ⊢; exact q1
      · rw [List.getElem?_append_left (by omega)] at q2 ⊢; exact q2
    · rw [List.getElem?_append_right (by omega), show j - l1.length = 0 by omega] at q1
      rw [List.getElem?_append_right (by omega), show j - c1.length = 0 by omega] at q2
      simp at q1 q2
      exact .inl ⟨q1.symm, q2.symm⟩
    · refine .inr ⟨.inl (j - 1), by show _ = if j - 1 < l1.length then _ else Sum.inl (j - 1 + 1); rw [if_neg (by omega), show j - 1 + 1 = j by omega], ent_temp.mpr ⟨?_, ?_⟩⟩
      · rw [List.getElem?_append_right (by omega), show j - l1.length = (j - 1 - l1.length) + 1 by omega, List.getElem?_cons_succ] at q1
        rw [List.getElem?_append_right (by omega)]; exact q1
      · rw [List.getElem?_append_right (by omega), show j - c1.length = (j - 1 - c1.length) + 1 by omega, List.getElem?_cons_succ] at q2
        rw [List.getElem?_append_right (by omega)]; exact q2
theorem Good.insBr {l1 : List V} {c1 : List Cell} {i : Nat} (G : Good K f M H (l1 ++ τ) (c1 ++ T) σ Γ) (hl : l1.length = c1.length) (hs : σ[i]? = some (some v)) : Good K f M H (l1 ++ v :: τ) (c1 ++ .br i :: T) σ Γ where
  bys := G.bys
  sub := G.sub
  m0 := G.m0
  new := G.new
  tl := by have := G.tl; simp only [List.length_append, List.length_cons] at this ⊢; omega
  sl := G.sl
  has := G.has
  ok := fun k u e q => by
    rcases ent_ins hl k u e q with ⟨rfl, rfl⟩ | ⟨k', _, q'⟩
    · exact hs
    · exact G.ok k' u e q'
  inj := fun k k' u e u' e' a q q' r r' => by
    rcases ent_ins hl k u e q with ⟨rfl, rfl⟩ | ⟨j, rfl, q1⟩
    · exact (own_br r).elim
    · rcases ent_ins hl k' u' e' q' with ⟨rfl, rfl⟩ | ⟨j', rfl, q1'⟩
      · exact (own_br r').elim
      · rw [G.inj j j' u e u' e' a q1 q1' r r']
  nbr := G.nbr
  args := G.args
  tabs := G.tabs
theorem ent_toSlot (hl : σ.length = Γ.length) : ∀ (k : Ix) (u : V) (e : Cell), ent τ T (σ ++ [some v]) (Γ ++ [some c]) k = some (u, e) → (k = .inr σ.length ∧ u = v ∧ e = c) ∨ (∃ j, k = .inl j ∧ ent (v :: τ) (c :: T) σ Γ (.inl (j + 1)) = some (u, e)) ∨ ∃ i, k = .inr i ∧ i < σ.length ∧ ent (v :: τ) (c :: T) σ Γ (.inr i) = some (u, e)
  | .inl j, u, e, q => .inr (.inl ⟨j, rfl, q⟩)
  | .inr i, u, e, q => by
    obtain ⟨q1, q2⟩ := ent_slot.mp q
    rcases Nat.lt_trichotomy i σ.length with h | h | h
    · rw [List.getElem?_append_left h] at q1
      rw [List.getElem?_append_left (by omega)] at q2
      exact .inr (.inr ⟨i, rfl, h, ent_slot.mpr ⟨q1, q2⟩⟩)
    · rw [List.getElem?_append_right (by omega), show i - σ.length = 0 by omega] at q1
      rw [List.getElem?_append_right (by omega), show i - Γ.length = 0 by omega] at q2
      simp at q1 q2
      exact .inl ⟨by rw [h], q1.symm, q2.symm⟩
    · have := lt_of_get q1
      simp at this
      omega
theorem COk.more {u : V} {e : Cell} {z : Option V} (h : COk K f M H σ u e) : COk K f M H (σ ++ [z]) u e := by
  cases e with
  | sh d => exact h
  | ow t ds => exact h
  | rf t ds => exact h
  | on t os => exact h
  | br i =>
    have h' : σ[i]? = some (some u) := h
    show (σ ++ [z])[i]? = some (some u)
    rw [List.getElem?_append_left (lt_of_get h')]
    exact h'
theorem Good.toSlot (G : Good K f M H (v :: τ) (.ow t ds :: T) σ Γ) : Good K f M H τ T (σ ++ [some v]) (Γ ++ [some (.ow t ds)]) where
  bys := G.bys
  sub := G.sub
  m0 := G.m0
  new := G.new
  tl := by have := G.tl; simp only [List.length_cons] at this; omega
  sl := by rw [List.length_append, List.length_append, G.sl]; rfl
  has := fun i c e => by
    have hl := G.sl
    by_cases h : i < Γ.length
    · rw [List.getElem?_append_left h] at e
      obtain ⟨u, hu⟩ := G.has i c e
      exact ⟨u, by rw [List.getElem?_append_left (by omega)]; exact hu⟩
    · have := lt_of_get e
      simp at this
      refine ⟨v, ?_⟩
      rw [List.getElem?_append_right (by omega), show i - σ.length = 0 by omega]
      rfl
  ok := fun k u e q => by
    rcases ent_toSlot G.sl k u e q with ⟨_, rfl, rfl⟩ | ⟨j, _, q⟩ | ⟨i, _, _, q⟩
    · exact (G.ok (.inl 0) _ _ rfl).more
    · exact (G.ok _ u e q).more
    · exact (G.ok _ u e q).more
  inj := fun k k' u e u' e' a q q' r r' => by
    rcases ent_toSlot G.sl k u e q with ⟨k1, u1, e1⟩ | ⟨j, k1, p⟩ | ⟨i, k1, _, p⟩
    · rcases ent_toSlot G.sl k' u' e' q' with ⟨k2, u2, e2⟩ | ⟨j', k2, p'⟩ | ⟨i', k2, _, p'⟩
      · rw [k1, k2]
      · have z := G.inj (.inl 0) _ v (.ow t ds) u' e' a rfl p' (by rw [← u1, ← e1]; exact r) r'; cases z
      · have z := G.inj (.inl 0) _ v (.ow t ds) u' e' a rfl p' (by rw [← u1, ← e1]; exact r) r'; cases z
    · rcases ent_toSlot G.sl k' u' e' q' with ⟨k2, u2, e2⟩ | ⟨j', k2, p'⟩ | ⟨i', k2, _, p'⟩
      · have z := G.inj (.inl 0) _ v (.ow t ds) u e a rfl p (by rw [← u2, ← e2]; exact r') r; cases z
      · have z := G.inj _ _ u e u' e' a p p' r r'; rw [k1, k2]; cases z; rfl
      · have z := G.inj _ _ u e u' e' a p p' r r'; cases z
    · rcases ent_toSlot G.sl k' u' e' q' with ⟨k2, u2, e2⟩ | ⟨j', k2, p'⟩ | ⟨i', k2, _, p'⟩
      · have z := G.inj (.inl 0) _ v (.ow t ds) u e a rfl p (by rw [← u2, ← e2]; exact r') r; cases z
      · have z := G.inj _ _ u e u' e' a p p' r r'; cases z
      · have z := G.inj _ _ u e u' e' a p p' r r'; rw [k1, k2]; cases z; rfl
  nbr := fun i j e => by
    by_cases h : i < Γ.length
    · rw [List.getElem?_append_left h] at e; exact G.nbr i j e
    · have := lt_of_get e
      simp at this
      rw [List.getElem?_append_right (by omega), show i - Γ.length = 0 by omega] at e
      cases e
  tabs := G.tabs
  args := fun i t' ds' e => by
    have hl := G.sl
    by_cases h : i < Γ.length
    · rw [List.getElem?_append_left h] at e
      rw [List.getElem?_append_left (by omega)]
      exact G.args i t' ds' e
    · have := lt_of_get e
      simp at this
      rw [List.getElem?_append_right (by omega), show i - Γ.length = 0 by omega] at e
      cases e
theorem Good.ofSlot (G : Good K f M H τ T (σ ++ [some v]) (Γ ++ [some (.ow t ds)])) (hl : σ.length = Γ.length) (hbr : ∀ j u i, ent τ T σ Γ (.inl j) = some (u, .br i) → σ[i]? = some (some u)) : Good K f M H (v :: τ) (.ow t ds :: T) σ Γ := by
  have up : ∀ i u e, ent (v :: τ) (.ow t ds :: T) σ Γ (.inr i) = some (u, e) → ent τ T (σ ++ [some v]) (Γ ++ [some (.ow t ds)]) (.inr i) = some (u, e) := fun i u e q => by
    obtain ⟨q1, q2⟩ := ent_slot.mp q
    have := lt_of_get q1
    exact ent_slot.mpr ⟨by rw [List.getElem?_append_left this]; exact q1, by rw [List.getElem?_append_left (by omega)]; exact q2⟩
  have last : ent τ T (σ ++ [some v]) (Γ ++ [some (.ow t ds)]) (.inr σ.length) = some (v, .ow t ds) := ent_slot.mpr ⟨by rw [List.getElem?_append_right (Nat.le_refl _), Nat.sub_self]; rfl, by rw [List.getElem?_append_right (by omega), show σ.length - Γ.length = 0 by omega]; rfl⟩
  refine ⟨G.bys, G.sub, G.m0, G.new, by rw [List.length_cons, List.length_cons, G.tl], hl, fun i c e => ?_, fun k u e q => ?_, fun k k' u e u' e' a q q' r r' => ?_, fun i j e => ?_, fun i t' ds' e => ?_, G.tabs⟩
  · have hi := lt_of_get e
    obtain ⟨u, hu⟩ := G.has i c (by rw [List.getElem?_append_left hi]; exact e)
    rw [List.getElem?_append_left (by omega)] at hu
    exact ⟨u, hu⟩
  · match k with
    | .inl 0 => cases q; exact G.ok _ _ _ last
    | .inl (j + 1) =>
      have h0 := G.ok (.inl j) u e q
      cases e with
      | sh d => exact h0
      | ow t ds => exact h0
      | rf t ds => exact h0
      | on t os => exact h0
      | br i => exact hbr j u i q
    | .inr i =>
      have h0 := G.ok (.inr i) u e (up i u e q)
      cases e with
      | sh d => exact h0
      | ow t ds => exact h0
      | rf t ds => exact h0
      | on t os => exact h0
      | br j => exact (G.nbr i j (ent_slot.mp (up i u _ q)).2).elim
  · match k, k' with
    | .inl 0, .inl 0 => rfl
    | .inl 0, .inl (j + 1) => cases q; have z := G.inj _ (.inl j) _ _ u' e' a last q' r r'; cases z
    | .inl 0, .inr i =>
      cases q
      have z := G.inj _ (.inr i) _ _ u' e' a last (up i u' e' q') r r'
      have := lt_of_get (ent_slot.mp q').1
      cases z
      omega
    | .inl (j + 1), .inl 0 => cases q'; have z := G.inj _ (.inl j) _ _ u e a last q r' r; cases z
    | .inr i, .inl 0 =>
      cases q'
      have z := G.inj _ (.inr i) _ _ u e a last (up i u e q) r' r
      have := lt_of_get (ent_slot.mp q).1
      cases z
      omega
    | .inl (j + 1), .inl (j' + 1) => have z := G.inj (.inl j) (.inl j') u e u' e' a q q' r r'; cases z; rfl
    | .inl (j + 1), .inr i => have z := G.inj (.inl j) (.inr i) u e u' e' a q (up i u' e' q') r r'; cases z
    | .inr i, .inl (j + 1) => have z := G.inj (.inr i) (.inl j) u e u' e' a (up i u e q) q' r r'; cases z
    | .inr i, .inr i' => have z := G.inj (.inr i) (.inr i') u e u' e' a (up i u e q) (up i' u' e' q') r r'; cases z; rfl
  · have hi := lt_of_get e
    exact G.nbr i j (by rw [List.getElem?_append_left hi]; exact e)
  · have hi := lt_of_get e
    have := G.args i t' ds' (by rw [List.getElem?_append_left hi]; exact e)
    rw [List.getElem?_append_left (by omega)] at this
    exact this
theorem argsC_more {z : Option Cell} : ∀ {cs T : List Cell} {b : Option (Nat × Nat)}, argsC Γ cs = some (T, b) → argsC (Γ ++ [z]) cs = some (T, b)
  | [], T, b, h => h
  | .sh d :: cs, T, b, h => by
    unfold argsC at h ⊢
    split at h
    · rename_i T1 b1 e
      rw [argsC_more e]
      exact h
    · cases h
  | .br i :: cs, T, b, h => by
    unfold argsC at h ⊢
    split at h
    · rename_i T1 b1 e
      rw [argsC_more e]
      dsimp only at h ⊢
      have hi : i < Γ.length := by
        split at h
        · rename_i e1; exact lt_of_get e1
        · rename_i e1; exact lt_of_get e1
        · rename_i e1; exact lt_of_get e1
        · cases h
      rw [List.getElem?_append_left hi]
      exact h
    · cases h
  | .ow _ _ :: _, _, _, h => by cases h
  | .rf _ _ :: _, _, _, h => by cases h
/-- a new instance: the state of its __init__, and the way back -/
theorem Good.make {vs : List V} {cs T0 T1 : List Cell} {C x dx : Addr} (G : Good K f M H (vs.reverse ++ τ) (cs.reverse ++ T0) σ Γ) (hl : vs.length = cs.length) (h : argsC Γ cs = some (T1, none)) {dvs : List V} {dfl : List D} (hd : Reps K M dvs dfl) (hx : H x = none) (hdx : H dx = none) (hne : dx ≠ x) :
    ∃ fc, Good K fc M (upd (upd H dx (.own x)) x (.ins C dx [])) (.ref x :: (vs ++ dvs)) (.ow (.ins C []) [] :: (T1 ++ dfl.map .sh)) [] [] ∧ ∀ M' H' T' t ds, 
      (Good K fc M' H' (.ref x :: (vs ++ dvs)) (.ow t ds :: T') [] [] → Good K f M' H' (.ref x :: τ) (.ow t ds :: T0) σ Γ) ∧ ∀ v c, Solid c → Good K fc M' H' (v :: .ref x :: (vs ++ dvs)) (c :: .ow t ds :: T') [] [] → Good K f M' H' (.ref x :: τ) (.ow t ds :: T0) σ Γ := by
  have hlen : vs.reverse.length = cs.reverse.length := by rw [List.length_reverse, List.length_reverse, hl]
  have hx1 : upd H dx (.own x) x = none := by rw [upd_ne hne.symm]; exact hx
  have fresh : ∀ k v c, ent (vs.reverse ++ τ) (cs.reverse ++ T0) σ Γ k = some (v, c) → ¬ own H v c dx := fun k v c e q => by
    obtain ⟨o, z⟩ := G.ownedSome e q
    rw [hdx] at z; cases z
  have G1 := (G.lay (G.notM hdx) (G.notB hdx) (fun u e => by rw [hdx] at e; cases e) fresh (.own x)).alloc (p := x) (t := .ins C []) (xs := []) (ds := []) (o := .ins C dx []) hx1 ⟨rfl, dx, by rw [upd_same]; rfl⟩ .nil
  have G2 := G1.toSlot
  have G3 := G2.insBr (i := σ.length) (v := .ref x) hlen (by rw [List.getElem?_append_right (Nat.le_refl _), Nat.sub_self]; rfl)
  have sl := G.sl
  have hA : argsC (Γ ++ [some (.ow (.ins C []) [])]) (.br σ.length :: cs) = some (.ow (.ins C []) [] :: T1, some (σ.length, 0)) := by
    unfold argsC
    rw [argsC_more h]
    dsimp only
    rw [List.getElem?_append_right (by omega), show σ.length - Γ.length = 0 by omega]
    rfl
  have G4 : Good K f M (upd (upd H dx (.own x)) x (.ins C dx [])) ((V.ref x :: vs).reverse ++ τ) ((Cell.br σ.length :: cs).reverse ++ T0) (σ ++ [some (.ref x)]) (Γ ++ [some (.ow (.ins C []) [])]) := by
    rw [List.reverse_cons, List.reverse_cons, List.append_assoc, List.append_assoc]
    exact G3
  obtain ⟨fc, gc, back⟩ := G4.call (by rw [List.length_cons, List.length_cons, hl]) hA hd
  have G0 := G.drop hlen
  have hbr : ∀ j u i, ent τ T0 σ Γ (.inl j) = some (u, .br i) → σ[i]? = some (some u) := fun j u i q => G0.ok _ _ _ q
  refine ⟨fc, gc, fun M' H' T' t ds => ?_⟩
  have hp : putB (Γ ++ [some (.ow (.ins C []) [])]) (some (σ.length, 0)) (.ow t ds :: T') = some (Γ ++ [some (.ow t ds)]) := by
    unfold putB
    dsimp only [List.getElem?_cons_zero]
    rw [List.getElem?_append_right (by omega), show σ.length - Γ.length = 0 by omega]
    dsimp only [List.getElem?_cons_zero]
    rw [List.set_append_right _ _ (by omega), show σ.length - Γ.length = 0 by omega]
    rfl
  obtain ⟨b1, b2⟩ := back M' H' _ _ hp
  exact ⟨fun g => (b1 g).ofSlot sl hbr, fun v c sc g => (b2 v c sc g).pop.ofSlot sl hbr⟩
end
/-- C(..): the instance made, then __init__ -/
def eMake (C : Addr) (n : Nat) (m : MF) (dfl : List D) (L : AF) : EF := bindL L fun cs Γ => if cs.length + dfl.length + 1 = n then (match argsC Γ cs with
  | some (T, none) => (match m (.ow (.ins C []) [] :: (T ++ dfl.map .sh)) with
    | some (.val (.sh (.leaf .non)), .ow t ds :: _) => some (.val (.ow t ds), Γ)
    | some (.exc x, .ow _ _ :: _) => some (.exc x, Γ)
    | _ => none)
  | _ => none) else none
section
variable {X : Cx} {W : WX} {k : Nat} {f C : Addr} {fd : FuncData} {ps : List Str} {m : MF} {dvs : List V} {ds : List Value} {dfl : List D} {x nm : Str} {p pos apos : Pos} {e o : Expr} {es : List Expr} {L : AF} {A : EF}
theorem run_makeG {pins : List (Addr × Obj)} {σ : L2.St} {H : Hp} {s : Shared} {Q : VK} {us : List Value} {vs : List V} (N : Mk X.K C f) (F : FnG X.prog X.w X.K X.mg X.base k f fd ps m) (hr : RoomG (k + 1) X.A) (hb : Binds X.K fd ps ds) (hd : Vals dvs ds) (tk : Takes X W)
    (I : Inv X pins σ H s) (r : Vals vs us)
    (h : ∀ x dx, H x = none → H dx = none → dx ≠ x → spM X.K ps.length m (.ref x :: (vs ++ dvs)) (upd (upd H dx (.own x)) x (.ins C dx [])) (fun v H2 => v = .non ∧ Q (.ref x) H2) (WE W σ)) :
    wpAny (model X.prog X.w) X.A (call (.ref C) us) (EP X pins σ Q) X.xe s := by
  have hq := h (s.heap.objs.size + 1) s.heap.objs.size (I.hok.fresh (Nat.le_succ _)) (I.hok.fresh (Nat.le_refl _)) (Nat.ne_of_lt (Nat.lt_succ_self _))
  have I2 := Inv.made (C := C) I
  have r2 : Vals (V.ref (s.heap.objs.size + 1) :: (vs ++ dvs)) (Value.ref (s.heap.objs.size + 1) :: (us ++ ds)) := .cons rfl (r.append hd)
  have hl : (Value.ref (s.heap.objs.size + 1) :: us ++ ds).length = ps.length := by
    have e := r2.length
    rw [hq.1] at e
    exact e.symm
  refine wpAny_call (make_map (f := f) I.kIn N.makes N.init (beq_iff_eq.mp N.fn) (codeAny_mono (F.run _ X.stack _ _ ⟨Value.ref (s.heap.objs.size + 1) :: us, []⟩ (Value.ref (s.heap.objs.size + 1) :: (us ++ ds)) _ _ (WE W σ) ⟨hr.room.make C us [], hr.gd⟩
    (I2.env0.make C us []) (hb _ (Value.ref (s.heap.objs.size + 1) :: us) I2.kIn hl) r2 hq) fun r s' hq' => ?_))
  cases r with
  | error e => exact passAt tk σ pins _ _ e s' I2 hq'
  | ok fl =>
    cases fl with
    | ret u =>
      obtain ⟨v, H', I3, rv, ev, q3⟩ := I2.after hq'
      subst ev
      exact ⟨rv, ⟨V.ref (s.heap.objs.size + 1), H', I3, rfl, q3⟩⟩
    | next => exact False.elim hq'
    | brk => exact False.elim hq'
    | cont => exact False.elim hq'
theorem make_core {σ : L2.St} {H : Hp} {Q : VK} {f0 : Frm} {M : Hp} {τ : List V} {T0 : List Cell} {Γ Γ' : Gam} {r : Res} {cs : List Cell} {vs : List V} {n : Nat} (G : Good X.K f0 M H (vs.reverse ++ τ) (cs.reverse ++ T0) σ Γ) (hl : vs.length = cs.length) (p : PostE X.K W f0 τ T0 σ Q r Γ') (hd : Reps X.K M dvs dfl)
    (e : (if cs.length + dfl.length + 1 = n then (match argsC Γ cs with
      | some (T, none) => (match m (.ow (.ins C []) [] :: (T ++ dfl.map .sh)) with
        | some (.val (.sh (.leaf .non)), .ow t ds :: _) => some (Res.val (.ow t ds), Γ)
        | some (.exc x, .ow _ _ :: _) => some (.exc x, Γ)
        | _ => none)
      | _ => none) else none) = some (r, Γ')) (x dx : Addr) (hx : H x = none) (hdx : H dx = none) (hne : dx ≠ x) : spM X.K n m (.ref x :: (vs ++ dvs)) (upd (upd H dx (.own x)) x (.ins C dx [])) (fun v H2 => v = .non ∧ Q (.ref x) H2) (WE W σ) := by
  split at e
  · rename_i hn
    refine ⟨by rw [List.length_cons, List.length_append, hl, hd.length]; exact hn, ?_⟩
    split at e
    · rename_i T hT
      obtain ⟨fc, gc, back⟩ := G.make (C := C) hl hT hd hx hdx hne
      split at e
      · rename_i t ds T' hm
        cases e
        refine ⟨fc, M, _, _, _, gc, hm, trivial, fun v H' M' g' => ?_⟩
        have hv : Rep X.K M' v (.leaf .non) := g'.ok (.inl 0) v _ rfl
        unfold Rep at hv
        exact ⟨hv, p _ H' M' ((back M' H' T' t ds).2 v (.sh (.leaf .non)) trivial g')⟩
      · rename_i x1 t ds T' hm
        cases e
        exact ⟨fc, M, _, _, _, gc, hm, fun d H' M' g' hx => p d H' M' ((back M' H' T' t ds).1 g').pop hx⟩
      · cases e
    · cases e
  · cases e
theorem de_make (N : Mk X.K C f) (F : FnG X.prog X.w X.K X.mg X.base k f fd ps m) (hr : RoomG (k + 1) X.A) (tk : Takes X W) (hm : X.mg x = some (.ref C)) (hb : Binds X.K fd ps ds) (hd : Vals dvs ds) (hdf : Reps X.K (fun _ => none) dvs dfl)
    (ha : DA X W (e :: es) L) (hg : Gl X x := by rfl) (hdb : (x == ("__debug__" : Str)) = false := by decide) (he : starEach (e :: es) X.env = (false, eval e X.env) :: starEach es X.env := by rfl) (hpl : (backTo pos (starEach es X.env)).any (·.1) = false := by rfl) :
    DE X W (.Call (.Name x p) (e :: es) [] pos) (eMake C ps.length m dfl L) := by
  refine ⟨fun pins s σ H Q I h => ?_⟩
  obtain ⟨f0, M, τ, T, Γ, r, Γ', G, hF, post⟩ := h
  apply wpAny_Call_Name_kw
  refine ld_glob I hg hm ?_ hdb
  have asked : (tL X.K W L) σ H (fun vs H1 => ∀ x dx, H1 x = none → H1 dx = none → dx ≠ x → spM X.K ps.length m (.ref x :: (vs ++ dvs)) (upd (upd H1 dx (.own x)) x (.ins C dx [])) (fun v H2 => v = .non ∧ Q (.ref x) H2) (WE W σ)) :=
    runL G hF post fun cs Γ1 vs H1 M1 hl G1 e => make_core G1 hl post (Reps.mono (fun _ _ q => by cases q) _ _ hdf) e
  refine PySem.W.callWith_K (h₀ := X.base) I.ok.mod.kin N.kp ?_ he hpl
  refine thn (ha.run pos pins s σ H _ I asked) ?_
  rintro us s1 ⟨vs, H1, I1, rr, q⟩
  exact ⟨I1.kIn, run_makeG N F hr hb hd tk I1 rr q⟩
end

/-! ### fields -/
def fldD (nm : Str) : List Str → List D → Option D
  | n :: ns, d :: ds => if nm == n then some d else fldD nm ns ds
  | _, _ => none
theorem fld_of {K : PySem.W.Frag} {M : Hp} {nm : Str} : ∀ {ns : List Str} {xs : List V} {ds : List D} {d : D}, Reps K M xs ds → fldD nm ns ds = some d → ∃ v, (ns.zip xs).lookup nm = some v ∧ Rep K M v d
  | [], xs, ds, d, r, h => by unfold fldD at h; cases h
  | n :: ns, xs, [], d, r, h => by unfold fldD at h; cases h
  | n :: ns, xs, e :: ds, d, r, h => by
    obtain ⟨x, ys, rfl, r1, r2⟩ := r.cons_of
    unfold fldD at h
    rw [List.zip_cons_cons, List.lookup_cons]
    split at h
    · rename_i hq
      cases h
      exact ⟨x, by rw [hq], r1⟩
    · rename_i hq
      obtain ⟨v, e1, e2⟩ := fld_of r2 h
      exact ⟨v, by simp only [Bool.not_eq_true] at hq; rw [hq]; exact e1, e2⟩
def gFld (C : Addr) (nm : Str) : D → Option Out
  | .node (.ins C' ns) ds => if C' = C then (match fldD nm ns ds with
    | some d => some (.old d)
    | none => none) else none
  | _ => none
theorem s1Fld {K : PySem.W.Frag} {C : Addr} {nm : Str} (c : Cls K C) (n : NoAttr K C nm) : S1 K (fun x H1 Q => ∃ a C dx fs v, x = .ref a ∧ H1 a = some (.ins C dx fs) ∧ Cls K C ∧ NoAttr K C nm ∧ fs.lookup nm = some v ∧ Q v H1) (gFld C nm) := by
  intro M H x d o Q s rx hg q
  unfold gFld at hg
  split at hg
  · rename_i C' ns ds
    split at hg
    · rename_i hC
      subst hC
      split at hg
      · rename_i e he
        cases hg
        obtain ⟨a, xs, rfl, ⟨_, dx, ho⟩, rs⟩ := rx
        obtain ⟨v, h1, h2⟩ := fld_of rs he
        exact ⟨a, _, dx, _, v, rfl, ho, c, n, h1, q v h2⟩
      · cases hg
    · cases hg
  · cases hg
section
variable {X : Cx} {W : WX} {e : Expr} {nm : Str} {pos pos' : Pos} {A : EF} {C : Addr}
theorem de_fld (c : Cls X.K C) (n : NoAttr X.K C nm) (he : DE X W e A) (hb : attributeBase e nm X.env (eval e X.env) = eval e X.env := by rfl) : DE X W (.Attribute e nm pos) (eUn (gFld C nm) A) :=
  PEimp (pe_fld he hb) fun σ H Q h => un_core (s1Fld c n) h
end
def putD (nm : Str) (d : D) : List Str → List D → List Str × List D
  | n :: ns, e :: ds => if n = nm then (n :: ns, d :: ds) else let p := putD nm d ns ds; (n :: p.1, e :: p.2)
  | _, _ => ([nm], [d])
theorem putD_of {K : PySem.W.Frag} {M : Hp} {nm : Str} {v : V} {d : D} (rv : Rep K M v d) : ∀ {ns : List Str} {xs : List V} {ds : List D}, ns.length = xs.length → Reps K M xs ds → ∃ xs', putF nm v (ns.zip xs) = (putD nm d ns ds).1.zip xs' ∧ (putD nm d ns ds).1.length = xs'.length ∧ Reps K M xs' (putD nm d ns ds).2
  | [], xs, ds, hl, r => by
    cases xs with
    | nil =>
      cases ds with
      | nil => exact ⟨[v], rfl, rfl, .cons rv .nil⟩
      | cons e ds => unfold Reps at r; exact r.elim
    | cons x xs => cases hl
  | n :: ns, xs, ds, hl, r => by
    cases xs with
    | nil => cases hl
    | cons x xs =>
      cases ds with
      | nil => unfold Reps at r; exact r.elim
      | cons e ds =>
        obtain ⟨r1, r2⟩ := r.of_cons
        rw [List.zip_cons_cons]
        unfold putF putD
        by_cases h : n = nm
        · rw [if_pos h, if_pos h]
          exact ⟨v :: xs, rfl, hl, .cons rv r2⟩
        · rw [if_neg h, if_neg h]
          obtain ⟨xs', e1, e2, e3⟩ := putD_of rv (ns := ns) (by simpa using hl) r2
          exact ⟨x :: xs', by rw [e1]; rfl, by rw [List.length_cons, List.length_cons, e2], .cons r1 e3⟩
/-- o.f = e, o the object of slot i -/
def sFld (i : Nat) (C : Addr) (nm : Str) (A : EF) : GS := bindS (eKeep A) fun c Γ => match c, slotO Γ i with
  | .sh d, some (.ins C' ns, ds) => if C' = C ∧ ns.length < 1000 then (match slotP Γ i (.ins C (putD nm d ns ds).1) (putD nm d ns ds).2 with
    | some Γ1 => some (.nx Γ1)
    | none => none) else none
  | _, _ => none
section
variable {X : Cx} {W : WX} {value : Expr} {x nm : Str} {opos pos pos' : Pos} {A : EF} {C : Addr}
theorem ds_fld (i : Nat) (c : Cls X.K C) (n : NoAttr X.K C nm) (hv : DE X W value A) (hN : X.N[i]? = some x := by rfl)
    (hvis : Vis X.env.scope x := by first | exact Or.inl rfl | exact Or.inr (Or.inl rfl) | exact Or.inr (Or.inr rfl)) (hd : (x == ("__debug__" : Str)) = false := by decide) (hcd : (x == ("__classdict__" : Str)) = false := by decide)
    (hs : swapsWith value (some (.Attribute (.Name x opos) nm pos')) pos.line X.env = pure false := by rfl) :
    DS X W (.Assign [.Attribute (.Name x opos) nm pos'] value pos) (sFld i C nm A) := by
  refine PSimp (ps_fld (pe_var hN hvis hd hcd) (de_keep hv) hs) fun D σ H h => ?_
  refine runS h fun f c1 Γ1 v H1 M1 o G1 hk p => ?_
  split at hk
  · rename_i d C' ns ds hso
    split at hk
    · rename_i hC
      obtain ⟨rfl, hl⟩ := hC
      split at hk
      · rename_i Γ2 hp
        cases hk
        have rv : Rep X.K M1 v d := G1.ok (.inl 0) v _ rfl
        have G2 := G1.pop
        obtain ⟨a, xs, hσ, ⟨hln, dx, ho⟩, rs, m, b⟩ := G2.slotO hso
        obtain ⟨xs', e1, e2, e3⟩ := putD_of (nm := nm) rv hln rs
        refine ⟨.ref a, hσ, a, _, dx, _, rfl, ho, c, n, ?_, ?_⟩
        · rw [List.length_zip, hln, Nat.min_self, ← hln]; exact hl
        · rw [e1]
          exact p _ _ M1 (G2.put (o := .ins _ dx ((putD nm d ns ds).1.zip xs')) (t' := .ins _ (putD nm d ns ds).1) (xs' := xs') hso hσ ⟨e2, dx, by rw [upd_same]⟩ e3 hp)
      · cases hk
    · cases hk
  · cases hk
end

/-! ### run -/
section
variable {Γ : Gam} {X : Exc → Gam → Prop} {Q : Cell → Gam → Prop} {A B : EF} {N : Gam → Prop} {R : Cell → Gam → Prop} {Bk Ct : Gam → Prop}
def evOw (c : Cell) (T' : List Cell) (Q : Tag → List D → Prop) : Prop := ∃ t ds T2, c = .sh (.leaf .non) ∧ T' = .ow t ds :: T2 ∧ Q t ds
theorem evOw_mk {t : Tag} {ds : List D} {T2 : List Cell} {Q : Tag → List D → Prop} (q : Q t ds) : evOw (.sh (.leaf .non)) (.ow t ds :: T2) Q := ⟨t, ds, T2, rfl, rfl, q⟩
def evNoB (x : Option (List Cell × Option (Nat × Nat))) (Q : List Cell → Prop) : Prop := ∃ T, x = some (T, none) ∧ Q T
theorem evNoB_mk {x : Option (List Cell × Option (Nat × Nat))} {Q : List Cell → Prop} (T : List Cell) (h : x = some (T, none)) (q : Q T) : evNoB x Q := ⟨T, h, q⟩
theorem evMake {C : Addr} {n : Nat} {m : MF} {L : AF}
    (h : evA L Γ (fun cs Γ1 => cs.length + 0 + 1 = n ∧ evNoB (argsC Γ1 cs) fun T => evM m (.ow (.ins C []) [] :: T) (fun c T' => evOw c T' fun t ds => Q (.ow t ds) Γ1) (fun x T' => ∃ t ds T2, T' = .ow t ds :: T2 ∧ X x Γ1)) X) : evE (eMake C n m [] L) Γ Q X := by
  refine evL_bind (evA_mono h fun cs Γ1 ⟨hn, T, hT, r, T', hm, q⟩ => ?_)
  cases r with
  | val c =>
    obtain ⟨t, ds, T2, rfl, rfl, q⟩ := q
    refine ⟨.val (.ow t ds), Γ1, ?_, q⟩
    (try dsimp only)
    rw [if_pos (show cs.length + ([] : List D).length + 1 = n from hn), hT]
    dsimp only
    rw [List.map_nil, List.append_nil, hm]
  | exc x =>
    obtain ⟨t, ds, T2, rfl, q⟩ := q
    refine ⟨.exc x, Γ1, ?_, q⟩
    (try dsimp only)
    rw [if_pos (show cs.length + ([] : List D).length + 1 = n from hn), hT]
    dsimp only
    rw [List.map_nil, List.append_nil, hm]
/-- a method: the receiver is an instance of the class -/
def evRc (x : Option D) (C : Addr) (nm : Str) (P : Prop) : Prop := ∃ ns ds, x = some (.node (.ins C ns) ds) ∧ ns.contains nm = false ∧ P
theorem evRc_mk {x : Option D} {C : Addr} {nm : Str} {P : Prop} (ns : List Str) (ds : List D) (h : x = some (.node (.ins C ns) ds)) (n : ns.contains nm = false) (p : P) : evRc x C nm P := ⟨ns, ds, h, n, p⟩
theorem evMeth {C : Addr} {nm : Str} {n : Nat} {m : MF} {L : AF}
    (h : evE A Γ (fun c Γ0 => evRc (look Γ0 c) C nm (evA L Γ0 (fun cs Γ1 => (c :: cs).length + 0 = n ∧ evSome (argsC Γ1 (c :: cs)) fun p => evM m p.1 (fun c T' => evSome (putBN Γ1 p.2 T') fun Γ' => isSolid c = true ∧ Q c Γ') (fun x T' => evSome (putBN Γ1 p.2 T') fun Γ' => X x Γ')) X)) X) : evE (eMethN C nm n m [] A L) Γ Q X := by
  refine evE_bind (evE_mono h (fun c Γ0 ⟨ns, ds, hd, hn, q⟩ => ?_) fun _ _ z => z)
  have z : evE (DL.bindL L fun cs Γ => if (c :: cs).length + ([] : List D).length = n then (match argsC Γ (c :: cs) with
      | some (T, b) => (match m (T ++ ([] : List D).map .sh) with
        | some (r, T') => (match putB Γ b T' with
          | some Γ' => (match r with
            | .val c => if isSolid c then some (Res.val c, Γ') else none
            | .exc x => some (.exc x, Γ'))
          | none => none)
        | none => none)
      | none => none) else none) Γ0 Q X := by
    refine evL_bind (evA_mono q fun cs Γ1 ⟨hl, p, hp, r, T', hm, q⟩ => ?_)
    cases r with
    | val c1 =>
      obtain ⟨Γ', e, sc, q⟩ := q
      refine ⟨.val c1, Γ', ?_, q⟩
      (try dsimp only)
      rw [if_pos (show (c :: cs).length + ([] : List D).length = n from hl), hp]
      dsimp only
      rw [List.map_nil, List.append_nil, hm]
      dsimp only
      rw [putBN_putB e]
      dsimp only
      rw [if_pos sc]
    | exc x =>
      obtain ⟨Γ', e, q⟩ := q
      refine ⟨.exc x, Γ', ?_, q⟩
      (try dsimp only)
      rw [if_pos (show (c :: cs).length + ([] : List D).length = n from hl), hp]
      dsimp only
      rw [List.map_nil, List.append_nil, hm]
      dsimp only
      rw [putBN_putB e]
  obtain ⟨r, Γ2, e2, q2⟩ := z
  exact ⟨r, Γ2, by (try dsimp only); rw [hd]; dsimp only; rw [if_pos ⟨rfl, hn⟩]; exact e2, q2⟩
theorem vFld {C : Addr} {nm : Str} {ns : List Str} {ds : List D} (d : D) (h : fldD nm ns ds = some d) (q : Q (.sh d) Γ) : evG (gFld C nm (.node (.ins C ns) ds)) Γ Q := ⟨.old d, by unfold gFld; dsimp only; rw [if_pos rfl, h], rfl, q⟩
def evIns (Γ : Gam) (i : Nat) (C : Addr) (Q : List Str → List D → Prop) : Prop := ∃ ns ds, slotO Γ i = some (.ins C ns, ds) ∧ ns.length < 1000 ∧ Q ns ds
theorem evIns_mk {Γ : Gam} {i : Nat} {C : Addr} {Q : List Str → List D → Prop} (ns : List Str) (ds : List D) (h : slotO Γ i = some (.ins C ns, ds)) (hl : ns.length < 1000) (q : Q ns ds) : evIns Γ i C Q := ⟨ns, ds, h, hl, q⟩
theorem evSFld {i : Nat} {C : Addr} {nm : Str} (h : evE A Γ (fun c Γ1 => evKp Γ1 c fun d Γ2 => evIns Γ2 i C fun ns ds => evSome (slotN Γ2 i (.ins C (putD nm d ns ds).1) (putD nm d ns ds).2) N) X) : evS (sFld i C nm A) Γ N R Bk Ct X := by
  refine evS_bind (evKeepN (evE_mono h (fun c Γ1 ⟨d, Γ2, e, ns, ds, e1, hl, Γ3, e2, q⟩ => ⟨d, Γ2, e, ?_⟩) fun _ _ z => z))
  refine ⟨.nx Γ3, ?_, q⟩
  (try dsimp only)
  rw [e1]
  dsimp only
  rw [if_pos ⟨rfl, hl⟩, slotN_slotP e2]
end
end DL

set_option Elab.async false
set_option linter.all false
set_option maxRecDepth 100000
set_option maxHeartbeats 1000000
/-! questions, told by their heads -/
namespace DL
open PySem PySem.Spec PyProof.Rows L2
section
variable {Γ : Gam} {X : Exc → Gam → Prop} {N : Gam → Prop}
theorem evI_id {F : IF} {Q : List D → Gam → Prop} (h : evI F Γ Q X) : evI F Γ Q X := h
theorem evO_id {F : OF} {Q : Option Int → Gam → Prop} (h : evO F Γ Q X) : evO F Γ Q X := h
theorem evP_id {P : D → Gam → Option Gam} {d : D} {Q : Gam → Prop} (h : evP P d Γ Q) : evP P d Γ Q := h
theorem evPs_id {P : List D → Gam → Option Gam} {ds : List D} {Q : Gam → Prop} (h : evPs P ds Γ Q) : evPs P ds Γ Q := h
theorem evM_id {m : MF} {T : List Cell} {Q : Cell → List Cell → Prop} {X : Exc → List Cell → Prop} (h : evM m T Q X) : evM m T Q X := h
theorem ev1_id {g : D → Option Out} {x : Option D} {Q : Cell → Gam → Prop} (h : ev1 g x Γ Q) : ev1 g x Γ Q := h
theorem ev2_id {g : D → D → Option Out} {x y : Option D} {Q : Cell → Gam → Prop} (h : ev2 g x y Γ Q) : ev2 g x y Γ Q := h
theorem evL_id {g : List D → Option Out} {x : Option (List D)} {Q : Cell → Gam → Prop} (h : evL g x Γ Q) : evL g x Γ Q := h
theorem evSome_id {α : Type} {x : Option α} {Q : α → Prop} (h : evSome x Q) : evSome x Q := h
theorem evR1_id {ds : List D} {Q : List D → Prop} (h : evSome (gRange1 ds) Q) : evSome (gRange1 ds) Q := h
theorem evR2_id {ds : List D} {Q : List D → Prop} (h : evSome (gRange2 ds) Q) : evSome (gRange2 ds) Q := h
theorem evPut_id {i : Nat} {c : Cell} {Q : Gam → Prop} (h : evSome (putN i c Γ) Q) : evSome (putN i c Γ) Q := h
theorem evBl_id {x : Option D} {Q : Bool → Prop} (h : evBl x Q) : evBl x Q := h
theorem evInt_id {x : Option D} {Q : Int → Prop} (h : evInt x Q) : evInt x Q := h
theorem ev2B_id {g : D → D → Option Out} {x y : Option D} {Q : Bool → Prop} (h : ev2B g x y Q) : ev2B g x y Q := h
theorem evKp_id {c : Cell} {Q : D → Gam → Prop} (h : evKp Γ c Q) : evKp Γ c Q := h
theorem evSd_id {c : Cell} {Q : Cell → Gam → Prop} (h : evSd Γ c Q) : evSd Γ c Q := h
theorem evSt_id {i : Nat} {Q : Tag → List D → Prop} (h : evSt Γ i Q) : evSt Γ i Q := h
theorem evIns_id {i : Nat} {C : Addr} {Q : List Str → List D → Prop} (h : evIns Γ i C Q) : evIns Γ i C Q := h
theorem evRc_id {x : Option D} {C : Addr} {nm : Str} {P : Prop} (h : evRc x C nm P) : evRc x C nm P := h
theorem evNoB_id {x : Option (List Cell × Option (Nat × Nat))} {Q : List Cell → Prop} (h : evNoB x Q) : evNoB x Q := h
theorem evOw_id {c : Cell} {T' : List Cell} {Q : Tag → List D → Prop} (h : evOw c T' Q) : evOw c T' Q := h
theorem evPr_id {cs : List Cell} {Q : Cell → Cell → Prop} (h : evPr cs Q) : evPr cs Q := h
theorem evPr3_id {cs : List Cell} {Q : Cell → Cell → Cell → Prop} (h : evPr3 cs Q) : evPr3 cs Q := h
theorem evMut_id {i : Nat} {tn : String} {g : Tag → List D → List D → Option (D × Tag × List D)} {L : AF} {Q : Cell → Gam → Prop} (h : evE (eMut i tn g L) Γ Q X) : evE (eMut i tn g L) Γ Q X := h
theorem fk_id {b : Bool} {P R : Prop} (h : (b = true → P) ∧ (b = false → R)) : (b = true → P) ∧ (b = false → R) := h
theorem fkD_id {c P R : Prop} {_ : Decidable c} (h : (decide c = true → P) ∧ (decide c = false → R)) : (decide c = true → P) ∧ (decide c = false → R) := h
theorem and_id {P R : Prop} (h : P ∧ R) : P ∧ R := h
theorem evG_1 (g : D → Option Out) {d : D} {Q : Cell → Gam → Prop} (h : evG (g d) Γ Q) : evG (g d) Γ Q := h
theorem evG_2 (g : D → D → Option Out) {d e : D} {Q : Cell → Gam → Prop} (h : evG (g d e) Γ Q) : evG (g d e) Γ Q := h
theorem evG_L (g : List D → Option Out) {ds : List D} {Q : Cell → Gam → Prop} (h : evG (g ds) Γ Q) : evG (g ds) Γ Q := h
end
end DL

set_option Elab.async false
set_option linter.all false
set_option maxRecDepth 100000
set_option maxHeartbeats 1000000
/-! in, not in; methods that change nothing -/
namespace DL
open PySem PySem.Spec PyProof.Rows L2

/-! ### in -/
def rInTD (K : PySem.W.Frag) (neg : Bool) : R2 := fun x y H Q => ∃ d ds, Dp K H x d ∧ Dp K H y (.tuple ds) ∧ SeqAt.shaped d = true ∧ SeqAt.shaped (.tuple ds) = true ∧ Q (.bl (neg != (ds.any fun z => PyData.eqv z d))) H
theorem shapedT_lay {ds : List PyData} (h : SeqAt.shaped (.tuple ds) = true) : PyData.canLayAll0 ds = true := by
  unfold SeqAt.shaped PyData.canLay0 at h
  rw [Bool.and_eq_true] at h
  exact h.1
section
variable {X : Cx}
theorem op_inTD (hu : X.A.units + 65 < cLine) : OpR X (compareOp .In) (rInTD X.K false) := by
  intro pins s σ H x y v u Q I rx ry h
  obtain ⟨d, ds, hd, he, sd, se, q⟩ := h
  obtain ⟨as, r1⟩ := Dp.reads I d x v hd rx
  obtain ⟨bs, r2⟩ := Dp.reads I (.tuple ds) y u he ry
  exact SeqAt.in_tuple_reads r2 r1 (shapedT_lay se) (SeqAt.canLay_of_shaped sd) (room_in_shaped sd hu) ⟨.bl _, H, I, rfl, by simpa using q⟩
def inS (x z : Str) : Bool := !(Builtin.Str.occurrences z x 0 z.length 1).isEmpty
def inP (d e : D) : Option Bool := match toP d, toP e with
  | some p, some (.list ps) => if SeqAt.shaped p && SeqAt.shaped (.list ps) then some (ps.any fun z => PyData.eqv z p) else none
  | some p, some (.tuple ps) => if SeqAt.shaped p && SeqAt.shaped (.tuple ps) then some (ps.any fun z => PyData.eqv z p) else none
  | some (.str x), some (.str z) => some (inS x z)
  | _, _ => none
def gIn (d e : D) : Option Out := match inP d e with
  | some b => some (.old (.leaf (.bl b)))
  | none => none
def rInS (neg : Bool) : R2 := fun x y H Q => ∃ i j, x = .str i ∧ y = .str j ∧ Q (.bl (neg != !(Builtin.Str.occurrences j i 0 j.length 1).isEmpty)) H
theorem opIn {k : Nat} (hr : RoomG k X.A) : OpR X (compareOp .In) (fun x y H Q => rInD X.K x y H Q ∨ rInTD X.K false x y H Q ∨ rInS false x y H Q) := by
  have hu : X.A.units + 65 < cLine := by have := hr.room.un; omega
  intro pins s σ H x y v u Q I rx ry h
  rcases h with h | h | ⟨i, j, h1, h2, h3⟩
  · exact op_inD hu pins s σ H x y v u Q I rx ry h
  · exact op_inTD hu pins s σ H x y v u Q I rx ry h
  · exact op_in_str pins s σ H x y v u Q I rx ry ⟨i, j, h1, h2, by simpa using h3⟩
end
theorem inP_of {K : PySem.W.Frag} {M H : Hp} {x y : V} {d e : D} {b : Bool} (s : Sub M H) (rx : RepH K M H x d) (ry : RepH K M H y e) (h : inP d e = some b) :
    (∃ p ps, Dp K H x p ∧ Dp K H y (.list ps) ∧ SeqAt.shaped p = true ∧ SeqAt.shaped (.list ps) = true ∧ b = ps.any fun z => PyData.eqv z p) ∨
    (∃ p ps, Dp K H x p ∧ Dp K H y (.tuple ps) ∧ SeqAt.shaped p = true ∧ SeqAt.shaped (.tuple ps) = true ∧ b = ps.any fun z => PyData.eqv z p) ∨
    ∃ i j, x = .str i ∧ y = .str j ∧ b = inS i j := by
  unfold inP at h
  split at h
  · rename_i p ps h1 h2
    split at h
    · rename_i hs
      rw [Bool.and_eq_true] at hs
      cases h
      exact .inl ⟨p, ps, dp_of d x p (rx.full s) h1, dp_of e y _ (ry.full s) h2, hs.1, hs.2, rfl⟩
    · cases h
  · rename_i p ps h1 h2
    split at h
    · rename_i hs
      rw [Bool.and_eq_true] at hs
      cases h
      exact .inr (.inl ⟨p, ps, dp_of d x p (rx.full s) h1, dp_of e y _ (ry.full s) h2, hs.1, hs.2, rfl⟩)
    · cases h
  · rename_i i j h1 h2
    cases h
    have a1 := dp_of d x _ (rx.full s) h1
    have a2 := dp_of e y _ (ry.full s) h2
    cases a1
    cases a2
    exact .inr (.inr ⟨_, _, rfl, rfl, rfl⟩)
  · cases h
theorem s2In {K : PySem.W.Frag} : S2 K (fun x y H Q => rInD K x y H Q ∨ rInTD K false x y H Q ∨ rInS false x y H Q) gIn := by
  intro M H x y d e o Q s rx ry hg q
  unfold gIn at hg
  split at hg
  · rename_i b hb
    cases hg
    have q' := q (.bl b) (by unfold Rep; rfl)
    rcases inP_of s rx ry hb with ⟨p, ps, h1, h2, h3, h4, rfl⟩ | ⟨p, ps, h1, h2, h3, h4, rfl⟩ | ⟨i, j, rfl, rfl, rfl⟩
    · exact .inl ⟨p, ps, h1, h2, h3, h4, q'⟩
    · exact .inr (.inl ⟨p, ps, h1, h2, h3, h4, by simpa using q'⟩)
    · exact .inr (.inr ⟨i, j, rfl, rfl, by simpa [inS] using q'⟩)
  · cases hg
/-! ### methods that change nothing -/
def tyD : D → String
  | .leaf (.str _) => "str"
  | .node .lst _ => "list"
  | .node .scr _ => "list"
  | _ => "-"
def eMet (tn : String) (g : D → List D → Option Out) (A : EF) (L : AF) : EF := bindE A fun c Γ => match look Γ c with
  | some d0 => if tyD d0 = tn ∧ tn ≠ "-" then bindL L (fun cs Γ1 => match look Γ1 c, shs cs with
    | some d, some es => eOut (g d es) Γ1
    | _, _ => none) Γ else none
  | none => none
def SP (K : PySem.W.Frag) (r : V → List V → Hp → VK → Prop) (g : D → List D → Option Out) : Prop := ∀ M H x vs d es o Q, Sub M H → RepH K M H x d → Reps K M vs es → g d es = some o → OutOk K M H o Q → r x vs H Q
theorem tyV_of {K : PySem.W.Frag} {M H : Hp} {x : V} {d : D} {tn : String} (r : RepH K M H x d) (h : tyD d = tn) (n : tn ≠ "-") : tyV K tn x H := by
  unfold tyD at h
  split at h
  · cases (show x = _ from r); exact h.symm
  · obtain ⟨a, xs, rfl, ho, _⟩ := r
    exact .inl ⟨h.symm, xs, .of ho⟩
  · obtain ⟨a, xs, rfl, ho, _⟩ := r
    exact .inl ⟨h.symm, xs, ho⟩
  · exact (n h.symm).elim
section
variable {X : Cx} {W : WX} {o e : Expr} {es : List Expr} {A : EF} {L : AF} {name : Str} {apos cpos : Pos} {tn id : String} {r : V → List V → Hp → VK → Prop} {g : D → List D → Option Out}
theorem met_core (hs : SP X.K r g) {σ : L2.St} {H : Hp} {Q : VK} (h : tE X.K W (eMet tn g A L) σ H Q) : tBM X.K tn r (tE X.K W A) (tL X.K W L) σ H Q := by
  obtain ⟨f0, M, τ, T, Γ, ra, Γ', G, hF, post⟩ := h
  refine run1 G hF post fun c Γ1 v H1 M1 G1 e => ?_
  split at e
  · rename_i d0 hd0
    split at e
    · rename_i ht
      refine ⟨tyV_of (G1.look (k := .inl 0) rfl hd0) ht.1 ht.2, ?_⟩
      unfold bindL at e
      cases hL : L Γ1 with
      | none => rw [hL] at e; cases e
      | some z =>
        obtain ⟨rl, Γ2⟩ := z
        rw [hL] at e
        cases rl with
        | exc x =>
          cases e
          exact ⟨f0, M1, _, _, Γ1, .exc x, Γ', G1, hL, PostX.pop post⟩
        | val cs =>
          refine ⟨f0, M1, _, _, Γ1, .val cs, Γ2, G1, hL, fun vs H2 M2 hl G2 => ?_⟩
          dsimp only at e
          split at e
          · rename_i d es hd hes
            obtain ⟨rs, G3⟩ := G2.shs hl hes
            obtain ⟨o', ho, hk, rfl, rfl⟩ := eOut_some e
            exact hs M2 H2 v vs d es o' Q G3.sub (G3.look (k := .inl 0) rfl hd) rs ho (G3.pop.out (okNew_of hk) post)
          · cases e
    · cases e
  · cases e
theorem de_met (pa : PlainAttrs tn) (slot : Slot tn name id) (hty : typeOf (.builtin id) = pure (.type "method_descriptor")) (hm : MtR X id r) (hs : SP X.K r g) (ho : DE X W o A) (ha : DA X W (e :: es) L)
    (hbase : attributeBase o name X.env (eval o X.env) = eval o X.env := by rfl)
    (hfew : ((backTo cpos (starEach (e :: es) X.env)).all (fun x => !x.1) && (backToKw cpos (keywordEach [] X.env)).all (fun x => x.1.isSome)
      && decide ((e :: es).length + ([] : List Keyword).length + (if ([] : List Keyword).isEmpty then 0 else 1) < 30)) = true := by rfl)
    (hline : (apos.endLine == cpos.line) = true := by rfl) (hst : starEach (e :: es) X.env = (false, eval e X.env) :: starEach es X.env := by rfl) (hplain : (backTo cpos (starEach es X.env)).any (·.1) = false := by rfl) :
    DE X W (.Call (.Attribute o name apos) (e :: es) [] cpos) (eMet tn g A L) :=
  PEimp (pe_bm pa slot hty hm ho ha hbase hfew hline hst hplain) fun _ _ _ h => met_core hs h
theorem mt_indexG {X : Cx} {k : Nat} (hr : RoomG k X.A) : MtR X "list.index" (rIndexD X.K) := mt_indexD (by have := hr.room.un; omega)
end
/-- l.index(x) -/
def ixP (p : PyData) : List PyData → Option Nat
  | [] => none
  | z :: ps => if PyData.eqv z p then some 0 else match ixP p ps with
    | some j => some (j + 1)
    | none => none
theorem ixP_of {p : PyData} : ∀ {ps : List PyData} {j : Nat}, ixP p ps = some j → ∃ z, ps[j]? = some z ∧ PyData.eqv z p = true ∧ ∀ (m : Nat) (z' : PyData), m < j → ps[m]? = some z' → PyData.eqv z' p = false
  | [], j, h => by cases h
  | z :: ps, j, h => by
    unfold ixP at h
    split at h
    · rename_i e
      cases h
      exact ⟨z, rfl, e, fun m z' hm => absurd hm (Nat.not_lt_zero _)⟩
    · rename_i e
      split at h
      · rename_i i hi
        cases h
        obtain ⟨y, h1, h2, h3⟩ := ixP_of hi
        refine ⟨y, by simpa using h1, h2, fun m z' hm hz => ?_⟩
        cases m with
        | zero => simp at hz; subst hz; simpa using e
        | succ m => exact h3 m z' (by omega) (by simpa using hz)
      · cases h
def gIndex : D → List D → Option Out
  | d, [e] => (match toP d, toP e with
    | some (.list ps), some p => if SeqAt.shaped p && SeqAt.shaped (.list ps) then (match ixP p ps with
      | some j => some (.old (.leaf (.int (j : Int))))
      | none => none) else none
    | _, _ => none)
  | _, _ => none
theorem spIndex {K : PySem.W.Frag} : SP K (rIndexD K) gIndex := by
  intro M H x vs d es o Q s rx rv hg q
  unfold gIndex at hg
  split at hg
  · rename_i d' e
    split at hg
    · rename_i ps p h1 h2
      split at hg
      · rename_i hs
        rw [Bool.and_eq_true] at hs
        split at hg
        · rename_i j hj
          cases hg
          obtain ⟨y, ys, rfl, r1, r2⟩ := rv.cons_of
          rw [r2.nil_of]
          obtain ⟨z, a1, a2, a3⟩ := ixP_of hj
          have hl := dp_of d x _ (rx.full s) h1
          obtain ⟨a, ha⟩ : ∃ a, x = .ref a := by
            cases hl with
            | lst _ _ => exact ⟨_, rfl⟩
          subst ha
          exact ⟨a, y, p, ps, j, z, rfl, rfl, hl, dp_of e y p (Rep.mono s _ _ r1) h2, hs.2, hs.1, a1, a2, a3, q _ (by unfold Rep; rfl)⟩
        · cases hg
      · cases hg
    · cases hg
  · cases hg

/-! ### run -/
section
variable {Γ : Gam} {X : Exc → Gam → Prop} {Q : Cell → Gam → Prop} {A : EF}
theorem vIn {d e : D} {b : Bool} (h : inP d e = some b) (q : Q (.sh (.leaf (.bl b))) Γ) : evG (gIn d e) Γ Q := ⟨.old (.leaf (.bl b)), by unfold gIn; rw [h], rfl, q⟩
def evTy (x : Option D) (tn : String) (P : Prop) : Prop := ∃ d, x = some d ∧ (tyD d = tn ∧ tn ≠ "-") ∧ P
theorem evTy_mk {x : Option D} {tn : String} {P : Prop} (d : D) (h : x = some d) (t : tyD d = tn ∧ tn ≠ "-") (p : P) : evTy x tn P := ⟨d, h, t, p⟩
theorem evTy_id {x : Option D} {tn : String} {P : Prop} (h : evTy x tn P) : evTy x tn P := h
def evDL (x : Option D) (y : Option (List D)) (Q : D → List D → Prop) : Prop := ∃ d es, x = some d ∧ y = some es ∧ Q d es
theorem evDL_mk {x : Option D} {y : Option (List D)} {Q : D → List D → Prop} (d : D) (es : List D) (h : x = some d) (h' : y = some es) (q : Q d es) : evDL x y Q := ⟨d, es, h, h', q⟩
theorem evDL_id {x : Option D} {y : Option (List D)} {Q : D → List D → Prop} (h : evDL x y Q) : evDL x y Q := h
theorem evMet {tn : String} {g : D → List D → Option Out} {L : AF}
    (h : evE A Γ (fun c Γ0 => evTy (look Γ0 c) tn (evA L Γ0 (fun cs Γ1 => evDL (look Γ1 c) (shs cs) fun d es => evG (g d es) Γ1 Q) X)) X) : evE (eMet tn g A L) Γ Q X := by
  refine evE_bind (evE_mono h (fun c Γ0 ⟨d0, e0, t0, q⟩ => ?_) fun _ _ z => z)
  have z : evE (DL.bindL L fun cs Γ1 => match look Γ1 c, shs cs with
    | some d, some es => eOut (g d es) Γ1
    | _, _ => none) Γ0 Q X := by
    refine evL_bind (evA_mono q fun cs Γ1 ⟨d, es, e1, e2, q⟩ => ?_)
    obtain ⟨r, Γ2, e3, q3⟩ := evOut (X := X) q
    exact ⟨r, Γ2, by (try dsimp only); rw [e1, e2]; exact e3, q3⟩
  obtain ⟨r, Γ2, e2, q2⟩ := z
  exact ⟨r, Γ2, by (try dsimp only); rw [e0]; dsimp only; rw [if_pos t0]; exact e2, q2⟩
end
/-- the end, for laws whose mirror asks for the addresses of classes -/
theorem fin_of2 {P : Program} {w : World} {K : PySem.W.Frag} {mg : Str → Option Value} {k : Nat} {fa : Addr} {x : Str} {S : MF → Prop} (h : ∀ m0, S m0 → ∀ ns : List Int, ns.length ≤ 63 → SaysTrue m0 ns)
    (q : ∃ (fd : FuncData) (m : MF), (∀ (s : Shared) (v : Value), BindsTo s fd ⟨[v], []⟩ [(x, v)]) ∧ (∀ base : Heap, K.In base → base.Ns mainGlobals mg → TBs K mg base → FnG P w K mg base k fa fd [x] m) ∧ S m) :
    ∃ (fd : FuncData) (m : MF), (∀ (s : Shared) (u : Value), BindsTo s fd ⟨[u], []⟩ [(x, u)]) ∧ (∀ base : Heap, K.In base → base.Ns mainGlobals mg → TBs K mg base → FnG P w K mg base k fa fd [x] m) ∧ ∀ ns : List Int, ns.length ≤ 63 → SaysTrue m ns := by
  obtain ⟨fd, m, q1, q2, hs⟩ := q
  exact ⟨fd, _, q1, q2, h m hs⟩
end DL

set_option Elab.async false
set_option linter.all false
set_option maxRecDepth 100000
set_option maxHeartbeats 1000000
/-! fields stored: the fields stay written lists -/
namespace DL
open PySem PySem.Spec PyProof.Rows L2
def putO (nm : Str) (d : D) : List Str → List D → Option (List Str × List D)
  | [], [] => some ([nm], [d])
  | n :: ns, e :: ds => match decide (n = nm) with
    | true => some (n :: ns, d :: ds)
    | false => match putO nm d ns ds with
      | some (a, b) => some (n :: a, e :: b)
      | none => none
  | _, _ => none
theorem putO_of {nm : Str} {d : D} : ∀ {ns : List Str} {ds : List D} {a : List Str} {b : List D}, putO nm d ns ds = some (a, b) → putD nm d ns ds = (a, b)
  | [], [], a, b, h => by unfold putO at h; cases h; rfl
  | [], _ :: _, a, b, h => by unfold putO at h; cases h
  | _ :: _, [], a, b, h => by unfold putO at h; cases h
  | n :: ns, e :: ds, a, b, h => by
    unfold putO at h
    unfold putD
    by_cases hn : n = nm
    · rw [decide_eq_true hn] at h
      cases h
      rw [if_pos hn]
    · rw [decide_eq_false hn] at h
      dsimp only at h
      rw [if_neg hn]
      split at h
      · rename_i a1 b1 e1
        cases h
        rw [putO_of e1]
      · cases h
section
variable {Γ : Gam} {X : Exc → Gam → Prop} {A : EF} {N : Gam → Prop} {R : Cell → Gam → Prop} {Bk Ct : Gam → Prop}
def evP2 (x : Option (List Str × List D)) (Q : List Str → List D → Prop) : Prop := ∃ a b, x = some (a, b) ∧ Q a b
theorem evP2_mk {x : Option (List Str × List D)} {Q : List Str → List D → Prop} (a : List Str) (b : List D) (h : x = some (a, b)) (q : Q a b) : evP2 x Q := ⟨a, b, h, q⟩
theorem evP2_id {x : Option (List Str × List D)} {Q : List Str → List D → Prop} (h : evP2 x Q) : evP2 x Q := h
theorem evSFldO {i : Nat} {C : Addr} {nm : Str} (h : evE A Γ (fun c Γ1 => evKp Γ1 c fun d Γ2 => evIns Γ2 i C fun ns ds => evP2 (putO nm d ns ds) fun a b => evSome (slotN Γ2 i (.ins C a) b) N) X) : evS (sFld i C nm A) Γ N R Bk Ct X :=
  evSFld (evE_mono h (fun c Γ1 ⟨d, Γ2, e, ns, ds, e1, hl, a, b, hp, Γ3, e2, q⟩ => ⟨d, Γ2, e, ns, ds, e1, hl, Γ3, by rw [putO_of hp]; exact e2, q⟩) fun _ _ z => z)
end
end DL

set_option Elab.async false
set_option linter.all false
set_option maxRecDepth 100000
set_option maxHeartbeats 1000000
/-! dicts by data: a key in a dict, dict(pairs), int of an int or a bool -/
namespace DL
open PySem PySem.Spec PyProof.Rows L2
section
variable {X : Cx}
end
def keyD : D → Option Key
  | .leaf (.int i) => some (.inl i)
  | .leaf (.str x) => some (.inr x)
  | _ => none
def inK (d e : D) : Option Bool := match keyD d, e with
  | some k, .node (.dk ks) ds => some (getK k ks ds).isSome
  | _, _ => none
/-- dict of a list of pairs -/
def putKD (kvs : List (Key × D)) (k : Key) (v : D) : List (Key × D) :=
  if (kvs.any fun kv => decide (kv.1 = k)) = true then kvs.map (fun kv => if kv.1 = k then (kv.1, v) else kv) else kvs ++ [(k, v)]
def KD (K : PySem.W.Frag) (M : Hp) : List (Key × V) → List (Key × D) → Prop
  | [], [] => True
  | p :: ps, q :: qs => p.1 = q.1 ∧ Rep K M p.2 q.2 ∧ KD K M ps qs
  | _, _ => False
section
variable {K : PySem.W.Frag} {M H : Hp}
theorem KD.snoc {k : Key} {v : V} {d : D} (h : Rep K M v d) : ∀ {ps : List (Key × V)} {qs : List (Key × D)}, KD K M ps qs → KD K M (ps ++ [(k, v)]) (qs ++ [(k, d)])
  | [], [], _ => ⟨rfl, h, trivial⟩
  | _ :: _, _ :: _, ⟨a, b, c⟩ => ⟨a, b, c.snoc h⟩
  | [], _ :: _, z => z.elim
  | _ :: _, [], z => z.elim
theorem KD.any {k : Key} : ∀ {ps : List (Key × V)} {qs : List (Key × D)}, KD K M ps qs → (ps.any fun kv => decide (kv.1 = k)) = (qs.any fun kv => decide (kv.1 = k))
  | [], [], _ => rfl
  | _ :: _, _ :: _, ⟨a, b, c⟩ => by rw [List.any_cons, List.any_cons, a, c.any]
  | [], _ :: _, z => z.elim
  | _ :: _, [], z => z.elim
theorem KD.map {k : Key} {v : V} {d : D} (h : Rep K M v d) : ∀ {ps : List (Key × V)} {qs : List (Key × D)}, KD K M ps qs → KD K M (ps.map fun kv => if kv.1 = k then (kv.1, v) else kv) (qs.map fun kv => if kv.1 = k then (kv.1, d) else kv)
  | [], [], _ => trivial
  | p :: _, q :: _, ⟨a, b, c⟩ => by
    rw [List.map_cons, List.map_cons]
    refine ⟨?_, ?_, c.map h⟩
    · by_cases e : q.1 = k
      · rw [if_pos e, if_pos (a.trans e)]; exact a
      · rw [if_neg e, if_neg (by rw [a]; exact e)]; exact a
    · by_cases e : q.1 = k
      · rw [if_pos e, if_pos (a.trans e)]; exact h
      · rw [if_neg e, if_neg (by rw [a]; exact e)]; exact b
  | [], _ :: _, z => z.elim
  | _ :: _, [], z => z.elim
theorem KD.put {k : Key} {v : V} {d : D} (h : Rep K M v d) {ps : List (Key × V)} {qs : List (Key × D)} (r : KD K M ps qs) : KD K M (putK ps k v) (putKD qs k d) := by
  unfold putK putKD
  rw [r.any]
  split
  · exact r.map h
  · exact r.snoc h
theorem KD.keys : ∀ {ps : List (Key × V)} {qs : List (Key × D)}, KD K M ps qs → ps.map (·.1) = qs.map (·.1)
  | [], [], _ => rfl
  | _ :: _, _ :: _, ⟨a, b, c⟩ => by rw [List.map_cons, List.map_cons, a, c.keys]
  | [], _ :: _, z => z.elim
  | _ :: _, [], z => z.elim
theorem KD.reps : ∀ {ps : List (Key × V)} {qs : List (Key × D)}, KD K M ps qs → Reps K M (ps.map (·.2)) (qs.map (·.2))
  | [], [], _ => Reps.nil
  | _ :: _, _ :: _, ⟨a, b, c⟩ => Reps.cons b c.reps
  | [], _ :: _, z => z.elim
  | _ :: _, [], z => z.elim
end
/-! ### run -/
section
variable {Γ : Gam} {X : Exc → Gam → Prop} {Q : Cell → Gam → Prop} {A : EF}
end
end DL

set_option Elab.async false
set_option linter.all false
set_option maxRecDepth 100000
set_option maxHeartbeats 1000000
/-! calls with keywords that fill the last parameters in order; keyword-only parameters left out; zip of two lists -/
namespace DL
open PySem PySem.Spec PyProof.Rows L2
def aApp (L1 L2 : AF) : AF := fun Γ => match L1 Γ with
  | some (.val cs, Γ1) => (match L2 Γ1 with
    | some (.val ds, Γ2) => some (.val (cs ++ ds), Γ2)
    | some (.exc x, Γ2) => some (.exc x, Γ2)
    | none => none)
  | some (.exc x, Γ1) => some (.exc x, Γ1)
  | none => none
section
variable {K : PySem.W.Frag} {W : WX} {f : Frm} {M H : Hp} {τ : List V} {T : List Cell} {σ : L2.St} {Γ Γ' : Gam} {Q : VK}
end
section
variable {X : Cx} {W : WX} {k : Nat} {f C : Addr} {fd : FuncData} {ps : List Str} {m : MF} {dvs : List V} {ds : List Value} {dfl : List D} {x nm : Str} {p pos apos kpos : Pos} {e o : Expr} {es : List Expr} {L L' : AF} {A : EF} {kws : List Keyword} {kn : Option Str}
def aLen (n : Nat) (L : AF) : AF := fun Γ => match L Γ with
  | some (.val cs, Γ1) => if cs.length = n then some (.val cs, Γ1) else none
  | o => o
end
/-- zip of two lists -/
def zipD : List D → List D → List D
  | d :: ds, e :: es => .node .tup [d, e] :: zipD ds es
  | _, _ => []
theorem zipD_get : ∀ {ds es : List D} {i : Nat} {d : D}, (zipD ds es)[i]? = some d → ∃ a b, ds[i]? = some a ∧ es[i]? = some b ∧ d = .node .tup [a, b]
  | [], _, _, _, h => by unfold zipD at h; simp at h
  | _ :: _, [], _, _, h => by unfold zipD at h; simp at h
  | a :: ds, b :: es, 0, d, h => by
    unfold zipD at h
    cases h
    exact ⟨a, b, rfl, rfl, rfl⟩
  | a :: ds, b :: es, i + 1, d, h => by
    unfold zipD at h
    obtain ⟨a', b', h1, h2, h3⟩ := zipD_get (ds := ds) (es := es) (i := i) (by simpa using h)
    exact ⟨a', b', by simpa using h1, by simpa using h2, h3⟩
theorem zipD_len : ∀ (ds es : List D), ds.length ≤ (zipD ds es).length ∨ es.length ≤ (zipD ds es).length
  | [], _ => .inl (by simp)
  | _ :: _, [] => .inr (by simp)
  | a :: ds, b :: es => by
    unfold zipD
    rw [List.length_cons, List.length_cons, List.length_cons]
    rcases zipD_len ds es with h | h
    · exact .inl (by omega)
    · exact .inr (by omega)
theorem Yl.zip {K : PySem.W.Frag} {M : Hp} {a b : Addr} {xs ys : List V} {ds es : List D} (h : SqL K M a xs) (r : Reps K M xs ds) (h' : SqL K M b ys) (r' : Reps K M ys es) : Yl K (Itz K a b) M (zipD ds es) := fun i H s => ⟨fun d e => by
    obtain ⟨d1, d2, e1, e2, rfl⟩ := zipD_get e
    obtain ⟨x, ex, rx⟩ := r.get e1
    obtain ⟨y, ey, ry⟩ := r'.get e2
    refine ⟨⟨xs, ys, x, y, s.sql h, s.sql h', ex, ey⟩, ?_⟩
    rintro v H' ⟨T, x', y', rfl, hT, rfl, hx, hy⟩
    have ex' := hx xs (s.sql h)
    have ey' := hy ys (s.sql h')
    rw [ex] at ex'
    rw [ey] at ey'
    cases ex'
    cases ey'
    exact .inr ⟨T, [x, y], [d1, d2], hT, rfl, rfl, .cons rx (.cons ry .nil), rfl⟩, fun e => ⟨xs, ys, s.sql h, s.sql h', by
      have := zipD_len ds es
      rw [r.length, r'.length, e]
      exact this⟩⟩
section
variable {X : Cx} {W : WX} {p pos tpos : Pos} {elts : List Expr} {kk : Nat} {L : AF}
end
/-! ### run -/
section
variable {Γ : Gam} {X : Exc → Gam → Prop}
theorem evApp {A B : AF} {Q : List Cell → Gam → Prop} (h : evA A Γ (fun cs Γ1 => evA B Γ1 (fun ds Γ2 => Q (cs ++ ds) Γ2) X) X) : evA (aApp A B) Γ Q X := by
  obtain ⟨r, Γ1, e, q⟩ := h
  cases r with
  | val cs =>
    obtain ⟨r2, Γ2, e2, q2⟩ := q
    cases r2 with
    | val ds => exact ⟨.val (cs ++ ds), Γ2, by unfold aApp; rw [e]; dsimp only; rw [e2], q2⟩
    | exc x => exact ⟨.exc x, Γ2, by unfold aApp; rw [e]; dsimp only; rw [e2], q2⟩
  | exc x => exact ⟨.exc x, Γ1, by unfold aApp; rw [e], q⟩
theorem evLen {A : AF} {n : Nat} {Q : List Cell → Gam → Prop} (h : evA A Γ (fun cs Γ1 => cs.length = n ∧ Q cs Γ1) X) : evA (aLen n A) Γ Q X := by
  obtain ⟨r, Γ1, e, q⟩ := h
  cases r with
  | val cs => exact ⟨.val cs, Γ1, by unfold aLen; rw [e]; dsimp only; rw [if_pos q.1], q.2⟩
  | exc x => exact ⟨.exc x, Γ1, by unfold aLen; rw [e], q⟩
end
end DL

set_option Elab.async false
set_option linter.all false
set_option maxRecDepth 100000
set_option maxHeartbeats 1000000
/-! is True, is False and their negations -/
namespace DL
open PySem PySem.Spec PyProof.Rows L2
def gIsB : D → D → Option Out := fun d e => match d, e with
  | .leaf (.bl a), .leaf (.bl b) => some (.old (.leaf (.bl (decide (a = b)))))
  | _, _ => none
def gNotB : D → D → Option Out := fun d e => match d, e with
  | .leaf (.bl a), .leaf (.bl b) => some (.old (.leaf (.bl (!decide (a = b)))))
  | _, _ => none
section
variable {Γ : Gam} {Q : Cell → Gam → Prop}
theorem vIsB {a b : Bool} (q : Q (.sh (.leaf (.bl (decide (a = b))))) Γ) : evG (gIsB (.leaf (.bl a)) (.leaf (.bl b))) Γ Q := evG_old rfl q
theorem vNotB {a b : Bool} (q : Q (.sh (.leaf (.bl (!decide (a = b))))) Γ) : evG (gNotB (.leaf (.bl a)) (.leaf (.bl b))) Γ Q := evG_old rfl q
end
end DL

set_option Elab.async false
set_option linter.all false
set_option maxRecDepth 100000
set_option maxHeartbeats 1000000
/-! calls that lend several objects -/
namespace DL
open PySem PySem.Spec PyProof.Rows L2
/-- b: the slots whose objects are lent, and their places among the arguments -/
def argsM (Γ : Gam) : List Cell → Option (List Cell × List (Nat × Nat))
  | [] => some ([], [])
  | .sh d :: cs => match argsM Γ cs with
    | some (T, b) => some (.sh d :: T, b.map fun p => (p.1, p.2 + 1))
    | none => none
  | .br i :: cs => match argsM Γ cs with
    | some (T, b) => (match Γ[i]? with
      | some (some (.sh d)) => some (.sh d :: T, b.map fun p => (p.1, p.2 + 1))
      | some (some (.ow t ds)) => if i ∈ b.map (·.1) then none else some (.ow t ds :: T, (i, 0) :: b.map fun p => (p.1, p.2 + 1))
      | some (some (.rf t ds)) => if i ∈ b.map (·.1) then none else some (.ow t ds :: T, (i, 0) :: b.map fun p => (p.1, p.2 + 1))
      | _ => none)
    | none => none
  | _ :: _ => none
def putM (T' : List Cell) : List (Nat × Nat) → Gam → Option Gam
  | [], Γ => some Γ
  | (i, j) :: b, Γ => match T'[j]? with
    | some (.ow t ds) => (match Γ[i]? with
      | some (some (.ow _ _)) => putM T' b (Γ.set i (some (.ow t ds)))
      | some (some (.rf _ _)) => putM T' b (Γ.set i (some (.rf t ds)))
      | _ => none)
    | _ => none
section
variable {K : PySem.W.Frag} {f : Frm} {M H M' H' : Hp} {τ : List V} {T0 T : List Cell} {σ : L2.St} {Γ : Gam}
structure ArgsM (K : PySem.W.Frag) (M : Hp) (σ : L2.St) (Γ : Gam) (vs : List V) (T : List Cell) (b : List (Nat × Nat)) : Prop where
  len : T.length = vs.length
  kind : ∀ (j : Nat) (v : V) (c : Cell), vs[j]? = some v → T[j]? = some c → (∃ d, c = .sh d ∧ Rep K M v d) ∨ ∃ t ds i, c = .ow t ds ∧ (i, j) ∈ b ∧ σ[i]? = some (some v) ∧ (Γ[i]? = some (some (.ow t ds)) ∨ Γ[i]? = some (some (.rf t ds)))
  lent : ∀ i j, (i, j) ∈ b → ∃ v t ds, vs[j]? = some v ∧ T[j]? = some (Cell.ow t ds) ∧ σ[i]? = some (some v) ∧ (Γ[i]? = some (some (.ow t ds)) ∨ Γ[i]? = some (some (.rf t ds)))
  uniq : ∀ i j j', (i, j) ∈ b → (i, j') ∈ b → j = j'
theorem shift_mem {b : List (Nat × Nat)} {i j : Nat} : (i, j) ∈ (b.map fun p => (p.1, p.2 + 1)) ↔ ∃ j', j = j' + 1 ∧ (i, j') ∈ b := by
  rw [List.mem_map]
  constructor
  · rintro ⟨p, hp, e⟩
    cases e
    exact ⟨p.2, rfl, hp⟩
  · rintro ⟨j', rfl, h⟩
    exact ⟨(i, j'), h, rfl⟩
theorem ArgsM.sh {vs : List V} {b : List (Nat × Nat)} {v : V} {d : D} (r0 : Rep K M v d) (h : ArgsM K M σ Γ vs T b) : ArgsM K M σ Γ (v :: vs) (.sh d :: T) (b.map fun p => (p.1, p.2 + 1)) := by
  refine ⟨by rw [List.length_cons, List.length_cons, h.len], fun j u c q r => ?_, fun i j e => ?_, fun i j j' e e' => ?_⟩
  · cases j with
    | zero => cases q; cases r; exact .inl ⟨d, rfl, r0⟩
    | succ j =>
      rcases h.kind j u c q r with z | ⟨t, ds, i, e1, e2, e3⟩
      · exact .inl z
      · exact .inr ⟨t, ds, i, e1, shift_mem.mpr ⟨j, rfl, e2⟩, e3⟩
  · obtain ⟨j', rfl, e1⟩ := shift_mem.mp e
    obtain ⟨v, t, ds, h1, h2, h3⟩ := h.lent i j' e1
    exact ⟨v, t, ds, h1, h2, h3⟩
  · obtain ⟨a, rfl, e1⟩ := shift_mem.mp e
    obtain ⟨a', rfl, e2⟩ := shift_mem.mp e'
    rw [h.uniq i a a' e1 e2]
theorem ArgsM.ow {vs : List V} {b : List (Nat × Nat)} {v : V} {i : Nat} {t : Tag} {ds : List D} (hv : σ[i]? = some (some v)) (hg : Γ[i]? = some (some (.ow t ds)) ∨ Γ[i]? = some (some (.rf t ds))) (hn : i ∉ b.map (·.1)) (h : ArgsM K M σ Γ vs T b) :
    ArgsM K M σ Γ (v :: vs) (.ow t ds :: T) ((i, 0) :: b.map fun p => (p.1, p.2 + 1)) := by
  have hn' : ∀ j, (i, j) ∉ b.map fun p => (p.1, p.2 + 1) := fun j e => by
    obtain ⟨a, _, e⟩ := shift_mem.mp e
    exact hn (List.mem_map.mpr ⟨(i, a), e, rfl⟩)
  refine ⟨by rw [List.length_cons, List.length_cons, h.len], fun j u c q r => ?_, fun i' j e => ?_, fun i' j j' e e' => ?_⟩
  · cases j with
    | zero => cases q; cases r; exact .inr ⟨t, ds, i, rfl, List.mem_cons_self, hv, hg⟩
    | succ j =>
      rcases h.kind j u c q r with z | ⟨t', ds', i', e1, e2, e3⟩
      · exact .inl z
      · exact .inr ⟨t', ds', i', e1, List.mem_cons_of_mem _ (shift_mem.mpr ⟨j, rfl, e2⟩), e3⟩
  · rcases List.mem_cons.mp e with e | e
    · cases e
      exact ⟨v, t, ds, rfl, rfl, hv, hg⟩
    · obtain ⟨j', rfl, e1⟩ := shift_mem.mp e
      obtain ⟨v, t, ds, h1, h2, h3⟩ := h.lent i' j' e1
      exact ⟨v, t, ds, h1, h2, h3⟩
  · rcases List.mem_cons.mp e with e | e
    · cases e
      rcases List.mem_cons.mp e' with e' | e'
      · cases e'; rfl
      · exact (hn' _ e').elim
    · rcases List.mem_cons.mp e' with e' | e'
      · cases e'
        exact (hn' _ e).elim
      · obtain ⟨a, rfl, e1⟩ := shift_mem.mp e
        obtain ⟨a', rfl, e2⟩ := shift_mem.mp e'
        rw [h.uniq i' a a' e1 e2]
end
/-- f(e, ..), several objects lent -/
def eCallM (n : Nat) (m : MF) (L : AF) : EF := bindL L fun cs Γ => if cs.length = n then (match argsM Γ cs with
  | some (T, b) => (match m T with
    | some (r, T') => (match putM T' b Γ with
      | some Γ' => (match r with
        | .val c => if isSolid c then some (.val c, Γ') else none
        | .exc x => some (.exc x, Γ'))
      | none => none)
    | none => none)
  | none => none) else none
section
variable {X : Cx} {W : WX} {k : Nat} {f C : Addr} {fd : FuncData} {ps : List Str} {m : MF} {x nm : Str} {p pos apos : Pos} {e o : Expr} {es : List Expr} {L : AF} {A : EF}
end
/-! ### run -/
section
variable {Γ : Gam} {Q : Cell → Gam → Prop} {X : Exc → Gam → Prop}
theorem evCallM {n : Nat} {m : MF} {L : AF} (h : evA L Γ (fun cs Γ1 => cs.length = n ∧ ∃ T b, argsM Γ1 cs = some (T, b) ∧ evM m T (fun c T' => ∃ Γ', putM T' b Γ1 = some Γ' ∧ isSolid c = true ∧ Q c Γ') (fun x T' => ∃ Γ', putM T' b Γ1 = some Γ' ∧ X x Γ')) X) : evE (eCallM n m L) Γ Q X := by
  obtain ⟨r, Γ1, e, q⟩ := h
  unfold eCallM
  cases r with
  | exc x => exact ⟨.exc x, Γ1, by unfold DL.bindL; rw [e], q⟩
  | val cs =>
    obtain ⟨hn, T, b, hT, r, T', em, q⟩ := q
    cases r with
    | val c =>
      obtain ⟨Γ', hp, hs, q⟩ := q
      exact ⟨.val c, Γ', by unfold DL.bindL; rw [e]; dsimp only; rw [if_pos hn, hT]; dsimp only; rw [em]; dsimp only; rw [hp]; dsimp only; rw [if_pos hs], q⟩
    | exc x =>
      obtain ⟨Γ', hp, q⟩ := q
      exact ⟨.exc x, Γ', by unfold DL.bindL; rw [e]; dsimp only; rw [if_pos hn, hT]; dsimp only; rw [em]; dsimp only; rw [hp], q⟩
theorem evCallM2 {n : Nat} {m : MF} {L : AF} (h : evA L Γ (fun cs Γ1 => cs.length = n ∧ evSome (argsM Γ1 cs) fun p => evM m p.1 (fun c T' => evSome (putM T' p.2 Γ1) fun Γ' => isSolid c = true ∧ Q c Γ') (fun x T' => evSome (putM T' p.2 Γ1) fun Γ' => X x Γ')) X) : evE (eCallM n m L) Γ Q X :=
  evCallM (evA_mono h fun cs Γ1 ⟨n0, p, e1, q⟩ => ⟨n0, p.1, p.2, e1, q⟩)
end
end DL

set_option Elab.async false
set_option linter.all false
set_option maxRecDepth 100000
set_option maxHeartbeats 1000000
/-! x, y = a, b by the tuple road: what is stored stays owned -/
namespace DL
open PySem PySem.Spec PyProof.Rows L2
theorem Good.moreH {K : PySem.W.Frag} {f : Frm} {M H : Hp} {τ : List V} {T : List Cell} {σ : L2.St} {Γ : Gam} {p : Addr} {o : HO} (G : Good K f M H τ T σ Γ) (h : H p = none) : Good K f M (upd H p o) τ T σ Γ := by
  have k : ∀ a u, H a = some u → upd H p o a = some u := fun a u e => by
    have n : a ≠ p := fun z => by rw [z, h] at e; cases e
    rw [upd_ne n]
    exact e
  have st := G.stepAll (H' := upd H p o) (Sub.refl M) fun j v c a q r => by
    obtain ⟨u, hu⟩ := G.ownedSome q r
    obtain ⟨_, _, _, m, _⟩ := (G.ok j v c q).own_ok r
    exact ⟨by rw [k a u hu, hu], m⟩
  exact ⟨fun a u e => k a u (G.bys a u e), fun a u e => k a u (G.sub a u e), G.m0, G.new, G.tl, G.sl, G.has, st.1, st.2.2, G.nbr, G.args, ⟨G.tabs.t.ext k, G.tabs.nm, G.tabs.nb⟩⟩
section
variable {X : Cx} {W : WX} {pos : Pos}
theorem ds_parC (i j : Nat) {x y : Str} {a b : Expr} {L : AF} {px py pt : Pos} {kt k2 pt2} (ha : DA X W [a, b] L) (hN : X.N.Nodup) (hc : X.calm = true := by rfl)
    (hi : X.N[i]? = some x := by rfl) (hj : X.N[j]? = some y := by rfl) (hij : i ≠ j := by decide)
    (hx : Loc X.env.scope x := by first | exact Or.inl rfl | exact Or.inr rfl) (hy : Loc X.env.scope y := by first | exact Or.inl rfl | exact Or.inr rfl)
    (hfx : X.fn x = true ∨ X.env.scope.names.lookup x = some .local := by first | exact .inl rfl | exact .inr rfl | assumption) (hfy : X.fn y = true ∨ X.env.scope.names.lookup y = some .local := by first | exact .inl rfl | exact .inr rfl | assumption)
    (hs : swapsWithSole [.Tuple [.Name x px, .Name y py] kt pt] (.Tuple [a, b] k2 pt2) pos.line X.env = pure false := by rfl)
    (hw : swappedStores [.Tuple [.Name x px, .Name y py] kt pt] (.Tuple [a, b] k2 pt2) X.env = pure none := by rfl)
    (h1 : (assignEach [.Tuple [.Name x px, .Name y py] kt pt] X.env).map (·.2) = [assign (.Tuple [.Name x px, .Name y py] kt pt) X.env] := by rfl)
    (hn : (assignEach [.Name x px, .Name y py] X.env).length = 2 := by rfl) (hst : (assignEach [.Name x px, .Name y py] X.env).findIdx? (·.1) = none := by rfl)
    (ha1 : (assignEach [.Name x px, .Name y py] X.env).map (·.2) = assign (.Name x px) X.env :: (assignEach [.Name y py] X.env).map (·.2) := by rfl)
    (ha2 : (assignEach [.Name y py] X.env).map (·.2) = assign (.Name y py) X.env :: (assignEach [] X.env).map (·.2) := by rfl) :
    DS X W (.Assign [.Tuple [.Name x px, .Name y py] kt pt] (.Tuple [a, b] k2 pt2) pos) (sPar i j L) := by
  refine PSimp (ps_asg (pe_tup ha) (pg_tup (n := 2) hc (pgs_cons (pg_name hN hi hx hfx) (pgs_cons (pg_name hN hj hy hfy) pgs_nil ha2) ha1) hn hst) hs hw h1) fun D σ H h => ?_
  refine runLS h fun f cs Γ1 vs H1 M1 o hl G1 hk p => ?_
  unfold kPar at hk
  split at hk
  · rename_i c e
    split at hk
    · rename_i hse
      rw [Bool.and_eq_true] at hse
      obtain ⟨sc, se⟩ := hse
      split at hk
      · rename_i Γ2 h2
        split at hk
        · rename_i Γ3 h3
          cases hk
          obtain ⟨v, w, rfl⟩ : ∃ v w, vs = [v, w] := by
            match vs, hl with
            | [v, w], _ => exact ⟨v, w, rfl⟩
          have G2 : Good X.K f M1 H1 [w, v] [e, c] σ Γ1 := G1
          have nb : NoBr [c] := fun d hd => by
            rw [List.mem_singleton] at hd
            rw [hd]
            exact (isSolid_of sc).nobr
          refine ⟨by show 2 ≤ sizeLine; rw [sizeLine_eq]; decide, fun q hq => ⟨q, [v, w], rfl, .of upd_same, rfl, v, [w], rfl, w, [], rfl, rfl, ?_⟩⟩
          rw [List.set_comm _ _ hij]
          exact p _ _ M1 (((G2.setS (isSolid_of se) nb h2).setS (isSolid_of sc) NoBr.nil h3).moreH hq)
        · cases hk
      · cases hk
    · cases hk
  · cases hk
end
end DL

set_option Elab.async false
set_option linter.all false
set_option maxRecDepth 100000
set_option maxHeartbeats 1000000
/-! d.update(e) of dicts whose keys are ints or texts -/
namespace DL
open PySem PySem.Spec PyProof.Rows L2
section
variable {X : Cx}
end
section
variable {X : Cx} {W : WX} {o e : Expr} {es : List Expr} {L : AF} {name x : Str} {apos cpos opos : Pos} {tn id : String} {r : V → List V → Hp → VK → Prop} {g : Tag → List D → List D → Option (D × Tag × List D)}
end
theorem KD.zip {K : PySem.W.Frag} {M : Hp} : ∀ {ks : List Key} {xs : List V} {ds : List D}, ks.length = xs.length → Reps K M xs ds → KD K M (ks.zip xs) (ks.zip ds)
  | [], [], [], _, _ => trivial
  | [], _ :: _, _, h, _ => by cases h
  | _ :: _, [], _, h, _ => by cases h
  | [], [], _ :: _, _, r => by unfold Reps at r; exact r.elim
  | k :: ks, x :: xs, [], _, r => by unfold Reps at r; exact r.elim
  | k :: ks, x :: xs, d :: ds, h, r => ⟨rfl, r.of_cons.1, KD.zip (Nat.succ.inj h) r.of_cons.2⟩
/-! ### run -/
end DL

set_option Elab.async false
set_option linter.all false
set_option maxRecDepth 100000
set_option maxHeartbeats 1000000
/-! t[::-1] of a tuple -/
namespace DL
open PySem PySem.Spec PyProof.Rows L2
section
variable {prog : Program} {w : World} {A : Around} {E : Value → Shared → Prop} {s : Shared}
end
section
variable {X : Cx} {W : WX} {A : EF} {e : Expr}
/-- xs[::-1] -/
def gRev : D → Option Out
  | .node .lst ds => some (.new .lst ds.reverse)
  | .node .scr ds => some (.new .lst ds.reverse)
  | .node .tup ds => some (.new .tup ds.reverse)
  | _ => none
end
section
variable {Γ : Gam} {Q : Cell → Gam → Prop} {xs ys : List D}
theorem vRevL (q : Q (.ow .lst xs.reverse) Γ) : evG (gRev (.node .lst xs)) Γ Q := evG_lst rfl q
theorem vRevT (q : Q (.sh (.node .tup xs.reverse)) Γ) : evG (gRev (.node .tup xs)) Γ Q := evG_tup rfl q
theorem vAddT (h : xs.length + ys.length ≤ 16777216) (q : Q (.sh (.node .tup (xs ++ ys))) Γ) : evG (gAdd (.node .tup xs) (.node .tup ys)) Γ Q := by
  cases xs with
  | nil => exact evG_old (by unfold gAdd; dsimp only; rw [if_pos h]; rfl) q
  | cons x xs =>
    cases ys with
    | nil =>
      rw [List.append_nil] at q
      exact evG_old (by unfold gAdd; dsimp only; rw [if_pos h]; rfl) q
    | cons y ys => exact evG_tup (by unfold gAdd; dsimp only; rw [if_pos h]; rfl) q
theorem vCutT {lo hi : Option Int} (q : Q (.sh (.node .tup (cutD xs lo hi))) Γ) : evG (gCut lo hi (.node .tup xs)) Γ Q := by
  by_cases hw : HT.sIx xs.length 0 lo = 0 ∧ HT.sIx xs.length xs.length hi = xs.length
  · refine evG_old (d := .node .tup xs) (by unfold gCut; dsimp only; rw [if_pos hw]) ?_
    have e : cutD xs lo hi = xs := by
      unfold cutD
      rw [hw.1, hw.2]
      simp
    rw [e] at q
    exact q
  · exact evG_tup (by unfold gCut; dsimp only; rw [if_neg hw]) q
end
end DL

set_option Elab.async false
set_option linter.all false
set_option maxRecDepth 100000
set_option maxHeartbeats 1000000
/-! str of an int or a str -/
namespace DL
open PySem PySem.Spec PyProof.Rows L2
section
variable {Γ : Gam} {Q : Cell → Gam → Prop}
end
end DL

set_option Elab.async false
set_option linter.all false
set_option maxRecDepth 100000
set_option maxHeartbeats 1000000
/-! str.join, str.upper; isinstance(x, (T, U)); max(l, default=i); list(d.values()) -/
namespace DL
open PySem PySem.Spec PyProof.Rows L2
section
variable {X : Cx} {W : WX} {o e : Expr} {es : List Expr} {A : EF} {L : AF} {name : Str} {apos cpos pos p : Pos} {tn id : String} {r : V → List V → Hp → VK → Prop} {g : D → List D → Option Out} {k : Nat}
/-- isinstance(x, (T, U)) -/
def gIsi2 (a b : String) : D → Option Out := fun d => match tyName d with
  | some m => (match kitB m a, kitB m b with
    | some x, some y => some (.old (.leaf (.bl (x || y))))
    | _, _ => none)
  | none => none
end
end DL

set_option Elab.async false
set_option linter.all false
set_option maxRecDepth 100000
set_option maxHeartbeats 1000000
/-! max(l, default=i); list(d.values()) -/
namespace DL
open PySem PySem.Spec PyProof.Rows L2
section
variable {X : Cx} {W : WX} {e f : Expr} {A B : EF} {p pos kpos : Pos} {k : Nat}
/-! list(d.values()) -/
/-- list(d.values()) -/
def gVals : D → Option Out
  | .node (.dk _) ds => some (.new .lst ds)
  | _ => none
end
/-! ### run -/
section
variable {Γ : Gam} {Q : Cell → Gam → Prop} {xs : List D} {ks : List Key}
theorem vVals (q : Q (.ow .lst xs) Γ) : evG (gVals (.node (.dk ks) xs)) Γ Q := evG_lst rfl q
theorem vIsi2 {a b m : String} {d : D} {x y : Bool} (h : tyName d = some m) (hx : kitB m a = some x) (hy : kitB m b = some y) (q : Q (.sh (.leaf (.bl (x || y)))) Γ) : evG (gIsi2 a b d) Γ Q := evG_old (by unfold gIsi2; rw [h]; dsimp only; rw [hx, hy]) q
end
end DL

set_option Elab.async false
set_option linter.all false
set_option maxRecDepth 100000
set_option maxHeartbeats 1000000
/-! walking a dict: it is locked while the loop runs -/
namespace DL
open PySem PySem.Spec PyProof.Rows L2
section
variable {K : PySem.W.Frag} {a b : Addr} {od : Obj} {kvs : List (Key × V)} {M H : Hp}
mutual
theorem Rep.conv {M M' : Hp} (hh : ∀ {b : Addr} {t : Tag} {xs : List V}, Holds K M b t xs → Holds K M' b t xs) : ∀ (d : D) (v : V), Rep K M v d → Rep K M' v d
  | .leaf u, v, h => h
  | .node t ds, v, h => by
    obtain ⟨c, xs, rfl, h1, h2⟩ := h
    exact ⟨c, xs, rfl, hh h1, Reps.conv hh ds xs h2⟩
theorem Reps.conv {M M' : Hp} (hh : ∀ {b : Addr} {t : Tag} {xs : List V}, Holds K M b t xs → Holds K M' b t xs) : ∀ (ds : List D) (xs : List V), Reps K M xs ds → Reps K M' xs ds
  | [], [], _ => Reps.nil
  | [], _ :: _, h => h.elim
  | _ :: _, [], h => h.elim
  | d :: ds, x :: xs, h => ⟨Rep.conv hh d x h.1, Reps.conv hh ds xs h.2⟩
end
variable {f : Frm} {τ : List V} {T : List Cell} {σ : L2.St} {Γ : Gam}
end
end DL

set_option Elab.async false
set_option linter.all false
set_option maxRecDepth 100000
set_option maxHeartbeats 1000000
/-! repr of data with dicts in it -/
namespace DL
open PySem PySem.Spec PyProof.Rows L2
section
variable {X : Cx} {pins : List (Addr × Obj)} {σ : L2.St} {H : Hp} {s : Shared}
/-- what a value's text needs -/
def RK (P : Program) (w : World) (h : Heap) (u : Value) (p : PyData) : Prop := ∃ bs, ReadAtMost h p.depth bs ∧ ReprK P w bs h p.depth u p.shown ∧ ∃ as, Reads h u p as
def RKs (P : Program) (w : World) (h : Heap) (us : List Value) (ps : List PyData) : Prop := ∃ bs, ReadAtMost h (PyData.depthAll ps) bs ∧ ReprAllK P w bs h (PyData.depthAll ps) us (PyData.shownAll ps) ∧ ∃ as, ReadsAll h us ps as
theorem RKs.cons {P : Program} {w : World} {h : Heap} {u : Value} {p : PyData} {us : List Value} {ps : List PyData} (a : RK P w h u p) (b : RKs P w h us ps) : RKs P w h (u :: us) (p :: ps) := by
  obtain ⟨b1, r1, k1, a1, z1⟩ := a
  obtain ⟨b2, r2, k2, a2, z2⟩ := b
  refine ⟨b1 ++ b2, ?_, ?_, _, .cons z1 z2⟩
  · unfold PyData.depthAll
    exact (r1.mono (Nat.le_max_left _ _)).append (r2.mono (Nat.le_max_right _ _))
  · unfold PyData.depthAll PyData.shownAll
    exact .cons ((k1.more fun _ hb => List.mem_append_left _ hb).level_le (Nat.le_max_left _ _)) (k2.more_le (fun _ hb => List.mem_append_right _ hb) (Nat.le_max_right _ _))
/-- the dict at a, as the text needs it -/
structure DictAt (P : Program) (w : World) (h : Heap) (a : Addr) (kvs : List (PyData × PyData)) : Prop where
  it : ∃ (o : Obj) (es : Array DictEntry) (n : Nat) (bs as1 as2 : List Addr), h.get? a = some o ∧ o.cls = .type "dict" ∧ o.data = .dict es n ∧ (a == sysModules) = false ∧ ReadAtMost h (PyData.depthKv kvs) bs ∧ a ∉ bs ∧
    ReprEntriesK P w bs h (PyData.depthKv kvs) es.toList (List.zipWith (fun k v : Str => k ++ ": " ++ v) (PyData.shownAll (kvs.map (·.1))) (PyData.shownAll (kvs.map (·.2)))) ∧ ReadsAll h (es.toList.map (·.key)) (kvs.map (·.1)) as1 ∧ ReadsAll h (es.toList.map (·.val)) (kvs.map (·.2)) as2
end
section
variable {X : Cx} {pins : List (Addr × Obj)} {σ : L2.St} {H : Hp} {s : Shared} {a : Addr} {Q : Value → Shared → Prop} {E : Value → Shared → Prop}
end
end DL

set_option Elab.async false
set_option linter.all false
set_option maxRecDepth 100000
set_option maxHeartbeats 1000000
/-! a list against the empty list, whatever its items are; comprehensions that change nothing -/
namespace DL
open PySem PySem.Spec PyProof.Rows L2
def rEmp (K : PySem.W.Frag) (g : Bool → V) : R2 := fun x y H Q => ∃ a b xs, x = .ref a ∧ y = .ref b ∧ SqL K H a xs ∧ SqL K H b [] ∧ Q (g xs.isEmpty) H
section
variable {X : Cx}
theorem op_neE (hu : X.A.units + 64 < cLine) : OpR X (compareOp .NotEq) (rEmp X.K fun b => .bl (!b)) := by
  intro pins s σ H x y v u Q I rx ry h
  obtain ⟨a, b, xs, rfl, rfl, ha, hb, q⟩ := h
  cases rx
  cases ry
  obtain ⟨its, rv, ⟨o, n, ho, hc, _, hd⟩, _⟩ := I.list ha
  obtain ⟨its', rv', ⟨o', n', ho', hc', _, hd'⟩, _⟩ := I.list hb
  cases rv'
  have hl : s.heap.IsList a its.toArray := ⟨_, ho, hc, _, hd⟩
  have hl' : s.heap.IsList b #[] := ⟨_, ho', hc', _, hd'⟩
  cases rv with
  | nil =>
    have z := SeqAt.RcNeAt.lists (A := X.A) (s := s) (e := fun _ => true) hl hl' rfl (by omega) fun j h1 _ => absurd h1 (by simp)
    exact z X.prog X.w X.xe _ ⟨.bl _, H, I, rfl, q⟩
  | cons r rs =>
    have z := SeqAt.RcNeAt.lists_lengths (A := X.A) (s := s) hl hl' (by simp) (by omega)
    exact z X.prog X.w X.xe _ ⟨.bl _, H, I, rfl, q⟩
theorem opNeE {k : Nat} (hr : RoomG k X.A) : OpR X (compareOp .NotEq) (rEmp X.K fun b => .bl (!b)) := op_neE (by have := hr.room.un; omega)
end
def gEmp (g : Bool → V) : D → D → Option Out
  | .node .lst ds, .node .lst [] => some (.old (.leaf (g ds.isEmpty)))
  | _, _ => none
abbrev gNeE : D → D → Option Out := gEmp fun b => .bl (!b)
abbrev gEqE : D → D → Option Out := gEmp fun b => .bl b
theorem s2Emp {K : PySem.W.Frag} {g : Bool → V} : S2 K (rEmp K g) (gEmp g) := by
  intro M H x y d e o Q s rx ry hg q
  unfold gEmp at hg
  split at hg
  · rename_i ds
    cases hg
    obtain ⟨a, xs, rfl, h1, r1⟩ := rx
    obtain ⟨b, ys, rfl, h2, r2⟩ := ry
    obtain rfl := r2.nil_of
    refine ⟨a, b, xs, rfl, rfl, SqL.of h1, SqL.of h2, q _ ?_⟩
    unfold Rep
    have := r1.length
    cases xs with
    | nil => cases ds with
      | nil => rfl
      | cons _ _ => cases this
    | cons _ _ => cases ds with
      | nil => cases this
      | cons _ _ => rfl
  · cases hg
theorem s2NeE {K : PySem.W.Frag} : S2 K (rEmp K fun b => .bl (!b)) gNeE := s2Emp
theorem vNeE {ds : List D} {Γ : Gam} {Q : Cell → Gam → Prop} (q : Q (.sh (.leaf (.bl (!ds.isEmpty)))) Γ) : evG (gNeE (.node .lst ds) (.node .lst [])) Γ Q := evG_old rfl q
theorem vEqE {ds : List D} {Γ : Gam} {Q : Cell → Gam → Prop} (q : Q (.sh (.leaf (.bl ds.isEmpty))) Γ) : evG (gEqE (.node .lst ds) (.node .lst [])) Γ Q := evG_old rfl q
theorem vNeE0 {Γ : Gam} {Q : Cell → Gam → Prop} (q : Q (.sh (.leaf (.bl false))) Γ) : evG (gNeE (.node .lst []) (.node .lst [])) Γ Q := evG_old rfl q
theorem vEqE0 {Γ : Gam} {Q : Cell → Gam → Prop} (q : Q (.sh (.leaf (.bl true))) Γ) : evG (gEqE (.node .lst []) (.node .lst [])) Γ Q := evG_old rfl q
theorem vNeE1 {d : D} {ds : List D} {Γ : Gam} {Q : Cell → Gam → Prop} (q : Q (.sh (.leaf (.bl true))) Γ) : evG (gNeE (.node .lst (d :: ds)) (.node .lst [])) Γ Q := evG_old rfl q
theorem vEqE1 {d : D} {ds : List D} {Γ : Gam} {Q : Cell → Gam → Prop} (q : Q (.sh (.leaf (.bl false))) Γ) : evG (gEqE (.node .lst (d :: ds)) (.node .lst [])) Γ Q := evG_old rfl q
section
variable {a b m : String} {d : D} {Γ : Gam} {Q : Cell → Gam → Prop}
theorem vIsi2a (h : tyName d = some m) {y : Bool} (hx : kitB m a = some true) (hy : kitB m b = some y) (q : Q (.sh (.leaf (.bl true))) Γ) : evG (gIsi2 a b d) Γ Q := vIsi2 h hx hy q
theorem vIsi2b (h : tyName d = some m) (hx : kitB m a = some false) (hy : kitB m b = some true) (q : Q (.sh (.leaf (.bl true))) Γ) : evG (gIsi2 a b d) Γ Q := vIsi2 h hx hy q
theorem vIsi2f (h : tyName d = some m) (hx : kitB m a = some false) (hy : kitB m b = some false) (q : Q (.sh (.leaf (.bl false))) Γ) : evG (gIsi2 a b d) Γ Q := vIsi2 h hx hy q
end
/-- a comprehension that only looks: g tells each item's share -/
theorem evLcP {t : TF} {E : EF} {i : Nat} {Γ : Gam} {Q : List D → Gam → Prop} (g : D → Option D) (ds : List D) (hi : Γ[i]? = some none) (hl : ds.length ≤ 16777216)
    (h : ∀ d, d ∈ ds → evT t (Γ.set i (some (.sh d))) (fun b Γ2 => (b = true → evE E Γ2 (fun c Γ3 => evKp Γ3 c fun e Γ4 => Γ4 = Γ.set i (some (.sh d)) ∧ g d = some e) (fun _ _ => False)) ∧ (b = false → Γ2 = Γ.set i (some (.sh d)) ∧ g d = none)) (fun _ _ => False))
    (q : Q (ds.filterMap g) Γ) : evLcD (pNm i) t E [i] ds Γ [] Q := by
  have hlt := lt_of_get hi
  have hc : ∀ d, clearG (Γ.set i (some (.sh d))) [i] = Γ := fun d => by
    unfold clearG clearG
    rw [List.set_set]
    refine List.ext_getElem? fun j => ?_
    by_cases e : i = j
    · subst e; rw [List.getElem?_set_self hlt, hi]
    · rw [List.getElem?_set_ne e]
  refine evLc_inv (fun rest Γ' acc => Γ' = Γ ∧ (∀ d ∈ rest, d ∈ ds) ∧ acc ++ rest.filterMap g = ds.filterMap g ∧ acc.length + rest.length ≤ ds.length) ds ⟨rfl, fun _ h => h, rfl, by simp⟩ (fun d r Γ' acc hI => ?_) fun Γ' acc hI => ?_
  · obtain ⟨rfl, h1, h2, h3⟩ := hI
    refine ⟨Γ'.set i (some (.sh d)), ?_, ?_⟩
    · unfold pNm setC
      rw [if_pos hlt, hi]
      rfl
    · obtain ⟨rr, Γ2, e, p⟩ := h d (h1 d (by simp))
      refine ⟨rr, Γ2, e, ?_⟩
      rw [List.length_cons] at h3
      cases rr with
      | val b =>
        refine ⟨fun hb => evE_mono (p.1 hb) (fun c Γ3 ⟨e, Γ4, k, z1, z2⟩ => ⟨e, Γ4, k, by omega, ?_, fun x hx => h1 x (by simp [hx]), ?_, ?_⟩) (fun _ _ z => z), fun hb => ?_⟩
        · rw [z1, hc]
        · rw [← h2, List.filterMap_cons, z2, List.append_assoc]; rfl
        · rw [List.length_append, List.length_singleton]; omega
        · obtain ⟨z1, z2⟩ := p.2 hb
          refine ⟨by rw [z1, hc], fun x hx => h1 x (by simp [hx]), ?_, by omega⟩
          rw [← h2, List.filterMap_cons, z2]
      | exc x => exact p.elim
  · obtain ⟨rfl, h1, h2, h3⟩ := hI
    rw [List.filterMap_nil, List.append_nil] at h2
    rw [h2]
    exact q
end DL
namespace DL
open PySem PySem.Spec PyProof.Rows L2
theorem FnG.same {P P' : Program} {w w' : World} {K K' : PySem.W.Frag} {mg mg' : Str → Option Value} {base base' : Heap} {k : Nat} {f : Addr} {fd : FuncData} {ps : List Str} {F : MF} (h : FnG P w K mg base k f fd ps F)
    (e1 : P' = P := by rfl) (e2 : w' = w := by rfl) (e3 : K' = K := by rfl) (e4 : mg' = mg := by rfl) (e5 : base' = base := by rfl) : FnG P' w' K' mg' base' k f fd ps F := by
  subst e1 e2 e3 e4 e5
  exact h
end DL

set_option Elab.async false
set_option linter.all false
set_option maxRecDepth 100000
set_option maxHeartbeats 4000000
/-! own exceptions over a built-in one: made, raised -/
namespace PySem
namespace DLX
open PySem.W PySem.Calls PyProof.Rows PySem.HandSPX
open Builtin Builtin.ObjectAttr
/-- what stands behind an own class in its order -/
structure Tl (bm : List Value) : Prop where
  pass : ∀ x : Value, refuseLoop x "__setattr__" bm = pure ()
  obj : bm.contains (.type "object") = true
theorem tl_IndexError : Tl [.type "IndexError", .type "LookupError", .type "Exception", .type "BaseException", .type "object"] := ⟨fun x => by kernel_rfl, by decide +kernel⟩
section
variable {prog : Program} {w : World} {A : Around} {R : Result → Shared → Prop} {hp : Heap} {g : Array GenState} {d : Drawn} {t : Nat} {os : OsState} {K : W.Frag} {f : Str} {tk : Tok} {v : Value} {x C dx : Addr} {fv : Array Value} {cd : ClassData} {bm : List Value}
/-- the first field -/
theorem put_first (X : K.In hp) (hx : hp.get? x = some { cls := .ref C, data := .fields fv }) (hcd : W.clsIn K C = some cd) (hm : cd.mro = .ref C :: bm) (T : Tl bm) (hh : cd.hasDict = true) (ha : W.findIn K (.ref C) f = some none)
    (hq : ∀ h2 t2 dn, (∀ b o, b ≠ x → hp.get? b = some o → h2.get? b = some o) → hp.objs.size ≤ dn → dn ≠ x → h2.get? x = some { cls := .ref C, dict := some dn, data := .fields fv } → h2.Ns1 dn (fun y => if y = f then some v else none) →
      R (.ok (.ret .none)) ⟨h2, g, d, t2, os⟩) : codeAny (model prog w) A (.call (.builtin "object.__setattr__") ⟨[.ref x, .str f tk, v], []⟩) R ⟨hp, g, d, t, os⟩ := by
  have I : W.InstAt hp x { cls := .ref C, data := .fields fv } C none := ⟨hx, rfl, rfl, trivial⟩
  have ne : cd.mro.isEmpty = false := by rw [hm]; rfl
  have ob : cd.mro.contains (.type "object") = true := by rw [hm, List.contains_cons, T.obj, Bool.or_true]
  have nx : x ≠ hp.objs.size := Nat.ne_of_lt (Heap.lt_size hx)
  have hsub : W.Looks (model prog w) hp (isInstance (.ref x) (.type "object")) true :=
    I.type.andThen (W.looks_mroIn X (by unfold W.mroIn; rw [hcd, Option.bind_some, if_neg (by rw [ne]; decide), ob]))
  have S0 := F.store_object
  refine codeAny_call_builtin S0.slot.plain S0.entry ?_
  refine @W.check_slot (model prog w) _ _ ⟨hp, g, d, t, os⟩ "object.__setattr__" "object" "__setattr__" (.ref x) [.str f tk, v] [] _ S0.kind S0.split hsub
    (S0.args (.ref x) (.str f tk) v) ?_
  have m1 : W.Looks (model prog w) hp (mroOf (.ref C)) cd.mro := (W.looks_clsIn X hcd).andThen .now
  have m2 : W.Looks (model prog w) hp (storeTaker? none) none := .now
  have m3 : W.Looks (model prog w) hp (classData C) cd := W.looks_clsIn X hcd
  rw [W.osa_eq, refuse_eq]
  refine wpAny_bind (wpAny_bind (I.type.at (wpAny_bind (m1.at ?_))))
  rw [hm, refuseLoop_ref, T.pass]
  refine wpAny_pure (wpAny_bind (I.type.at (wpAny_bind ((W.looks_findIn X ha).at (wpAny_bind (m2.at ?_))))))
  show wpAny _ _ (storeInOwnDict (.ref x) (.ref C) (.str f tk) f v false) _ _ _
  obtain ⟨c1, c2, c3, c4, c5, hd, c7, c8, c9, c10, c11⟩ := cd
  dsimp only at hh
  subst hh
  unfold storeInOwnDict ownDictForStores
  repeat (first | with_reducible refine store_in_new ?_ ?_ | with_reducible refine wpAny_loadPart_at hx ?_ | with_reducible refine m3.at ?_ | wp_step)
  · exact ⟨_, #[], _, (Heap.get?_update_ne _ _ _ _ nx.symm).trans (Heap.get?_push_at rfl rfl), rfl, fun e he => absurd he (by simp), fun _ => rfl⟩
  · intro h2 t2 hn hs
    have hx2 : (hp.push { cls := .type "dict", data := .dict #[] }).get? x = some { cls := .ref C, data := .fields fv } := Heap.get?_push_of_some _ hx
    refine hq h2 t2 hp.objs.size (fun b o hb ho => ?_) (Nat.le_refl _) nx.symm ?_ hn
    · exact (hs.2 b (Nat.ne_of_lt (Heap.lt_size ho))).trans ((Heap.get?_update_ne _ _ _ _ hb).trans (Heap.get?_push_of_some _ ho))
    · exact (hs.2 x nx).trans (Heap.get?_update_self _ hx2 rfl)
end
/-! ### the text of __init__ -/
def nA (fs : List Str) (p0 : Pos) (ps : List Pos) : Arguments := { posonlyargs := [], args := { arg := "self", annotation := none, pos := p0 } :: (fs.zip ps).map fun q => { arg := q.1, annotation := none, pos := q.2 }, vararg := none, kwonlyargs := [], kw_defaults := [], kwarg := none, defaults := [] }
def nB (f : Str) (q : Pos × Pos × Pos × Pos) : Stmt := .Assign [.Attribute (.Name "self" q.1) f q.2.1] (.Name f q.2.2.1) q.2.2.2
def nS (fs : List Str) : Scope := { kind := .function, names := (PySem.Str.ofString "self", .local) :: fs.map fun f => (f, .local), isGenerator := false, isCoroutine := false, more := [] }
/-- what the written part says of the class at C, and of its __init__, at fI -/
structure XTxt (K : Frag) (mg : Str → Option Value) (x : Str) (C fI : Addr) (B newId initId : String) (bm : List Value) (fs : List Str) : Prop where
  gC : mg x = some (.ref C)
  base : ExcBaseFacts B newId initId bm
  tl : Tl bm
  cls : ∃ nm q N bs sn sub ab col dd k0 k1 k2 k3 k5, K.lookup C = some (excClassObj nm q C N bs bm true sn sub ab col dd k0 k1 k2 k3 k5 newId)
  sa : findIn K (.ref C) "__setattr__" = some (some (.builtin "object.__setattr__"))
  ga : findIn K (.ref C) "__getattribute__" = some (some (.builtin "BaseException.__getattribute__"))
  gg : findIn K (.ref C) "__getattr__" = some none
  noN : ∀ f ∈ fs, findIn K (.ref C) f = some none
  iC : findIn K (.ref C) "__init__" = some (some (.ref fI))
  tC : typeIn K (.ref fI) = some (.type "function")
  kC : keepIn K (.ref C) = true
  exC : subIn K (.ref C) (.type "BaseException") = some true
  tyC : typeIn K (.ref C) = some (.type "type")
  hdC : hasDictIn K C = true
  te : exmOne K (.ref C) (.ref C) = some true
  fn : ∃ (oc : Value) (od : Option Addr) (doc pm : Value) (an : Option Addr) (cdv ct : Value) (osl : Array (Option Value)) (qn : Str) (p0 : Pos) (ps : List Pos) (qs : List (Pos × Pos × Pos × Pos)),
    K.lookup fI = some ⟨oc, od, .func (fnOf "__init__" qn (nA fs p0 ps) ((fs.zip qs).map fun r => nB r.1 r.2) (nS fs) .none .none doc pm an cdv ct), osl⟩ ∧ codeIn K cdv qn = true ∧ ps.length = fs.length ∧ qs.length = fs.length
theorem ldN {M : Model} {s : Shared} {name : Str} {scope : Scope} {L a : Addr} {cd : Value} {m : Str → Option Value} {x : Str} {pos : Pos} {v : Value} {Q : Value → Shared → Prop} {A : Around} {E : Value → Shared → Prop} (hn : s.heap.Ns L m) (hv : m x = some v) (h : Q v s)
    (hk : scope.kind = .function := by rfl) (hl : (envOfC name scope L a cd).kindOf x = some .local := by rfl) (hd : (x == ("__debug__" : Str)) = false := by decide) :
    wpAny M A (eval (.Name x pos) (envOfC name scope L a cd)) Q E s := wpAny_Name (wpAny_loadName_local hk hl hn hv h) hd
/-- what __init__ leaves of a fresh exception at x -/
structure Left (h h2 : Heap) (x C dx t1 : Addr) (m : Str → Option Value) : Prop where
  keep : ∀ b o, b ≠ x → h.get? b = some o → h2.get? b = some o
  obj : h2.get? x = some { cls := .ref C, dict := some dx, data := .fields #[.ref t1, .none, .none, .none, .bool false, .none] }
  dbig : h.objs.size ≤ dx
  dne : dx ≠ x
  ns : h2.Ns1 dx m
section
variable {prog : Program} {w : World} {A : Around} {R : Result → Shared → Prop} {s : Shared} {K : Frag} {mg : Str → Option Value} {C fI : Addr} {xn : Str} {B newId initId : String} {bm : List Value}
theorem init_value (T : XTxt K mg xn C fI B newId initId bm ["value"]) {x t0 : Addr} {v : Value} (X : K.In s.heap) (hlim : s.heap.NoLimit) (hx : s.heap.get? x = some (excO C t0)) (hnx : K.lookup x = none) (hroom : A.depth < recursionLimit)
    (hq : ∀ h2 tk dx, Left s.heap h2 x C dx t0 (fun y => if y = "value" then some v else none) → R (.ok (.ret .none)) { s with heap := h2, toks := tk }) :
    codeAny (model prog w) A (.call (.ref fI) ⟨[.ref x, v], []⟩) R s := by
  obtain ⟨oc, od, doc, pm, an, cdv, ct, osl, qn, p0, ps, qs, ho, hcd, hl1, hl2⟩ := T.fn
  obtain ⟨p1, rfl⟩ : ∃ p, ps = [p] := by
    match ps, hl1 with
    | [p], _ => exact ⟨p, rfl⟩
  obtain ⟨⟨q1, q2, q3, q4⟩, rfl⟩ : ∃ q, qs = [q] := by
    match qs, hl2 with
    | [q], _ => exact ⟨q, rfl⟩
  obtain ⟨nm, q, N, bs, sn, sub, ab, col, dd, k0, k1, k2, k3, k5, hC⟩ := T.cls
  have hcl : clsIn K C = some { name := nm, bases := bs, mro := .ref C :: bm, ns := N, qualname := q, hasDict := true, slotNames := sn, subclasses := sub, abstract := ab, collection := col, hasDel := false } := by unfold clsIn; rw [hC] <;> rfl
  refine Att.call_fn (binds := [("self", .ref x), ("value", v)]) X hlim ho hcd hroom (BindsTo.of_eq (by first | rfl | with_unfolding_all rfl | kernel_rfl)) (by first | rfl | decide | with_unfolding_all rfl) (fun s₁ IC => ?_) rfl rfl rfl
  obtain ⟨h₁, tk₁, rfl⟩ := IC.toInCall.same
  have k : ∀ b o, s.heap.get? b = some o → h₁.get? b = some o := IC.toInCall.keep
  have hn := IC.toInCall.ns
  have z : s.heap.objs.size < h₁.objs.size := hn.lt
  show wpAny _ _ (execs _ _) _ _ _
  refine wpAny_execs_cons (plainObj_wpAny_Assign_Attribute ?_)
  refine ldN (v := v) (hd := by show (("value" : Str) == ("__debug__" : Str)) = false; decide) hn (by first | rfl | with_unfolding_all rfl | kernel_rfl) (ldN (v := .ref x) hn (by first | rfl | with_unfolding_all rfl | kernel_rfl) ?_)
  refine set_plain (X.keeps k) (ox := excO C t0) (od := none) ⟨k _ _ hx, rfl, rfl, trivial⟩ T.sa ?_
  refine put_first (X.keeps k) (k _ _ hx) hcl rfl T.tl rfl (T.noN _ (by simp)) fun h₃ tk₃ dx k₃ dn dne hx₃ hn₃ => ?_
  show wpAny _ _ (execs _ _) _ _ _
  exact wpAny_execs_nil (hq h₃ tk₃ dx ⟨fun b o hb e => k₃ b o hb (k b o e), hx₃, Nat.le_of_lt (Nat.lt_of_lt_of_le z dn), dne, hn₃⟩)
/-- a made exception -/
structure XMade (h h2 : Heap) (e C d : Addr) (m : Str → Option Value) : Prop where
  keep : ∀ b o, h.get? b = some o → h2.get? b = some o
  new : h.objs.size ≤ e
  obj : ∃ oe vs, h2.get? e = some oe ∧ oe.cls = .ref C ∧ oe.dict = some d ∧ oe.data = .fields vs ∧ vs[1]? = some .none
  dbig : h.objs.size ≤ d
  dne : d ≠ e
  ns : h2.Ns1 d m
/-- __init__ stores its arguments -/
def Stores (prog : Program) (w : World) (K : Frag) (C fI : Addr) (fs : List Str) : Prop := ∀ (A : Around) (R : Result → Shared → Prop) (s : Shared) (x t0 : Addr) (vs : List Value), vs.length = fs.length → K.In s.heap → s.heap.NoLimit → s.heap.get? x = some (excO C t0) → K.lookup x = none → A.depth < recursionLimit →
  (∀ h2 tk dx m, Left s.heap h2 x C dx t0 m → (∀ f, m f = List.lookup f (fs.zip vs)) → R (.ok (.ret .none)) { s with heap := h2, toks := tk }) → codeAny (model prog w) A (.call (.ref fI) ⟨.ref x :: vs, []⟩) R s
theorem stores_value (T : XTxt K mg xn C fI B newId initId bm ["value"]) : Stores prog w K C fI ["value"] := fun A R s x t0 vs hl X hlim hx hnx hroom hq => by
  match vs, hl with
  | [v], _ =>
    refine init_value T X hlim hx hnx hroom fun h2 tk dx L => hq h2 tk dx _ L fun f => ?_
    show _ = List.lookup f [(("value" : Str), v)]
    by_cases e : f = "value"
    · subst e; rw [if_pos rfl]; simp [List.lookup]
    · have q : (f == ("value" : Str)) = false := by simpa using e
      rw [if_neg e]; simp [List.lookup, q]
theorem x_made {fs : List Str} (T : XTxt K mg xn C fI B newId initId bm fs) (S : Stores prog w K C fI fs) {vs : List Value} (hv : vs.length = fs.length) (hsz : vs.length ≤ sizeLine) (X : K.In s.heap) (hlim : s.heap.NoLimit) (hroom : A.depth + 1 < recursionLimit)
    (hq : ∀ h2 tk e d m, XMade s.heap h2 e C d m → (∀ f, m f = List.lookup f (fs.zip vs)) → R (.ok (.ret (.ref e))) { s with heap := h2, toks := tk }) :
    codeAny (model prog w) A (.call (.ref C) ⟨vs, []⟩) R s := by
  obtain ⟨nm, q, N, bs, sn, sub, ab, col, dd, k0, k1, k2, k3, k5, hC⟩ := T.cls
  obtain ⟨hp, g, dr, tk, os⟩ := s
  have k : ∀ b o, hp.get? b = some o → ((hp.push (kdv_tup vs)).push (excO C hp.objs.size)).get? b = some o := fun b o e => Heap.get?_push_of_some _ (Heap.get?_push_of_some _ e)
  have hget : ((hp.push (kdv_tup vs)).push (excO C hp.objs.size)).get? (hp.objs.size + 1) = some (excO C hp.objs.size) := by heap_get
  have hnx : K.lookup (hp.objs.size + 1) = none := by
    cases e : K.lookup (hp.objs.size + 1) with
    | none => rfl
    | some o =>
      have z : hp.get? (hp.objs.size + 1) = some o := X _ _ e
      exact absurd (Nat.lt_of_succ_lt (Heap.lt_size z)) (Nat.lt_irrefl _)
  refine call_own T.base (fun _ => rfl) (X _ _ hC) (looks_findIn X T.iC) (fun self => bind_fn X self T.tC) hsz ?_
  refine S _ _ ⟨(hp.push (kdv_tup vs)).push (excO C hp.objs.size), g, dr, tk, os⟩ _ hp.objs.size vs hv (X.keeps k) (hlim.keeps k) hget hnx ?_ fun h2 tk2 dx m ⟨k2, hx, dn, dne, hns⟩ hm => ?_
  · show A.depth + 1 < recursionLimit
    exact hroom
  · have old : ∀ b o, hp.get? b = some o → h2.get? b = some o := fun b o e => k2 b o (Nat.ne_of_lt (Nat.lt_succ_of_lt (Heap.lt_size e))) (k b o e)
    have z : hp.objs.size + 1 + 1 ≤ dx := by
      first
        | (simpa only [Heap.size_push] using dn)
        | exact dn
        | (have q := dn; rw [Heap.size_push, Heap.size_push] at q; exact q)
    exact ⟨rfl, hq h2 tk2 (hp.objs.size + 1) dx m ⟨old, Nat.le_succ _, ⟨_, _, hx, rfl, rfl, rfl, rfl⟩, Nat.le_trans (Nat.le_trans (Nat.le_succ _) (Nat.le_succ _)) z, dne, hns⟩ hm⟩
end
end DLX
end PySem

set_option Elab.async false
set_option linter.all false
set_option maxRecDepth 100000
set_option maxHeartbeats 4000000
/-! raise, try: own exceptions -/
namespace DL
open PySem PySem.Spec PyProof.Rows L2
open PySem.DLX (XTxt Stores)
theorem relO_zip : ∀ {fs : List Str} {vs : List V} {us : List Value}, Vals vs us → ∀ f, RelO (List.lookup f (fs.zip vs)) (List.lookup f (fs.zip us))
  | [], _, _, _, f => by rw [List.zip_nil_left, List.zip_nil_left]; trivial
  | _ :: _, [], _, h, f => by cases h; rw [List.zip_nil_right, List.zip_nil_right]; trivial
  | g :: fs, v :: vs, us, h, f => by
    cases h with
    | cons h1 h2 =>
      rw [List.zip_cons_cons, List.zip_cons_cons, List.lookup_cons, List.lookup_cons]
      cases f == g with
      | true => exact h1
      | false => exact relO_zip h2 f
section
variable {X : Cx} {C fI : Addr} {xn : Str} {B newId initId : String} {bm : List Value} {fs : List Str}
/-- X(e, ..) -/
def tMkX (C : Addr) (fs : List Str) (ta : TA) : L2.St → Hp → XK → Prop := fun σ H Q => ta σ H fun vs H1 => vs.length = fs.length ∧ ∀ d, H1 d = none → Q (.ref C) (some d) (upd H1 d (.xd (fs.zip vs)))
theorem pmk_x {a : Expr} {es : List Expr} {ta : TA} {p pos : Pos} {k : Nat} (T : XTxt X.K X.mg xn C fI B newId initId bm fs) (S : Stores X.prog X.w X.K C fI fs) (hr : Room k X.A) (hfs : fs.length ≤ 10) (ha : PA X (a :: es) ta) (hg : Gl X xn)
    (hdb : (xn == ("__debug__" : Str)) = false) (he : starEach (a :: es) X.env = (false, eval a X.env) :: starEach es X.env) (hpl : (backTo pos (starEach es X.env)).any (·.1) = false) :
    PMk X (.Call (.Name xn p) (a :: es) [] pos) (tMkX C fs ta) := by
  intro pins s σ H Q I h
  refine wpAny_Call_Name_kw (ld_glob I hg T.gC ?_ hdb)
  refine PySem.W.callWith_K (h₀ := X.base) I.ok.mod.kin T.kC (thn (ha.run pos pins s σ H _ I h) fun us s1 hh => ?_) he hpl
  obtain ⟨vs, H1, I1, r1, hv, q1⟩ := hh
  have hlen : us.length = fs.length := by rw [← r1.length]; exact hv
  refine ⟨I1.kIn, ?_⟩
  show wpAny _ _ (call (.ref C) us) _ _ _
  have hlim := I1.nolimit
  obtain ⟨hp, g, dr, tk, os⟩ := s1
  refine wpAny_call (PySem.DLX.x_made T S hlen (by rw [sizeLine_eq]; omega) I1.kIn hlim (by have := hr.dp; omega) fun h' tk' e d m M hm => ?_)
  show MkP X pins σ Q (.ref e) ⟨h', g, dr, tk', os⟩
  obtain ⟨oe, fv, hoe, hc, hd, hdat, h1⟩ := M.obj
  have hns := M.ns
  obtain ⟨G', g1, g2⟩ := restrict h' fun b => decide (b ≠ e)
  have gk : ∀ b, b ≠ e → G'.get? b = h'.get? b := fun b hb => g1 b (decide_eq_true hb)
  have ge : G'.get? e = none := g2 e (by simp)
  have old : ∀ b o, hp.get? b = some o → G'.get? b = some o := fun b o q => (gk b (Nat.ne_of_lt (Nat.lt_of_lt_of_le (Heap.lt_size q) M.new))).trans (M.keep b o q)
  have ob : ObjOk X.prog X.w (upd H1 d (.xd (fs.zip vs))) G' d (.xd (fs.zip vs)) := ⟨_, hns.at (fun o q => (gk d M.dne).trans q), fun f => by rw [hm f]; exact relO_zip r1 f⟩
  have J : Inv X pins σ (upd H1 d (.xd (fs.zip vs))) ⟨G', g, dr, tk', os⟩ := I1.laid (t' := tk') old M.dbig ob
  refine ⟨e, oe, fv, ⟨G', g, dr, tk', os⟩, _, .ref C, some d, rfl, J, fun b o q => ?_, ge, hoe, ⟨hc, hd⟩, hdat, h1, ?_, rfl, I1.bare, raises_own T.exC T.tyC, q1 d (I1.hok.fresh M.dbig)⟩
  · by_cases hb : b = e
    · have q' : G'.get? b = some o := q
      rw [hb, ge] at q'; cases q'
    · exact (gk b hb).symm.trans q
  · rw [upd_ne (Ne.symm M.dne)]
    exact I1.hok.fresh M.new
end
/-! ### raise -/
def kRaise (C : Addr) (fs : List Str) (cs : List Cell) : GS := fun Γ1 => match shs cs with
  | some ds => if ds.length = fs.length then some (.xc ⟨C, fs, ds⟩ Γ1) else none
  | none => none
def sRaise (C : Addr) (fs : List Str) (L : AF) : GS := bindLS L (kRaise C fs)
theorem Good.pops {K : PySem.W.Frag} {f : Frm} {M H : Hp} {σ : L2.St} {Γ : Gam} : ∀ {vs : List V} {cs : List Cell}, vs.length = cs.length → Good K f M H vs cs σ Γ → Good K f M H [] [] σ Γ
  | [], [], _, G => G
  | _ :: _, [], h, _ => by cases h
  | [], _ :: _, h, _ => by cases h
  | _ :: vs, _ :: cs, h, G => Good.pops (vs := vs) (cs := cs) (by simpa using h) G.pop
theorem Good.reps {K : PySem.W.Frag} {f : Frm} {M H : Hp} {σ : L2.St} {Γ : Gam} : ∀ {vs : List V} {ds : List D} {τ : List V} {T : List Cell}, vs.length = ds.length → Good K f M H (vs.reverse ++ τ) ((ds.map Cell.sh).reverse ++ T) σ Γ → Reps K M vs ds
  | [], [], _, _, _, _ => .nil
  | _ :: _, [], _, _, h, _ => by cases h
  | [], _ :: _, _, _, h, _ => by cases h
  | v :: vs, d :: ds, τ, T, h, G => by
    have G' : Good K f M H (vs.reverse ++ (v :: τ)) ((ds.map Cell.sh).reverse ++ (.sh d :: T)) σ Γ := by
      have := G
      rw [List.reverse_cons, List.map_cons, List.reverse_cons, List.append_assoc, List.append_assoc] at this
      exact this
    have hl : vs.length = ds.length := by simpa using h
    refine .cons ?_ (Good.reps hl G')
    have e : (vs.reverse ++ (v :: τ))[vs.length]? = some v := by
      rw [List.getElem?_append_right (by simp), List.length_reverse, Nat.sub_self]; rfl
    have e2 : ((ds.map Cell.sh).reverse ++ (.sh d :: T))[vs.length]? = some (.sh d) := by
      rw [List.getElem?_append_right (by simp [hl]), List.length_reverse, List.length_map, hl, Nat.sub_self]; rfl
    exact G'.ok (.inl vs.length) v (.sh d) (ent_temp.mpr ⟨e, e2⟩)
theorem shs_map : ∀ {cs : List Cell} {ds : List D}, shs cs = some ds → cs = ds.map Cell.sh
  | [], ds, h => by unfold shs at h; cases h; rfl
  | .sh d :: cs, ds, h => by
    unfold shs at h
    split at h
    · rename_i es he
      cases h
      rw [shs_map he]; rfl
    · cases h
  | .ow _ _ :: _, _, h => by unfold shs at h; cases h
  | .rf _ _ :: _, _, h => by unfold shs at h; cases h
  | .br _ :: _, _, h => by unfold shs at h; cases h
section
variable {X : Cx} {W : WX} {C fI : Addr} {xn : Str} {B newId initId : String} {bm : List Value} {fs : List Str}
theorem ds_raise {a : Expr} {es : List Expr} {L : AF} {p pos pos2 : Pos} {k : Nat} (T : XTxt X.K X.mg xn C fI B newId initId bm fs) (S : ∀ P w, Stores P w X.K C fI fs) (hr : RoomG k X.A) (tk : Takes X W) (ha : DA X W (a :: es) L) (hfs : fs.length ≤ 10 := by decide)
    (hc : X.calm = true := by rfl) (hg : Gl X xn := by rfl) (hdb : (xn == ("__debug__" : Str)) = false := by decide) (he : starEach (a :: es) X.env = (false, eval a X.env) :: starEach es X.env := by rfl) (hpl : (backTo pos (starEach es X.env)).any (·.1) = false := by rfl) :
    DS X W (.Raise (some (.Call (.Name xn p) (a :: es) [] pos)) none pos2) (sRaise C fs L) := by
  refine PSimp (ps_raise hc tk (pmk_x T (S _ _) hr.room hfs ha hg hdb he hpl)) fun D σ H h => ?_
  refine runLS h fun f cs Γ1 vs H1 M1 o hl G1 hk q => ?_
  unfold kRaise at hk
  split at hk
  · rename_i ds hds
    split at hk
    · rename_i hlen
      cases hk
      obtain rfl := shs_map hds
      rw [List.length_map] at hl
      have rs := Good.reps hl G1
      rw [List.append_nil, List.append_nil] at G1
      have G2 : Good X.K f M1 H1 [] [] σ Γ1 := Good.pops (by simp [hl]) G1
      refine ⟨by rw [hl]; exact hlen, fun d hd => ?_⟩
      have fresh : ∀ k v c, ent ([] : List V) [] σ Γ1 k = some (v, c) → ¬ own H1 v c d := fun k v c q e => by
        obtain ⟨o, z⟩ := G2.ownedSome q e
        rw [hd] at z; cases z
      have G3 := G2.layTake (G2.notM hd) (G2.notB hd) hd fresh (.xd (fs.zip vs)) (fun ps z => by cases z)
      exact q σ d _ _ G3 ⟨vs, by rw [hl]; exact hlen.symm, upd_same, Reps.mono (Sub.laid (G2.notM hd)) _ _ rs⟩
    · cases hk
  · cases hk
end
end DL

set_option Elab.async false
set_option linter.all false
set_option maxRecDepth 100000
set_option maxHeartbeats 4000000
/-! try .. except X as e: the exception that was caught is an object like others from there on -/
namespace DL
open PySem PySem.Spec PyProof.Rows L2
theorem exk_ok {P : Program} {w : World} {H : Hp} {h : Heap} {a C d : Addr} {o : Obj} {vs : Array Value} (e : h.get? a = some o) (hc : o.cls = .ref C) (hd : o.dict = some d) (hf : o.data = .fields vs) : ObjOk P w H h a (exk a C d) :=
  ⟨⟨o, vs, e, hc, hd, hf⟩, ⟨o, e⟩, fun h1 h2 z k => by
    obtain ⟨o2, vs2, q1, q2, q3, q4⟩ := z
    exact ⟨o2, vs2, k _ q1, q2, q3, q4⟩⟩
theorem exk_at {P : Program} {w : World} {H : Hp} {h : Heap} {a C d : Addr} (hok : HOk P w H h) (e : H a = some (exk a C d)) : ∃ (o : Obj) (vs : Array Value), h.get? a = some o ∧ o.cls = .ref C ∧ o.dict = some d ∧ o.data = .fields vs := by
  have x : ObjOk P w H h a (.ext fun h => ∃ (o : Obj) (vs : Array Value), h.get? a = some o ∧ o.cls = .ref C ∧ o.dict = some d ∧ o.data = .fields vs) := hok a _ e
  exact x.1
section
variable {X : Cx} {pins : List (Addr × Obj)} {σ : L2.St} {H : Hp} {s : Shared}
/-- an object that nobody tracks, new since the def's start, is tracked -/
theorem Inv.track {a C d : Addr} {o : Obj} {vs : Array Value} (I : Inv X pins σ H s) (e : s.heap.get? a = some o) (hc : o.cls = .ref C) (hd : o.dict = some d) (hf : o.data = .fields vs) (na : H a = none) (nL : a ≠ X.env.locals)
    (new : ∀ u, X.s_0.heap.get? a = some u → a ∈ X.ex) (np : ∀ p ∈ X.pn ++ pins, p.1 ≠ a) : Inv X pins σ (upd H a (exk a C d)) s where
  ok := I.ok
  os := I.os
  bare := I.bare
  base := ⟨I.base.keep, I.base.slot, fun b u q n hx => by
      have z : b ≠ a := fun z => by subst z; exact hx (new u q)
      rw [upd_ne z]; exact I.base.free b u q n hx, I.base.there,
    fun b xs q => by rw [upd_ne (ne_of_none (I.base.tups b xs q) na)]; exact I.base.tups b xs q,
    fun b u v q => by rw [upd_ne (ne_of_none (I.base.frzs b u v q) na)]; exact I.base.frzs b u v q,
    fun b ps q => by
      obtain ⟨more, z⟩ := I.base.tbls b ps q
      exact ⟨more, by rw [upd_ne (ne_of_none z na)]; exact z⟩⟩
  loc := I.loc
  cell := I.cell
  free := by rw [upd_ne (Ne.symm nL)]; exact I.free
  freeC := fun x c q => by
    have z : c ≠ a := fun z => by
      subst z
      obtain ⟨v, o', h1, h2⟩ := I.cell x c q
      rw [e] at h1
      cases h1
      rw [hf] at h2; cases h2
    rw [upd_ne z]; exact I.freeC x c q
  pin := fun p hp => by
    obtain ⟨h1, h2, h3, h4, h5⟩ := I.pin p hp
    exact ⟨h1, by rw [upd_ne (np p hp)]; exact h2, h3, h4, h5⟩
  hok := fun b u q => by
    by_cases z : b = a
    · subst z
      rw [upd_same] at q
      cases q
      exact exk_ok e hc hd hf
    · rw [upd_ne z] at q
      exact (I.hok b u q).stay (fun _ _ _ r => r) (fun c r => by rw [upd_ne (ne_of_none r na)]; exact r) fun c xs r => by rw [upd_ne (ne_of_none r na)]; exact r
  len := I.len
end
end DL

set_option Elab.async false
set_option linter.all false
set_option maxRecDepth 100000
set_option maxHeartbeats 4000000
/-! try .. except X as e -/
namespace DL
open PySem PySem.Spec PyProof.Rows L2
section
variable {X : Cx} {pins : List (Addr × Obj)} {σ : L2.St} {H : Hp} {s : Shared}
theorem suite0 (I : Inv X pins σ H s) (a : Addr) : Inv (X.suite a (X.pn ++ pins)) [] σ H s :=
  ⟨I.ok.suite _ _, I.os, I.bare, I.base, I.loc, I.cell, I.free, I.freeC, fun p hp => I.pin p (by rw [List.append_nil] at hp; exact hp), I.hok, I.len⟩
theorem unsuite0 {a : Addr} (I : Inv (X.suite a (X.pn ++ pins)) [] σ H s) (ok : X.Ok) : Inv X pins σ H s :=
  ⟨ok, I.os, I.bare, I.base, I.loc, I.cell, I.free, I.freeC, fun p hp => I.pin p (by rw [List.append_nil]; exact hp), I.hok, I.len⟩
end
/-- what the clause 'except x as n' wishes of an exception of the body: slot i is n's, the exception is tracked -/
def wTrk (K : PySem.W.Frag) (c : Value) (i : Nat) (ts : TS) (D : Ends) : WX := fun cls d σ H =>
  ∃ C dd, cls = .ref C ∧ d = some dd ∧ PySem.W.exmOne K cls c = some true ∧ ∀ a, H a = none →
    ts { nx := fun σ' H' => D.nx (σ'.set i none) H', rt := D.rt, bk := fun σ' H' => D.bk (σ'.set i none) H', ct := fun σ' H' => D.ct (σ'.set i none) H' } (σ.set i (some (.ref a))) (upd H a (exk a C dd))
section
variable {X : Cx} {x n : Str} {c : Value} {i : Nat} {body suite : List Stmt} {b₀ : Stmt} {np pos pos' : Pos} {tb : WX → TS} {ts : TS}
theorem ps_try_trk (hs : X.stack = X.env :: X.outer) (hf : X.env.frame = some X.env.locals) (hex : X.ex = []) (hN : X.N.Nodup) (hi : X.N[i]? = some n) (hln : X.env.kindOf n = some .local) (hc : Names X x c)
    (hb : ∀ (W : WX) (pn : List (Addr × Obj)) (xe : Value → Shared → Prop), Takes (X.tr pn xe) W → PassesOwn (model X.prog X.w) X.A X.env xe → PSs (X.tr pn xe) body (tb W))
    (hsu : ∀ (a : Addr) (pn : List (Addr × Obj)), PSs (X.suite a pn) (b₀ :: suite) ts) :
    PS X (.Try body [.ExceptHandler (some (.Name x np)) (some n) (b₀ :: suite) pos'] [] [] pos) (fun D σ H => tb (wTrk X.K c i ts D) D σ H) := by
  refine ⟨fun pins s σ H D I h => ?_⟩
  have ok := I.ok
  have hfr : X.A.frames = some (X.env :: X.outer) := by rw [ok.frames, hs]
  have hloc : Loc X.env.scope n := .inl hln
  refine wpAny_Try_except ?_
  refine wpAny_mono ((hb (wTrk X.K c i ts D) (X.pn ++ pins) (fun e s₁ => wpAny (model X.prog X.w) X.A (noteFrame e X.env) (fun _ s₂ => wpAny (model X.prog X.w) X.A (setFlight e none) (fun _ s₃ =>
    wpAny (model X.prog X.w) X.A (handleBy e X.env [.ExceptHandler (some (.Name x np)) (some n) (b₀ :: suite) pos']) (L2.SP X pins D) X.xe s₃) X.xe s₂) X.xe s₁) (fun u s' xx => ?_) PassesOwn.looking).run [] s σ H D (I.toTry _) h) (fun f s1 hsp => ?_) (fun e s1 he => he)
  · obtain ⟨a, B, sI, pins', σ', H', cls, d, rfl, J', nb, up, sky, na, os, ag, C, dd, rfl, rfl, hb1, hyes⟩ := xx
    have J : Inv X pins σ' H' sI := J'.ofTry ok
    have sky' : Sky B (X.env :: X.outer) a (Zc (.ref C) (some dd)) X.env.locals s'.heap := by rw [← hs]; exact sky
    show wpAny (model X.prog X.w) X.A (noteFrame (.ref a) X.env) _ _ _
    refine Sky.land Zc.steady hfr hf sky' fun h3 fl3 up3 => ?_
    have J3 : Inv X pins σ' H' { s' with heap := h3 } := J.landed nb fl3.1 (up.trans up3) os ag
    obtain ⟨oe3, vs3, he3, hz3, hd3⟩ := fl3.there
    have notFr : ∀ {h : Heap} {o : Obj} {vs : Array Value}, h.FunFrames B (X.env :: X.outer) → h.get? a = some o → o.data = .fields vs → a ∉ frs (X.env :: X.outer) := fun {h o vs} ff e dd hm => by
      obtain ⟨_, o', e', hnf⟩ := ff.mem hm
      rw [e] at e'; cases e'
      exact hnf _ dd
    have nfr := notFr fl3.2.2.1 he3 hd3
    have nL : a ≠ X.env.locals := fun z => nfr (List.mem_filterMap.mpr ⟨X.env, List.mem_cons_self, by rw [hf, z]⟩)
    have nI : sI.heap.get? a = none := by
      cases q : sI.heap.get? a with
      | none => rfl
      | some o =>
        have z := nb a o q (by rw [hs]; exact nfr)
        rw [fl3.2.1] at z; cases z
    have n0 : ∀ u, X.s_0.heap.get? a = some u → a ∈ X.ex := fun u q => by
      obtain ⟨o', z⟩ := J.base.there a u q (by rw [hex]; intro z; cases z)
      rw [nI] at z; cases z
    have nP : ∀ p ∈ X.pn ++ pins, p.1 ≠ a := fun p hp z => by
      obtain ⟨e, _⟩ := J.pin p hp
      rw [z, nI] at e; cases e
    have S3 := suite0 J3 a
    refine wpAny_handleBy_cons (codeAny_handlers_test ?_) (by intro q; cases q)
    have LT : PySem.W.Looks (model X.prog X.w) h3 (typeOf (.ref a)) (.ref C) := fun A Q E s k q => wpAny_typeOf_ref (k _ _ he3) (by rw [hz3.1]; exact q)
    have LM := PySem.W.exm_one (M := model X.prog X.w) (J3.kIn) LT hb1
    have test : ∀ {Q : Value → Shared → Prop} {E : Value → Shared → Prop}, Q c { s' with heap := h3 } → wpAny (model X.prog X.w) (X.A.mark (some (.ref a))) (eval (.Name x np) X.env) Q E { s' with heap := h3 } := fun {Q E} q => by
      obtain ⟨hg, hdbg, hm | ⟨hm, hv, hnn⟩⟩ := hc
      · exact ld_glob (X := X.suite a (X.pn ++ pins)) S3 hg hm q hdbg
      · exact ld_blt (X := X.suite a (X.pn ++ pins)) S3 hg hm hv q hnn hdbg
    refine test (LM.here ?_)
    refine codeAny_handlers_suite_as ?_
    refine HandSPX.lands_againZ fl3 fun h4 fl4 up4 => ?_
    have J4 : Inv X pins σ' H' { s' with heap := h4 } := J.landed nb fl4.1 ((up.trans up3).trans up4) os ag
    obtain ⟨oe4, vs4, he4, hz4, hd4⟩ := fl4.there
    have S4 : Inv (X.suite a (X.pn ++ pins)) [] σ' (upd H' a (exk a C dd)) { s' with heap := h4 } :=
      suite0 (Inv.track J4 he4 hz4.1 hz4.2 hd4 na nL n0 nP) a
    refine store_ok (X := X.suite a (X.pn ++ pins)) (v := .ref a) S4 hN hi hloc rfl (fun s5 S5 => ?_) (.inr hln)
    refine wpAny_mono ((hsu a (X.pn ++ pins)).run [] s5 _ _ _ S5 (hyes a na)) (fun f s6 hsp => ?_) (fun _ _ z => False.elim z)
    have end_ : ∀ {σ6 : L2.St} {H6 : Hp} {Q : Shared → Prop}, Inv (X.suite a (X.pn ++ pins)) [] σ6 H6 s6 → (∀ s7, Inv X pins (σ6.set i none) H6 s7 → Q s7) →
        wpAny (model X.prog X.w) X.A (do bindName X.env n .none; unbindBehindTheSuite X.env n pos') (fun _ s7 => Q s7) X.xe s6 := fun {σ6 H6 Q} S6 hq => gone_ok (unsuite0 S6 ok) hN hi hln hq
    cases f with
    | next =>
      obtain ⟨σ6, H6, S6, q6⟩ := hsp
      exact end_ S6 fun s7 J7 => ⟨_, _, J7, q6⟩
    | brk =>
      obtain ⟨σ6, H6, S6, q6⟩ := hsp
      exact end_ S6 fun s7 J7 => ⟨_, _, J7, q6⟩
    | cont =>
      obtain ⟨σ6, H6, S6, q6⟩ := hsp
      exact end_ S6 fun s7 J7 => ⟨_, _, J7, q6⟩
    | ret u =>
      obtain ⟨v6, σ6, H6, S6, r6, q6⟩ := hsp
      exact end_ S6 fun s7 J7 => ⟨_, _, _, J7, r6, q6⟩
  · cases f with
    | next =>
      obtain ⟨σ', H', J', q⟩ := hsp
      exact wpAny_execs_nil ⟨σ', H', J'.ofTry ok, q⟩
    | brk =>
      obtain ⟨σ', H', J', q⟩ := hsp
      exact ⟨σ', H', J'.ofTry ok, q⟩
    | cont =>
      obtain ⟨σ', H', J', q⟩ := hsp
      exact ⟨σ', H', J'.ofTry ok, q⟩
    | ret u =>
      obtain ⟨v, σ', H', J', r, q⟩ := hsp
      exact ⟨v, σ', H', J'.ofTry ok, r, q⟩
end
/-! ### the mirror -/
def kTry (i : Nat) : Option Fl → Option Fl
  | some (.nx Γ) => some (.nx (clearG Γ [i]))
  | some (.bk Γ) => some (.bk (clearG Γ [i]))
  | some (.ct Γ) => some (.ct (clearG Γ [i]))
  | some (.rt c Γ) => some (.rt c Γ)
  | _ => none
/-- try: B / except C as n: S, with n in slot i -/
def sTry (C : Addr) (i : Nat) (B S : GS) : GS := fun Γ => match B Γ with
  | some (.xc x Γ1) => if x.cls = C then match setC i (.sh (.node (.exc C x.ns) x.ds)) Γ1 with
      | some Γ2 => kTry i (S Γ2)
      | none => none
    else none
  | o => o
def WNo : WX := fun _ _ _ _ => False
section
variable {X : Cx} {W : WX} {xn n : Str} {C : Addr} {i : Nat} {body suite : List Stmt} {b₀ : Stmt} {np pos pos' : Pos} {B S : GS} {k : Nat}
end
end DL

set_option Elab.async false
set_option linter.all false
set_option maxRecDepth 100000
set_option maxHeartbeats 4000000
/-! a caught exception: its fields, its class -/
namespace DL
open PySem PySem.Spec PyProof.Rows L2
/-- what isinstance asks of an exception class of the program -/
structure XIs (K : PySem.W.Frag) (C : Addr) : Prop where
  hcl : (PySem.W.clsIn K C).isSome = true
  ga : PySem.W.findIn K (.ref C) "__getattribute__" = some (some (.builtin "BaseException.__getattribute__"))
  gg : PySem.W.findIn K (.ref C) "__getattr__" = some none
  exC : PySem.W.subIn K (.ref C) (.type "BaseException") = some true
  ha : PySem.W.findIn K (.ref C) "__class__" = some (some (.builtin "object.__class__"))
  hn : PySem.W.specialIn K (.builtin "object.__class__") "__get__" = some (some (.builtin "getset_descriptor.__get__"))
  ht : PySem.W.takesIn K (.builtin "object.__class__") = some true
  hm : PySem.W.mroIn K C (.type "object") = some true
theorem exk_inst {P : Program} {w : World} {K : PySem.W.Frag} {H : Hp} {h : Heap} {a C d : Addr} {fs : List (Str × V)} (hok : HOk P w H h) (e : H a = some (exk a C d)) (e2 : H d = some (.xd fs)) :
    ∃ o od, PySem.W.InstAt h a o C (some od) ∧ ∃ m : Str → Option Value, (∀ name, PySem.W.lookIn name od = some (m name)) ∧ ∀ f, RelO (fs.lookup f) (m f) := by
  obtain ⟨o, vs, h1, h2, h3, h4⟩ := exk_at hok e
  have hx : ObjOk P w H h d (.xd fs) := hok d _ e2
  obtain ⟨mA, hns, hr⟩ := hx
  obtain ⟨od, ho, hl⟩ := lookIn_ns hns
  exact ⟨o, od, ⟨h1, h2, by unfold PySem.W.notCls; rw [h4] <;> rfl, by rw [h3]; exact ho⟩, mA, hl, hr⟩
section
variable {X : Cx} {W : WX} {e : Expr} {nm : Str} {pos p : Pos} {A : EF} {C : Addr} {te : TE}
def rXf (K : PySem.W.Frag) (C : Addr) (nm : Str) (x : V) (H1 : Hp) (Q : VK) : Prop := ∃ a d fs v, x = .ref a ∧ H1 a = some (exk a C d) ∧ H1 d = some (.xd fs) ∧ fs.lookup nm = some v ∧ Q v H1
theorem pe_xfld (T : L2.XfC X.K C) (hno : PySem.W.findIn X.K (.ref C) nm = some none) (he : PE X e te) (hb : attributeBase e nm X.env (eval e X.env) = eval e X.env := by rfl) :
    PE X (.Attribute e nm pos) (fun σ H Q => te σ H fun x H1 => rXf X.K C nm x H1 Q) := by
  refine ⟨fun pins s σ H Q I h => ?_⟩
  refine attr_of hb (thn (he.run pins s σ H _ I h) fun u s1 hh => ?_)
  obtain ⟨x, H1, I1, rx, a, d, fs, v, ex, ea, ed, l, q⟩ := hh
  subst ex
  obtain rfl : u = Value.ref a := rx
  obtain ⟨o, od, J, m, hl, hr⟩ := exk_inst (K := X.K) I1.hok ea ed
  obtain ⟨u, hu, ru⟩ := RelO.some_of (v := v) (o := m nm) (by rw [← l]; exact hr nm)
  exact HandSPX.exc_get I1.kIn J T.ga T.gg T.exC (PySem.W.findObj_own T.hdC hno rfl (by rw [hl, hu])) (handed_of ru) ⟨v, H1, I1.tok _, ru, q⟩
def gXf (C : Addr) (nm : Str) : D → Option Out
  | .node (.exc C' ns) ds => if C' = C then (match fldD nm ns ds with
    | some d => some (.old d)
    | none => none) else none
  | _ => none
theorem s1Xf {K : PySem.W.Frag} {C : Addr} {nm : Str} : S1 K (fun x H1 Q => rXf K C nm x H1 Q) (gXf C nm) := by
  intro M H x d o Q s rx hg q
  unfold gXf at hg
  split at hg
  · rename_i C' ns ds
    split at hg
    · rename_i hC
      subst hC
      split at hg
      · rename_i e he
        cases hg
        obtain ⟨a, xs, rfl, ⟨_, d, h1, h2⟩, rs⟩ := rx
        obtain ⟨v, h3, h4⟩ := fld_of rs he
        exact ⟨a, d, _, v, rfl, h1, h2, h3, q v h4⟩
      · cases hg
    · cases hg
  · cases hg
theorem de_xfld (T : L2.XfC X.K C) (hno : PySem.W.findIn X.K (.ref C) nm = some none) (he : DE X W e A) (hb : attributeBase e nm X.env (eval e X.env) = eval e X.env := by rfl) : DE X W (.Attribute e nm pos) (eUn (gXf C nm) A) :=
  PEimp (pe_xfld T hno he hb) fun σ H Q h => un_core s1Xf h
theorem call_isX {T : String} {b : Bool} (Z : XIs X.K C) (hk : PySem.W.kitOne X.K (.ref C) (.type T) = some b) : CallR X (.builtin "isinstance") (fun xs H Q => ∃ a d fs, xs = [.ref a, .ty T] ∧ H a = some (exk a C d) ∧ H d = some (.xd fs) ∧ Q (.bl b) H) := by
  intro pins s σ H xs us Q I r h
  obtain ⟨a, d, fs, rfl, ea, ed, q⟩ := h
  obtain ⟨u1, u2, rfl, r1, r2⟩ := vals2 r
  cases r1
  cases r2
  obtain ⟨o, od, J, _⟩ := exk_inst (K := X.K) I.hok ea ed
  exact PySem.W.kia_one (PySem.W.kitx_exc Z.hcl Z.ga Z.gg Z.exC Z.ha Z.hn Z.ht Z.hm) I.kIn J hk (fun z => nomatch z) fun tk => ⟨.bl b, H, I.kept (t' := tk) fun _ _ z => z, rfl, q⟩
def gIsX (C : Addr) (b : Bool) : D → Option Out
  | .node (.exc C' _) _ => if C' = C then some (.old (.leaf (.bl b))) else none
  | _ => none
theorem de_isX {T : String} {b : Bool} {t1 : Expr} (Z : XIs X.K C) (hk : PySem.W.kitOne X.K (.ref C) (.type T) = some b) (he : DE X W e A) (h1 : PE X t1 (tC (.ty T))) (hm : X.mg "isinstance" = none) (hg : Gl X "isinstance" := by rfl)
    (hs1 : starEach [e, t1] X.env = (false, eval e X.env) :: starEach [t1] X.env := by rfl) (hs2 : starEach [t1] X.env = (false, eval t1 X.env) :: starEach [] X.env := by rfl)
    (hpl : (backTo pos (starEach [t1] X.env)).any (·.1) = false := by rfl) :
    DE X W (.Call (.Name "isinstance" p) [e, t1] [] pos) (eUn (gIsX C b) A) := by
  refine PEimp (pe_callB (call_isX Z hk) hg hm PyProof.Rows.boot_isinstance (pa_cons he (pa_cons h1 pa_nil hs2) hs1) (by decide) (by decide) hs1 hpl) fun σ H Q h => ?_
  obtain ⟨f, M, τ, T', Γ, r, Γ', G, hF, post⟩ := h
  refine run1 G hF post fun c Γ1 v H1 M1 G1 e => ?_
  split at e
  · rename_i d hd
    obtain ⟨o', ho, hk, rfl, rfl⟩ := eOut_some e
    have rv := G1.look (k := .inl 0) rfl hd
    unfold gIsX at ho
    split at ho
    · rename_i C' ns ds
      split at ho
      · rename_i hC
        subst hC
        cases ho
        obtain ⟨a, xs, rfl, ⟨_, d, e1, e2⟩, rs⟩ := rv
        exact ⟨a, d, _, rfl, e1, e2, post _ _ M1 (G1.pop.pushSh (by unfold Rep; rfl))⟩
      · cases ho
    · cases ho
  · cases e
end
end DL

set_option Elab.async false
set_option linter.all false
set_option maxRecDepth 100000
set_option maxHeartbeats 1000000
/-! raise, try, fields of what was caught: run -/
namespace DL
open PySem PySem.Spec PyProof.Rows L2
section
variable {Γ : Gam} {N : Gam → Prop} {R : Cell → Gam → Prop} {Bk Ct : Gam → Prop} {X : Exc → Gam → Prop} {C : Addr} {Q : Cell → Gam → Prop}
theorem evRaise {fs : List Str} {L : AF} (h : evA L Γ (fun cs Γ1 => evSome (shs cs) fun ds => ds.length = fs.length ∧ X ⟨C, fs, ds⟩ Γ1) X) : evS (sRaise C fs L) Γ N R Bk Ct X := by
  unfold sRaise
  refine evLS_bind ?_
  obtain ⟨r, Γ1, e, q⟩ := h
  cases r with
  | val cs =>
    obtain ⟨ds, e1, e2, q2⟩ := q
    exact ⟨.val cs, Γ1, e, .xc ⟨C, fs, ds⟩ Γ1, by unfold kRaise; rw [e1]; dsimp only; rw [if_pos e2], q2⟩
  | exc x => exact ⟨.exc x, Γ1, e, q⟩
theorem evTry {i : Nat} {B S : GS} (h : evS B Γ N R Bk Ct (fun x Γ1 => x.cls = C ∧ evSome (setC i (.sh (.node (.exc C x.ns) x.ds)) Γ1) fun Γ2 =>
      evS S Γ2 (fun Γ3 => N (clearG Γ3 [i])) R (fun Γ3 => Bk (clearG Γ3 [i])) (fun Γ3 => Ct (clearG Γ3 [i])) (fun _ _ => False))) : evS (sTry C i B S) Γ N R Bk Ct X := by
  obtain ⟨o, e, q⟩ := h
  unfold evS sTry
  rw [e]
  cases o with
  | nx Γ1 => exact ⟨_, rfl, q⟩
  | rt c Γ1 => exact ⟨_, rfl, q⟩
  | bk Γ1 => exact ⟨_, rfl, q⟩
  | ct Γ1 => exact ⟨_, rfl, q⟩
  | xc x Γ1 =>
    obtain ⟨hc, Γ2, e2, o2, e3, q3⟩ := q
    dsimp only
    rw [if_pos hc, e2]
    dsimp only
    rw [e3]
    cases o2 with
    | nx Γ3 => exact ⟨_, rfl, q3⟩
    | rt c Γ3 => exact ⟨_, rfl, q3⟩
    | bk Γ3 => exact ⟨_, rfl, q3⟩
    | ct Γ3 => exact ⟨_, rfl, q3⟩
    | xc x Γ3 => exact q3.elim
theorem vXf {nm : Str} {ns : List Str} {ds : List D} (d : D) (h : fldD nm ns ds = some d) (q : Q (.sh d) Γ) : evG (gXf C nm (.node (.exc C ns) ds)) Γ Q := ⟨.old d, by unfold gXf; dsimp only; rw [if_pos rfl, h], rfl, q⟩
theorem vIsX {b : Bool} {ns : List Str} {ds : List D} (q : Q (.sh (.leaf (.bl b))) Γ) : evG (gIsX C b (.node (.exc C ns) ds)) Γ Q := ⟨.old (.leaf (.bl b)), by unfold gIsX; dsimp only; rw [if_pos rfl], rfl, q⟩
end
end DL

set_option Elab.async false
set_option linter.all false
set_option maxRecDepth 100000
set_option maxHeartbeats 1000000
/-! the facts of an own exception class, from the written part -/
namespace DL
open PySem PySem.Spec PyProof.Rows L2
open PySem.DLX (XTxt Tl nA nB nS)
open PySem.W
/-- the text of __init__ -/
def XArgs (st : Stmt) (fs : List Str) : Prop := ∃ (p0 : Pos) (ps : List Pos) (qs : List (Pos × Pos × Pos × Pos)), defArgs st = nA fs p0 ps ∧ defBody st = ((fs.zip qs).map fun r => nB r.1 r.2) ∧ defScope st = nS fs ∧ ps.length = fs.length ∧ qs.length = fs.length
theorem xtxt_mk {K : PySem.W.Frag} {mg : Str → Option Value} {x : Str} {C fI : Addr} {B newId initId : String} {bm : List Value} {fs : List Str} {st : Stmt}
    {nm q : Str} {N : Addr} {bs : List Value} {sn : List Str} {sub : List Value} {ab : Bool} {col : Option Bool} {dd : Option Addr} {k0 k1 k2 k3 k5 : Option Value}
    {od an : Option Addr} {sl : Array (Option Value)} {oc dc pm cd ct : Value} {qn : Str}
    (gC : mg x = some (.ref C)) (base : ExcBaseFacts B newId initId bm) (tl : Tl bm) (cls : K.lookup C = some (excClassObj nm q C N bs bm true sn sub ab col dd k0 k1 k2 k3 k5 newId))
    (sa : findIn K (.ref C) "__setattr__" = some (some (.builtin "object.__setattr__"))) (ga : findIn K (.ref C) "__getattribute__" = some (some (.builtin "BaseException.__getattribute__")))
    (gg : findIn K (.ref C) "__getattr__" = some none) (noN : ∀ f ∈ fs, findIn K (.ref C) f = some none) (iC : findIn K (.ref C) "__init__" = some (some (.ref fI)))
    (tC : typeIn K (.ref fI) = some (.type "function")) (kC : keepIn K (.ref C) = true) (exC : subIn K (.ref C) (.type "BaseException") = some true) (tyC : typeIn K (.ref C) = some (.type "type"))
    (hdC : hasDictIn K C = true) (su : subIn K (.ref C) (.ref C) = some true) (A : XArgs st fs)
    (l : K.lookup fI = some ⟨oc, od, .func (fnOf "__init__" qn (defArgs st) (defBody st) (defScope st) .none .none dc pm an cd ct), sl⟩) (c : codeIn K cd qn = true) : XTxt K mg x C fI B newId initId bm fs where
  gC := gC
  base := base
  tl := tl
  cls := ⟨_, _, _, _, _, _, _, _, _, _, _, _, _, _, cls⟩
  sa := sa
  ga := ga
  gg := gg
  noN := noN
  iC := iC
  tC := tC
  kC := kC
  exC := exC
  tyC := tyC
  hdC := hdC
  te := exm_ref exC hdC tyC su
  fn := by
    obtain ⟨p0, ps, qs, e1, e2, e3, e4, e5⟩ := A
    refine ⟨oc, od, dc, pm, an, cd, ct, sl, qn, p0, ps, qs, ?_, c, e4, e5⟩
    rw [← e1, ← e2, ← e3]
    exact l
theorem xis_mk {K : PySem.W.Frag} {C : Addr} (ga : findIn K (.ref C) "__getattribute__" = some (some (.builtin "BaseException.__getattribute__")))
    (gg : findIn K (.ref C) "__getattr__" = some none) (exC : subIn K (.ref C) (.type "BaseException") = some true) (hdC : hasDictIn K C = true)
    (ha : findIn K (.ref C) "__class__" = some (some (.builtin "object.__class__"))) (hn : specialIn K (.builtin "object.__class__") "__get__" = some (some (.builtin "getset_descriptor.__get__")))
    (ht : takesIn K (.builtin "object.__class__") = some true) (hm : mroIn K C (.type "object") = some true) : XIs K C where
  hcl := by obtain ⟨cd, hc, _⟩ := any_some hdC; rw [hc]; rfl
  ga := ga
  gg := gg
  exC := exC
  ha := ha
  hn := hn
  ht := ht
  hm := hm
theorem xk_mk {K : PySem.W.Frag} {C : Addr} {B : String} {b : Bool} (h : subIn K (.ref C) (.type B) = some b) (k : kitMeta B = true) : kitOne K (.ref C) (.type B) = some b := by
  show (if (Value.ref C == Value.type B) = true then some true else kitCls K (.ref C) (.type B)) = some b
  rw [if_neg (by intro z; cases (beq_iff_eq.mp z))]
  show (if kitMeta B = true then subIn K (.ref C) (.type B) else none) = some b
  rw [if_pos k, h]
theorem XTxt.xf {K : PySem.W.Frag} {mg : Str → Option Value} {x : Str} {C fI : Addr} {B newId initId : String} {bm : List Value} {fs : List Str} (T : XTxt K mg x C fI B newId initId bm fs) : L2.XfC K C := ⟨T.ga, T.gg, T.exC, T.hdC⟩
end DL

set_option Elab.async false
set_option linter.all false
set_option maxRecDepth 100000
set_option maxHeartbeats 4000000
/-! reversed(..) as a walk, a written table of texts, tuple * int -/
namespace DL
open PySem PySem.Spec PyProof.Rows L2
/-! ### reversed -/
section
variable {K : PySem.W.Frag} {M : Hp}
end
section
variable {X : Cx} {W : WX} {pos p : Pos} {e tg : Expr} {A B : EF}
/-! ### a written table of texts -/
def KTab (K : PySem.W.Frag) (w : World) (p : Addr) (tab : List (Str × Str)) : Prop := ∃ es n, K.lookup p = some ⟨.type "dict", none, .dict es n, #[]⟩ ∧ PySem.W.KeysLit w.params es.toList ∧ ∀ q ∈ tab, ∃ t, PySem.W.nsIn K p q.1 = some (some (.str q.2 t))
theorem lookup_mem : ∀ {tab : List (Str × Str)} {z s : Str}, tab.lookup z = some s → (z, s) ∈ tab
  | [], _, _, h => by cases h
  | (k, v) :: r, z, s, h => by
    rw [List.lookup_cons] at h
    cases e : z == k with
    | true => rw [e] at h; cases h; rw [beq_iff_eq.mp e]; exact List.mem_cons_self
    | false => rw [e] at h; exact List.mem_cons_of_mem _ (lookup_mem h)
theorem KTab.get {K : PySem.W.Frag} {w : World} {p : Addr} {tab : List (Str × Str)} (h : KTab K w p tab) {z s : Str} (e : tab.lookup z = some s) : KDct K w p z (.str s) := by
  obtain ⟨es, n, h1, h2, h3⟩ := h
  obtain ⟨t, h4⟩ := h3 _ (lookup_mem e)
  exact ⟨es, n, _, h1, h2, h4, t, rfl⟩
end
end DL

set_option Elab.async false
set_option linter.all false
set_option maxRecDepth 100000
set_option maxHeartbeats 4000000
/-! tuple * int -/
namespace DL
open PySem PySem.Spec PyProof.Rows L2
section
variable {X : Cx}
end
end DL
namespace DL
open PySem PySem.Spec PyProof.Rows L2
end DL

set_option Elab.async false
set_option linter.all false
set_option maxRecDepth 100000
set_option maxHeartbeats 4000000
/-! list.extend(tuple) -/
namespace DL
open PySem PySem.Spec PyProof.Rows L2
theorem MtM.or {X : Cx} {id : String} {r r' : V → List V → Hp → VK → Prop} (h : MtM X id r) (h' : MtM X id r') : MtM X id (fun x xs H Q => r x xs H Q ∨ r' x xs H Q) := fun pins s σ H x xs v us Q I rx rv q => q.elim (h pins s σ H x xs v us Q I rx rv) (h' pins s σ H x xs v us Q I rx rv)
section
variable {Γ : Gam} {Q : Cell → Gam → Prop} {xs : List D}
end
end DL

set_option Elab.async false
set_option linter.all false
set_option maxRecDepth 100000
set_option maxHeartbeats 1000000
/-! a call whose last argument is a new object that the callee changes -/
namespace DL
open PySem PySem.Spec PyProof.Rows L2
section
variable {K : PySem.W.Frag} {f : Frm} {M H : Hp} {τ : List V} {T : List Cell} {σ : L2.St} {Γ : Gam} {v : V} {c : Cell} {x : Option V}
theorem ent_ext {k : Ix} {u : V} {e : Cell} (sl : σ.length = Γ.length) : ent τ T (σ ++ [none]) (Γ ++ [none]) k = some (u, e) ↔ ent τ T σ Γ k = some (u, e) := by
  match k with
  | .inl j => exact Iff.rfl
  | .inr i =>
    rw [ent_slot, ent_slot]
    by_cases hi : i < σ.length
    · rw [List.getElem?_append_left hi, List.getElem?_append_left (by omega)]
    · constructor
      · rintro ⟨h1, h2⟩
        rw [List.getElem?_append_right (by omega)] at h1
        cases hz : i - σ.length with
        | zero => rw [hz] at h1; cases h1
        | succ z => rw [hz] at h1; cases h1
      · rintro ⟨h1, h2⟩
        rw [List.getElem?_eq_none (by omega)] at h1
        cases h1
theorem Good.ext (G : Good K f M H τ T σ Γ) : Good K f M H τ T (σ ++ [none]) (Γ ++ [none]) where
  bys := G.bys
  sub := G.sub
  m0 := G.m0
  tabs := G.tabs
  new := G.new
  tl := G.tl
  sl := by rw [List.length_append, List.length_append, G.sl]; rfl
  has := fun i c e => by
    by_cases hi : i < Γ.length
    · rw [List.getElem?_append_left hi] at e
      obtain ⟨v, h⟩ := G.has i c e
      exact ⟨v, by rw [List.getElem?_append_left (by rw [G.sl]; exact hi)]; exact h⟩
    · rw [List.getElem?_append_right (by omega)] at e
      cases hz : i - Γ.length with
      | zero => rw [hz] at e; cases e
      | succ z => rw [hz] at e; cases e
  ok := fun k u e q => by
    have h := G.ok k u e ((ent_ext G.sl).mp q)
    cases e with
    | sh d => exact h
    | ow t ds => exact h
    | rf t ds => exact h
    | on t os => exact h
    | br i =>
      have h' : σ[i]? = some (some u) := h
      show (σ ++ [none])[i]? = some (some u)
      rw [List.getElem?_append_left (by
        obtain ⟨hi, _⟩ := List.getElem?_eq_some_iff.mp h'
        exact hi)]
      exact h'
  inj := fun k k' u e u' e' a q q' r r' => G.inj k k' u e u' e' a ((ent_ext G.sl).mp q) ((ent_ext G.sl).mp q') r r'
  nbr := fun i j e => by
    by_cases hi : i < Γ.length
    · rw [List.getElem?_append_left hi] at e
      exact G.nbr i j e
    · rw [List.getElem?_append_right (by omega)] at e
      cases hz : i - Γ.length with
      | zero => rw [hz] at e; cases e
      | succ z => rw [hz] at e; cases e
  args := fun i t ds e => by
    by_cases hi : i < Γ.length
    · rw [List.getElem?_append_left hi] at e
      rw [List.getElem?_append_left (by rw [G.sl]; exact hi)]
      exact G.args i t ds e
    · rw [List.getElem?_append_right (by omega)] at e
      cases hz : i - Γ.length with
      | zero => rw [hz] at e; cases e
      | succ z => rw [hz] at e; cases e
end
/-- the last argument, a new object, apart -/
def tmpL (cs : List Cell) : Option (List Cell × Tag × List D) := match cs.reverse with
  | .ow t ds :: r => some (r.reverse, t, ds)
  | _ => none
/-- f(e, .., {}) -/
def eCallT (n : Nat) (m : MF) (L : AF) : EF := bindL L fun cs Γ => if cs.length = n then (match tmpL cs with
  | some (cs0, t, ds) => (match argsC (Γ ++ [some (.ow t ds)]) (cs0 ++ [.br Γ.length]) with
    | some (T, b) => (match m T with
      | some (r, T') => (match putB (Γ ++ [some (.ow t ds)]) b T' with
        | some Γ' => (match r with
          | .val c => if isSolid c then some (.val c, Γ'.take Γ.length) else none
          | .exc x => some (.exc x, Γ'.take Γ.length))
        | none => none)
      | none => none)
    | none => none)
  | none => none) else none
section
variable {X : Cx} {W : WX} {m : MF}
variable {k : Nat} {f : Addr} {fd : FuncData} {ps : List Str} {L : AF} {x : Str} {e : Expr} {es : List Expr} {p pos : Pos}
end
theorem evCallT {n : Nat} {m : MF} {L : AF} {Γ : Gam} {Q : Cell → Gam → Prop} {X : Exc → Gam → Prop} (h : evA L Γ (fun cs Γ1 => cs.length = n ∧ evSome (tmpL cs) fun w => evSome (argsC (Γ1 ++ [some (.ow w.2.1 w.2.2)]) (w.1 ++ [.br Γ1.length])) fun p =>
      evM m p.1 (fun c T' => evSome (putBN (Γ1 ++ [some (.ow w.2.1 w.2.2)]) p.2 T') fun Γ' => isSolid c = true ∧ Q c (Γ'.take Γ1.length)) (fun x T' => evSome (putBN (Γ1 ++ [some (.ow w.2.1 w.2.2)]) p.2 T') fun Γ' => X x (Γ'.take Γ1.length))) X) : evE (eCallT n m L) Γ Q X := by
  unfold eCallT
  refine evL_bind ?_
  obtain ⟨r, Γ1, e, q⟩ := h
  cases r with
  | exc x => exact ⟨.exc x, Γ1, e, q⟩
  | val cs =>
    obtain ⟨hn, ⟨cs0, t, ds⟩, e1, ⟨T, b⟩, e2, r2, T', e3, q⟩ := q
    refine ⟨.val cs, Γ1, e, ?_⟩
    dsimp only at e2 e3 q ⊢
    unfold evE
    dsimp only
    rw [if_pos hn, e1]
    dsimp only
    rw [e2]
    dsimp only
    rw [e3]
    dsimp only
    cases r2 with
    | val c =>
      obtain ⟨Γ2, e4, sc, q⟩ := q
      rw [putBN_putB e4]
      dsimp only
      rw [if_pos sc]
      exact ⟨.val c, _, rfl, q⟩
    | exc x =>
      obtain ⟨Γ2, e4, q⟩ := q
      rw [putBN_putB e4]
      exact ⟨.exc x, _, rfl, q⟩
end DL

set_option Elab.async false
set_option linter.all false
set_option maxRecDepth 100000
set_option maxHeartbeats 1000000
/-! a walk over a list that is lent -/
namespace DL
open PySem PySem.Spec PyProof.Rows L2
def lentL (Γ : Gam) (i : Nat) : Option (List D) := match Γ[i]? with
  | some (some (.rf .lst ds)) => some ds
  | _ => none
theorem lentL_some {Γ : Gam} {i : Nat} {ds : List D} (h : lentL Γ i = some ds) : Γ[i]? = some (some (.rf .lst ds)) := by
  unfold lentL at h
  split at h
  · rename_i ds' e; cases h; exact e
  · cases h
theorem Good.lent {K : PySem.W.Frag} {f : Frm} {M H : Hp} {τ : List V} {T : List Cell} {σ : L2.St} {Γ : Gam} {i : Nat} {ds : List D} (G : Good K f M H τ T σ Γ) (h : lentL Γ i = some ds) : ∃ a xs, σ[i]? = some (some (.ref a)) ∧ f.vs[i]? = some (.ref a) ∧ SqL K H a xs ∧ Reps K M xs ds := by
  have e := lentL_some h
  obtain ⟨v, hs⟩ := G.has i _ e
  obtain ⟨a, xs, rfl, h1, h2, _⟩ := G.ok (.inr i) v _ (ent_slot.mpr ⟨hs, e⟩)
  have ha := G.args i _ _ e
  rw [hs] at ha
  exact ⟨a, xs, hs, (Option.some.inj ha).symm, SqL.of (show H a = some (.lst xs) from h1), h2⟩
section
variable {X : Cx} {W : WX}
end
section
variable {i : Nat} {P : D → Gam → Option Gam} {B : GS} {N : Gam → Prop} {R : Cell → Gam → Prop} {Bk Ct : Gam → Prop} {X : Exc → Gam → Prop} {Γ : Gam}
end
end DL

set_option Elab.async false
set_option linter.all false
set_option maxRecDepth 100000
set_option maxHeartbeats 4000000
/-! sorted(set(list of ints)): set of a list goes as HandS/SetFor has it for tuples -/
namespace L2
open PySem PySem.Spec PyProof.Rows PySem.Calls
section
variable {P : Program} {w : World} {A : Around} {E : Value → Shared → Prop} {s : Shared}
end
end L2
namespace DL
open PySem PySem.Spec PyProof.Rows L2
/-! ascending, each once -/
section
variable {X : Cx} {W : WX}
end
end DL

set_option Elab.async false
set_option linter.all false
set_option maxRecDepth 100000
set_option maxHeartbeats 2000000
/-! sorted(xs), xs pairs of ints that ascend already -/
namespace DL
open PySem PySem.Spec PyProof.Rows L2
def AllT (T : V → List Int → Prop) : List V → List (List Int) → Prop
  | [], [] => True
  | x :: xs, p :: ps => T x p ∧ AllT T xs ps
  | _, _ => False
theorem AllT.mem {T : V → List Int → Prop} {y : V} : ∀ {xs : List V} {ps : List (List Int)}, AllT T xs ps → y ∈ xs → ∃ p ∈ ps, T y p
  | x :: xs, p :: ps, h, m => by
    rcases List.mem_cons.mp m with e | m
    · exact ⟨p, List.mem_cons_self, e ▸ h.1⟩
    · obtain ⟨q, hq, ht⟩ := AllT.mem h.2 m
      exact ⟨q, List.mem_cons_of_mem _ hq, ht⟩
theorem AllT.len {T : V → List Int → Prop} : ∀ {xs : List V} {ps : List (List Int)}, AllT T xs ps → xs.length = ps.length
  | [], [], _ => rfl
  | x :: xs, p :: ps, h => by rw [List.length_cons, List.length_cons, AllT.len h.2]
def ltP (p q : Int × Int) : Prop := p.1 < q.1 ∨ (p.1 = q.1 ∧ p.2 < q.2)
instance (p q : Int × Int) : Decidable (ltP p q) := by unfold ltP; exact inferInstance
section
variable {X : Cx} {W : WX}
end
end DL

set_option Elab.async false
set_option linter.all false
set_option maxRecDepth 100000
set_option maxHeartbeats 2000000
/-! len(set(xs)), xs pairs of ints that differ -/
namespace L2
open PySem PySem.Spec PyProof.Rows
section
variable {X : Cx}
end
end L2
namespace DL
open PySem PySem.Spec PyProof.Rows L2
section
variable {X : Cx} {W : WX}
end
end DL

set_option Elab.async false
set_option linter.all false
set_option maxRecDepth 100000
set_option maxHeartbeats 2000000
/-! enumerate(xs), xs a list, as a walk -/
namespace DL
open PySem PySem.Spec PyProof.Rows L2
section
variable {X : Cx} {W : WX} {p pos tpos : Pos} {elts : List Expr} {kk : Nat} {L : AF}
end
end DL

set_option Elab.async false
set_option linter.all false
set_option maxRecDepth 100000
set_option maxHeartbeats 2000000
/-! d.get(k, x): k an int or a text, x a scalar -/
namespace DL
open PySem PySem.Spec PyProof.Rows L2
section
variable {X : Cx} {W : WX} {A B C : EF}
end
/-! run -/
section
variable {Γ : Gam} {X : Exc → Gam → Prop}
end
end DL

set_option Elab.async false
set_option linter.all false
set_option maxRecDepth 100000
set_option maxHeartbeats 2000000
/-! for k, v in d.items(): the dict of a name, locked while the loop runs -/
namespace DL
open PySem PySem.Spec PyProof.Rows L2
def kyD : Key → D
  | .inl i => .leaf (.int i)
  | .inr x => .leaf (.str x)
theorem kyD_rep {K : PySem.W.Frag} {M : Hp} (k : Key) : Rep K M (kV k) (kyD k) := by
  cases k <;> (unfold kyD Rep; rfl)
section
variable {X : Cx} {W : WX}
end
end DL

set_option Elab.async false
set_option linter.all false
set_option maxRecDepth 100000
set_option maxHeartbeats 3200000
/-! sorted(d) of a dict with int keys, any number of them; the run rules of items walks -/
namespace L2
open PySem PySem.Spec PyProof.Rows
section
variable {X : Cx}
end
end L2
namespace DL
open PySem PySem.Spec PyProof.Rows L2
section
variable {X : Cx} {W : WX}
end
section
variable {i : Nat} {P : D → Gam → Option Gam} {B : GS} {N : Gam → Prop} {R : Cell → Gam → Prop} {Bk Ct : Gam → Prop} {X : Exc → Gam → Prop} {Γ : Gam}
end
end DL

set_option Elab.async false
set_option linter.all false
set_option maxRecDepth 100000
set_option maxHeartbeats 3200000
/-! [e for k in d if t]: the dict of a name, locked while the comprehension runs -/
namespace DL
open PySem PySem.Spec PyProof.Rows L2
theorem Yl.keys {K : PySem.W.Frag} {M : Hp} {a : Addr} {od : Obj} {ks : List Key} {xs : List V} (h : M a = some (.frz od (.dK (ks.zip xs)))) (hl : ks.length = xs.length) : Yl K (Itk a od (ks.zip xs)) M (ks.map kyD) := fun i H s => by
  have hz : (ks.zip xs).length = ks.length := by rw [List.length_zip, hl, Nat.min_self]
  refine ⟨fun d e => ?_, fun e => ⟨s _ _ h, ?_⟩⟩
  · rw [List.getElem?_map] at e
    cases hk : ks[i]? with
    | none => rw [hk] at e; cases e
    | some k =>
      rw [hk] at e
      cases e
      have hi : i < ks.length := (List.getElem?_eq_some_iff.mp hk).1
      refine ⟨⟨s _ _ h, by rw [hz]; exact hi⟩, ?_⟩
      rintro v H' ⟨rfl, k', x', hk', rfl⟩
      rw [List.getElem?_zip_eq_some] at hk'
      rw [hk] at hk'
      cases hk'.1
      exact .inl ⟨rfl, kyD_rep _⟩
  · rw [hz, e, List.length_map]
    exact Nat.le_refl _
section
variable {X : Cx} {W : WX}
end
/-! .. and the dict is one's own afterwards: nothing but numbers and texts leaves the comprehension, no other own object is about -/
section
variable {X : Cx} {W : WX}
end
section
variable {Γ : Gam} {X : Exc → Gam → Prop}
end
end DL

set_option Elab.async false
set_option linter.all false
set_option maxRecDepth 100000
set_option maxHeartbeats 3200000
/-! sorted(set(list of ints)): up to 4000 of them, fewer than 64 different ones -/
namespace DL
open PySem PySem.Spec PyProof.Rows L2
section
variable {X : Cx} {W : WX}
end
end DL

set_option Elab.async false
set_option linter.all false
set_option maxRecDepth 100000
set_option maxHeartbeats 3200000
/-! sorted(set(list of ints)): up to 4000 of them, any number of different ones -/
namespace L2
open PySem PySem.Spec PyProof.Rows
section
variable {P : Program} {w : World} {A : Around} {E : Value → Shared → Prop} {s : Shared} {a : Addr}
end
section
variable {X : Cx}
end
end L2
namespace DL
open PySem PySem.Spec PyProof.Rows L2
section
variable {X : Cx} {W : WX}
end
end DL

set_option Elab.async false
set_option linter.all false
set_option maxRecDepth 100000
set_option maxHeartbeats 3200000
/-! len(set(list of ints)): how many different ones -/
namespace L2
open PySem PySem.Spec PyProof.Rows
section
variable {X : Cx}
end
end L2
namespace DL
open PySem PySem.Spec PyProof.Rows L2
section
variable {X : Cx} {W : WX}
end
end DL

set_option Elab.async false
set_option linter.all false
set_option maxRecDepth 100000
set_option maxHeartbeats 3200000
/-! x = [e for y in xs if t], xs a list of one's own that stays so: only numbers, texts, truth values leave the comprehension; other own objects are hidden from it -/
namespace DL
open PySem PySem.Spec PyProof.Rows L2
section
variable {K : PySem.W.Frag} {f : Frm} {M M' H H' : Hp} {τ : List V} {T : List Cell} {σ : L2.St} {Γ Γe : Gam} {v : V} {c : Cell}
end
section
variable {X : Cx} {W : WX}
end
section
variable {Γ : Gam} {X : Exc → Gam → Prop}
end
end DL

set_option Elab.async false
set_option linter.all false
set_option maxRecDepth 100000
set_option maxHeartbeats 3200000
/-! {k: v for x in xs if t}, the keys numbers or texts -/
namespace DL
open PySem PySem.Spec PyProof.Rows L2
section
variable {X : Cx} {W : WX}
end
end DL

set_option Elab.async false
set_option linter.all false
set_option maxRecDepth 100000
set_option maxHeartbeats 1600000
/-! {k: v for x in xs if t}: the run rules -/
namespace DL
open PySem PySem.Spec PyProof.Rows L2
section
variable {Γ : Gam} {X : Exc → Gam → Prop} {Q : List Key × List D → Gam → Prop} {P : D → Gam → Option Gam} {t : TF} {KE E : EF} {is : List Nat} {acc : List Key × List D}
end
end DL

set_option Elab.async false
set_option linter.all false
set_option maxRecDepth 100000
set_option maxHeartbeats 1600000
/-! x = {k: v for ..} on one line, x a local name -/
namespace L2
open PySem PySem.Spec PyProof.Rows
section
variable {X : Cx}
end
end L2
namespace DL
open PySem PySem.Spec PyProof.Rows L2
section
variable {X : Cx} {W : WX}
end
end DL

set_option Elab.async false
set_option linter.all false
set_option maxRecDepth 100000
set_option maxHeartbeats 2000000
/-! d.get(k): k an int or a text -/
namespace DL
open PySem PySem.Spec PyProof.Rows L2
section
variable {X : Cx} {W : WX} {A B : EF}
end
section
variable {Γ : Gam} {X : Exc → Gam → Prop}
end
end DL

set_option Elab.async false
set_option linter.all false
set_option maxRecDepth 100000
set_option maxHeartbeats 3200000
/-! list(d.items()): a new list of new pairs -/
namespace LiI
open PySem PySem.Spec PyProof.Rows L2
section
variable {X : Cx} {e : Expr} {te : TE} {p apos cpos pos : Pos}
end
end LiI
namespace DL
open PySem PySem.Spec PyProof.Rows L2 LiI
section
variable {K : PySem.W.Frag} {f : Frm} {M H H' : Hp} {τ : List V} {T : List Cell} {σ : L2.St} {Γ : Gam}
end
section
variable {X : Cx} {W : WX} {A : EF} {e : Expr} {p pos : Pos}
end
section
variable {Γ : Gam} {Q : Cell → Gam → Prop} {xs : List D} {ks : List Key}
end
end DL

set_option Elab.async false
set_option linter.all false
set_option maxRecDepth 100000
set_option maxHeartbeats 1600000
/-! list(range(n)) -/
namespace DL
open PySem PySem.Spec PyProof.Rows L2
section
variable {X : Cx} {W : WX}
end
end DL

set_option Elab.async false
set_option linter.all false
set_option maxRecDepth 100000
set_option maxHeartbeats 3200000
/-! zip's next where the pair it gave last is still there -/
namespace ZpL
open PySem PySem.Spec RZ
open PySem.Sem (wp)
abbrev ZipF (h : Heap) (z TI TO a : Addr) (f : Bool) : Prop :=
  h.get? z = some { cls := .type "zip", dict := none, data := .fields #[rawInt a, .bool f, .bool false, .ref TI, .ref TO], slots := #[] }
section
variable {prog : Program} {w : World} {A : Around} {E : Value → Shared → Prop} {s : Shared}
/-- where the walk stands -/
structure ZSt (h : Heap) (z TI TO i1 i2 l1 l2 S : Addr) (xs ys : Array Value) (i : Nat) : Prop where
  D : ZipApart z TI TO i1 i2 l1 l2
  zs : IsZip h z TI TO .none ∨ ∃ a f oa, ZipF h z TI TO a f ∧ h.get? a = some oa ∧ a ≠ z ∧ a ≠ i1 ∧ a ≠ i2 ∧ a ≠ S
  ti : IsPair h TI (.ref i1) (.ref i2)
  tt : ∃ x y, IsPair h TO x y
  h1 : h.IsTupleIter i1 l1 i
  h2 : h.IsTupleIter i2 l2 i
  t1 : h.IsTuple l1 xs
  t2 : h.IsTuple l2 ys
  nS : z ≠ S ∧ TI ≠ S ∧ TO ≠ S ∧ i1 ≠ S ∧ i2 ≠ S ∧ l1 ≠ S ∧ l2 ≠ S
theorem ZSt.keep {h h' : Heap} {z TI TO i1 i2 l1 l2 S : Addr} {xs ys : Array Value} {i : Nat} (x : ZSt h z TI TO i1 i2 l1 l2 S xs ys i) (hk : ∀ b o, b ≠ S → h.get? b = some o → h'.get? b = some o) : ZSt h' z TI TO i1 i2 l1 l2 S xs ys i := by
  obtain ⟨n1, n2, n3, n4, n5, n6, n7⟩ := x.nS
  refine ⟨x.D, ?_, hk _ _ n2 x.ti, ?_, x.h1.at fun o e => hk _ o n4 e, x.h2.at fun o e => hk _ o n5 e, ?_, ?_, x.nS⟩
  · rcases x.zs with e | ⟨a, f, oa, e1, e2, e3, e4, e5, e6⟩
    · exact .inl (hk _ _ n1 e)
    · exact .inr ⟨a, f, oa, hk _ _ n1 e1, hk _ _ e6 e2, e3, e4, e5, e6⟩
  · obtain ⟨x', y', e⟩ := x.tt
    exact ⟨x', y', hk _ _ n3 e⟩
  · obtain ⟨o, e, r⟩ := x.t1
    exact ⟨o, hk _ _ n6 e, r⟩
  · obtain ⟨o, e, r⟩ := x.t2
    exact ⟨o, hk _ _ n7 e, r⟩
/-- the pairs gathered -/
structure ZG (xs ys : Array Value) (lo : Addr) (h : Heap) (as : List Addr) : Prop where
  rise : as.Pairwise (· < ·)
  above : ∀ a ∈ as, lo < a
  pairs : ∀ (j : Nat) (a : Addr), as[j]? = some a → ∃ x y, xs[j]? = some x ∧ ys[j]? = some y ∧ h.get? a = some { cls := .type "tuple", data := .seq #[x, y] }
theorem ZG.there {xs ys : Array Value} {lo : Addr} {h : Heap} {as : List Addr} (g : ZG xs ys lo h as) {a : Addr} (ha : a ∈ as) : a < h.objs.size := by
  obtain ⟨j, hj⟩ := List.mem_iff_getElem?.mp ha
  obtain ⟨_, _, _, _, e⟩ := g.pairs j a hj
  exact Heap.lt_size e
theorem ZG.low {xs ys : Array Value} {lo lo' : Addr} {h : Heap} {as : List Addr} (g : ZG xs ys lo h as) (hl : lo' ≤ lo) : ZG xs ys lo' h as := ⟨g.rise, fun a ha => Nat.lt_of_le_of_lt hl (g.above a ha), g.pairs⟩
end
section
variable {prog : Program} {w : World} {A : Around} {s : Shared} {R : Result → Shared → Prop}
end
section
variable {prog : Program} {w : World} {A : Around} {E : Value → Shared → Prop} {s : Shared}
end
end ZpL

set_option Elab.async false
set_option linter.all false
set_option maxRecDepth 100000
set_option maxHeartbeats 3200000
/-! list(zip(a, b)) of two tuples of one length: a new list of new pairs -/
namespace ZpL
open PySem PySem.Spec PyProof.Rows L2 RZ LiI
section
variable {X : Cx} {e e2 : Expr} {ta : TA} {p p2 apos pos : Pos}
end
end ZpL
namespace DL
open PySem PySem.Spec PyProof.Rows L2 LiI ZpL
section
variable {K : PySem.W.Frag} {f : Frm} {M H H' : Hp} {τ : List V} {T : List Cell} {σ : L2.St} {Γ : Gam}
end
section
variable {X : Cx} {W : WX} {e e2 : Expr} {L : AF} {p p2 apos pos : Pos}
end
end DL

set_option Elab.async false
set_option linter.all false
set_option maxRecDepth 100000
set_option maxHeartbeats 3200000
/-! zip of lists and tuples in any mix -/
namespace ZpM
open PySem PySem.Spec PyProof.Rows L2 RZ
def HIt (h : Heap) : Bool → Addr → Addr → Nat → Prop
  | true, it, a, i => h.IsListIter it a i
  | false, it, a, i => h.IsTupleIter it a i
def HSq (h : Heap) : Bool → Addr → Array Value → Prop
  | true, a, xs => h.IsList a xs
  | false, a, xs => h.IsTuple a xs
def itO : Bool → Addr → Obj
  | true, a => { cls := .type "list_iterator", data := .fields #[.ref a, .int 0 0] }
  | false, a => { cls := .type "tuple_iterator", data := .fields #[.ref a, .int 0 0] }
theorem HIt.at {h h' : Heap} {k : Bool} {it a : Addr} {i : Nat} (x : HIt h k it a i) (hk : ∀ o, h.get? it = some o → h'.get? it = some o) : HIt h' k it a i := by
  cases k with
  | true => exact Heap.IsListIter.at x hk
  | false => exact Heap.IsTupleIter.at x hk
theorem HSq.at {h h' : Heap} {k : Bool} {a : Addr} {xs : Array Value} (x : HSq h k a xs) (hk : ∀ o, h.get? a = some o → h'.get? a = some o) : HSq h' k a xs := by
  cases k with
  | true => exact Heap.IsList.at x hk
  | false => exact Heap.IsTuple.at x hk
theorem HIt.obj {h : Heap} {k : Bool} {it a : Addr} {i : Nat} (x : HIt h k it a i) : ∃ o vs, h.get? it = some o ∧ o.data = .fields vs := by
  cases k with
  | true => obtain ⟨o, e, _, d⟩ := (show h.IsListIter it a i from x); exact ⟨o, _, e, d⟩
  | false => obtain ⟨o, e, _, d⟩ := (show h.IsTupleIter it a i from x); exact ⟨o, _, e, d⟩
theorem HSq.lt {h : Heap} {k : Bool} {a : Addr} {xs : Array Value} (x : HSq h k a xs) : a < h.objs.size := by
  cases k with
  | true => obtain ⟨o, e, _⟩ := (show h.IsList a xs from x); exact Heap.lt_size e
  | false => obtain ⟨o, e, _⟩ := (show h.IsTuple a xs from x); exact Heap.lt_size e
theorem HIt.start {h : Heap} {k : Bool} {it a : Addr} (e : h.get? it = some (itO k a)) : HIt h k it a 0 := by
  cases k with
  | true => exact ⟨_, e, rfl, rfl⟩
  | false => exact ⟨_, e, rfl, rfl⟩
section
variable {X : Cx} {pins : List (Addr × Obj)} {σ : L2.St} {H : Hp} {s : Shared} {k : Bool} {a : Addr} {xs ys : List V}
end
end ZpM
namespace DL
open PySem PySem.Spec PyProof.Rows L2 RZ ZpM
section
variable {X : Cx} {W : WX} {p pos tpos : Pos} {elts : List Expr} {kk : Nat} {L : AF}
end
end DL

set_option Elab.async false
set_option linter.all false
set_option maxRecDepth 100000
set_option maxHeartbeats 3200000
/-! own objects that hold own objects: made by a display, read, changed, settled -/
namespace DL
open PySem PySem.Spec PyProof.Rows L2
section
variable {K : PySem.W.Frag} {f : Frm} {M H H' M' : Hp} {τ : List V} {T : List Cell} {σ : L2.St} {Γ : Gam}
theorem Fts_shs : ∀ {xs : List V} {ds : List D} {a : Addr}, ¬ Fts H xs (ds.map O.sh) a
  | [], [], _, h => by unfold Fts at h; exact h
  | [], _ :: _, _, h => by unfold Fts at h; exact h
  | _ :: _, [], _, h => by unfold Fts at h; exact h
  | x :: xs, d :: ds, a, h => by
    rw [List.map_cons] at h
    rcases Fts_cons.mp h with h | h
    · unfold Ft at h; exact h
    · exact Fts_shs h
theorem Trs_shs : ∀ {xs : List V} {ds : List D}, Reps K M xs ds → Trs K M H xs (ds.map O.sh)
  | [], [], _ => by unfold Trs; trivial
  | [], _ :: _, r => by unfold Reps at r; exact r.elim
  | _ :: _, [], r => by unfold Reps at r; exact r.elim
  | x :: xs, d :: ds, r => by
    obtain ⟨r1, r2⟩ := r.of_cons
    rw [List.map_cons]
    refine Trs_cons.mpr ⟨by unfold Tr; exact r1, Trs_shs r2, fun a h => ?_⟩
    unfold Ft at h
    exact h.elim
/-- a cell as a part of a tree -/
def solC : Cell → Option O
  | .sh d => some (.sh d)
  | .ow t ds => some (.ow t (ds.map .sh))
  | .on t os => some (.ow t os)
  | .rf _ _ => none
  | .br _ => none
theorem COk.tr {v : V} {c : Cell} {o : O} (h : COk K f M H σ v c) (e : solC c = some o) : Tr K M H v o ∧ ∀ a, Ft H v o a ↔ own H v c a := by
  cases c with
  | sh d =>
    cases e
    exact ⟨by unfold Tr; exact h, fun a => by unfold Ft own; exact Iff.rfl⟩
  | ow t ds =>
    cases e
    obtain ⟨a, xs, rfl, h1, h2, h3, h4⟩ := h
    refine ⟨by unfold Tr; exact ⟨a, xs, rfl, h1, Fts_shs, Trs_shs h2⟩, fun b => ?_⟩
    constructor
    · intro z
      unfold Ft at z
      obtain ⟨b', ys, e, q1, q2⟩ := z
      cases e
      rcases q2 with q2 | q2
      · rw [q2]; rfl
      · exact (Fts_shs q2).elim
    · intro z
      have z2 : V.ref a = V.ref b := z
      injection z2 with z2
      unfold Ft
      exact ⟨a, xs, rfl, h1, .inl z2.symm⟩
  | on t os =>
    cases e
    exact ⟨h.1, fun _ => Iff.rfl⟩
  | rf t ds => cases e
  | br i => cases e
end
/-! {k: e, ..} with own objects among the values -/
section
variable {X : Cx} {W : WX} {pos : Pos}
end
end DL

set_option Elab.async false
set_option linter.all false
set_option maxRecDepth 100000
set_option maxHeartbeats 3200000
/-! trees of own objects: read, changed -/
namespace DL
open PySem PySem.Spec PyProof.Rows L2
section
variable {K : PySem.W.Frag} {M H H' : Hp}
theorem Trs.len : ∀ {xs : List V} {os : List O}, Trs K M H xs os → xs.length = os.length
  | [], [], _ => rfl
  | [], _ :: _, r => by unfold Trs at r; exact r.elim
  | _ :: _, [], r => by unfold Trs at r; exact r.elim
  | x :: xs, o :: os, r => by rw [List.length_cons, List.length_cons, Trs.len (Trs_cons.mp r).2.1]
theorem Trs.get {k : Key} : ∀ {ks : List Key} {xs : List V} {os : List O} {o : O}, Trs K M H xs os → getK k ks os = some o → ∃ x, valV (ks.zip xs) k = some x ∧ Tr K M H x o
  | [], _, _, _, _, e => by unfold getK at e; cases e
  | k' :: ks, [], [], _, _, e => by unfold getK at e; cases e
  | _ :: _, [], _ :: _, _, r, _ => by unfold Trs at r; exact r.elim
  | _ :: _, _ :: _, [], _, r, _ => by unfold Trs at r; exact r.elim
  | k' :: ks, x :: xs, o' :: os, o, r, e => by
    obtain ⟨r1, r2, _⟩ := Trs_cons.mp r
    unfold getK at e
    by_cases hk : k' = k
    · rw [if_pos hk] at e
      cases e
      exact ⟨x, by rw [List.zip_cons_cons]; unfold valV; simp [hk], r1⟩
    · rw [if_neg hk] at e
      obtain ⟨y, h1, h2⟩ := Trs.get r2 e
      exact ⟨y, by rw [List.zip_cons_cons]; unfold valV at h1 ⊢; simpa [hk] using h1, h2⟩
theorem Trs.snoc : ∀ {xs : List V} {os : List O} {x : V} {o : O}, Trs K M H xs os → Tr K M H x o → (∀ a, Fts H xs os a → ¬ Ft H x o a) → Trs K M H (xs ++ [x]) (os ++ [o])
  | [], [], x, o, _, r, _ => Trs_cons.mpr ⟨r, by unfold Trs; trivial, fun a _ z => by unfold Fts at z; exact z⟩
  | [], _ :: _, _, _, r, _, _ => by unfold Trs at r; exact r.elim
  | _ :: _, [], _, _, r, _, _ => by unfold Trs at r; exact r.elim
  | y :: ys, p :: ps, x, o, r, q, n => by
    obtain ⟨r1, r2, r3⟩ := Trs_cons.mp r
    refine Trs_cons.mpr ⟨r1, Trs.snoc r2 q fun a h => n a (Fts_cons.mpr (.inr h)), fun a h z => ?_⟩
    have app : ∀ {ys : List V} {ps : List O}, Trs K M H ys ps → Fts H (ys ++ [x]) (ps ++ [o]) a → Fts H ys ps a ∨ Ft H x o a := by
      intro ys
      induction ys with
      | nil =>
        intro ps t z
        cases ps with
        | nil =>
          rcases Fts_cons.mp z with z | z
          · exact .inr z
          · unfold Fts at z; exact z.elim
        | cons _ _ => unfold Trs at t; exact t.elim
      | cons y ys ih =>
        intro ps t z
        cases ps with
        | nil => unfold Trs at t; exact t.elim
        | cons p ps =>
          rcases Fts_cons.mp z with z | z
          · exact .inl (Fts_cons.mpr (.inl z))
          · rcases ih (Trs_cons.mp t).2.1 z with z | z
            · exact .inl (Fts_cons.mpr (.inr z))
            · exact .inr z
    rcases app r2 z with z | z
    · exact r3 a h z
    · exact n a (Fts_cons.mpr (.inl h)) z
theorem Fts_snoc {x : V} {o : O} {a : Addr} : ∀ {xs : List V} {os : List O}, Trs K M H xs os → Fts H (xs ++ [x]) (os ++ [o]) a → Fts H xs os a ∨ Ft H x o a
  | [], [], _, z => by
    rcases Fts_cons.mp z with z | z
    · exact .inr z
    · unfold Fts at z; exact z.elim
  | [], _ :: _, r, _ => by unfold Trs at r; exact r.elim
  | _ :: _, [], r, _ => by unfold Trs at r; exact r.elim
  | y :: ys, p :: ps, r, z => by
    rcases Fts_cons.mp z with z | z
    · exact .inl (Fts_cons.mpr (.inl z))
    · rcases Fts_snoc (Trs_cons.mp r).2.1 z with z | z
      · exact .inl (Fts_cons.mpr (.inr z))
      · exact .inr z
/-- shared data put at a key -/
theorem Trs.putL {κ : Type} [DecidableEq κ] {k : κ} {v : V} {d : D} (rv : Rep K M v d) : ∀ {ks : List κ} {xs : List V} {os : List O}, ks.length = xs.length → Trs K M H xs os → Trs K M H (DL.putL k v ks xs) (DL.putL k (O.sh d) ks os) ∧ ∀ a, Fts H (DL.putL k v ks xs) (DL.putL k (O.sh d) ks os) a → Fts H xs os a
  | [], [], [], _, _ => ⟨by unfold DL.putL; unfold Trs; trivial, fun a h => by unfold DL.putL at h; exact h⟩
  | [], _ :: _, _, h, _ => by cases h
  | _ :: _, [], _, h, _ => by cases h
  | [], [], _ :: _, _, r => by unfold Trs at r; exact r.elim
  | _ :: _, _ :: _, [], _, r => by unfold Trs at r; exact r.elim
  | k' :: ks, x :: xs, o :: os, h, r => by
    obtain ⟨r1, r2, r3⟩ := Trs_cons.mp r
    obtain ⟨q1, q2⟩ := Trs.putL rv (ks := ks) (by simpa using h) r2
    unfold DL.putL
    by_cases hk : k' = k
    · rw [if_pos hk, if_pos hk]
      have nf : ∀ a, ¬ Ft H v (.sh d) a := fun a z => by unfold Ft at z; exact z
      refine ⟨Trs_cons.mpr ⟨by unfold Tr; exact rv, q1, fun a z => (nf a z).elim⟩, fun a z => ?_⟩
      rcases Fts_cons.mp z with z | z
      · exact (nf a z).elim
      · exact Fts_cons.mpr (.inr (q2 a z))
    · rw [if_neg hk, if_neg hk]
      refine ⟨Trs_cons.mpr ⟨r1, q1, fun a z z2 => r3 a z (q2 a z2)⟩, fun a z => ?_⟩
      rcases Fts_cons.mp z with z | z
      · exact Fts_cons.mpr (.inl z)
      · exact Fts_cons.mpr (.inr (q2 a z))
theorem Trs.putK2 {κ : Type} [DecidableEq κ] {k : κ} {v : V} {d : D} (rv : Rep K M v d) {ks : List κ} {xs : List V} {os : List O} (h : ks.length = xs.length) (r : Trs K M H xs os) :
    (DL.putK2 k v ks xs).1 = (DL.putK2 k (O.sh d) ks os).1 ∧ Trs K M H (DL.putK2 k v ks xs).2 (DL.putK2 k (O.sh d) ks os).2 ∧ (DL.putK2 k v ks xs).1.length = (DL.putK2 k v ks xs).2.length ∧ ∀ a, Fts H (DL.putK2 k v ks xs).2 (DL.putK2 k (O.sh d) ks os).2 a → Fts H xs os a := by
  unfold DL.putK2
  by_cases hc : ks.contains k = true
  · rw [if_pos hc, if_pos hc]
    obtain ⟨q1, q2⟩ := Trs.putL (k := k) rv h r
    exact ⟨rfl, q1, by show ks.length = (DL.putL k v ks xs).length; rw [putL_len h]; exact h, q2⟩
  · rw [if_neg hc, if_neg hc]
    have nf : ∀ a, ¬ Ft H v (.sh d) a := fun a z => by unfold Ft at z; exact z
    refine ⟨rfl, Trs.snoc r (by unfold Tr; exact rv) fun a _ => nf a, by simp [h], fun a z => ?_⟩
    rcases Fts_snoc r z with z | z
    · exact z
    · exact (nf a z).elim
/-- what stands at a key is another thing from here on -/
def setK (k : Key) (o : O) : List Key → List O → List O
  | k' :: ks, p :: os => if k' = k then o :: os else p :: setK k o ks os
  | _, os => os
theorem Trs.at {k : Key} {t : Tag} {os2 : List O} : ∀ {ks : List Key} {xs : List V} {os : List O}, ks.length = xs.length → Trs K M H xs os → getK k ks os = some (.ow t os2) →
    ∃ b xs2, valV (ks.zip xs) k = some (.ref b) ∧ Own H b t xs2 ∧ ¬ Fts H xs2 os2 b ∧ Trs K M H xs2 os2 ∧ Fts H xs os b ∧ (∀ a, Fts H xs2 os2 a → Fts H xs os a) ∧
      ∀ o t' xs2' os2', Own (upd H b o) b t' xs2' → Trs K M H xs2' os2' → (∀ a, Fts H xs2' os2' a → Fts H xs2 os2 a) → Trs K M (upd H b o) xs (setK k (.ow t' os2') ks os) ∧ ∀ a, Fts (upd H b o) xs (setK k (.ow t' os2') ks os) a → Fts H xs os a
  | [], _, _, _, _, e => by unfold getK at e; cases e
  | _ :: _, [], _, h, _, _ => by cases h
  | _ :: _, _ :: _, [], _, r, _ => by unfold Trs at r; exact r.elim
  | k' :: ks, x :: xs, o' :: os, h, r, e => by
    obtain ⟨r1, r2, r3⟩ := Trs_cons.mp r
    unfold getK at e
    by_cases hk : k' = k
    · rw [if_pos hk] at e
      cases e
      have r1' := r1
      unfold Tr at r1'
      obtain ⟨b, xs2, rfl, h1, h2, h3⟩ := r1'
      have fb : Ft H (.ref b) (.ow t os2) b := by unfold Ft; exact ⟨b, xs2, rfl, h1, .inl rfl⟩
      have fi : ∀ a, Fts H xs2 os2 a → Ft H (.ref b) (.ow t os2) a := fun a z => by unfold Ft; exact ⟨b, xs2, rfl, h1, .inr z⟩
      refine ⟨b, xs2, by rw [List.zip_cons_cons]; unfold valV; simp [hk], h1, h2, h3, Fts_cons.mpr (.inl fb), fun a z => Fts_cons.mpr (.inl (fi a z)), fun o t' xs2' os2' g1 g2 g3 => ?_⟩
      have nb : ¬ Fts H xs2' os2' b := fun z => h2 (g3 b z)
      obtain ⟨s1, s2⟩ := Trs.step (M' := M) (H' := upd H b o) (fun _ _ h => h) os2' xs2' g2 fun a ha => upd_ne fun z => nb (z ▸ ha)
      obtain ⟨s3, s4⟩ := Trs.step (M' := M) (H' := upd H b o) (fun _ _ h => h) os xs r2 fun a ha => upd_ne fun z => r3 b fb (z ▸ ha)
      have hd : ∀ a, Ft (upd H b o) (.ref b) (.ow t' os2') a → Ft H (.ref b) (.ow t os2) a := fun a z => by
        unfold Ft at z
        obtain ⟨b', ys, e, q1, q2⟩ := z
        cases e
        obtain rfl := own_uniq q1 g1
        rcases q2 with q2 | q2
        · rw [q2]; exact fb
        · exact fi a (g3 a ((s2 a).mp q2))
      unfold setK
      rw [if_pos hk]
      refine ⟨Trs_cons.mpr ⟨by unfold Tr; exact ⟨b, xs2', rfl, g1, fun z => nb ((s2 b).mp z), s1⟩, s3, fun a z z2 => r3 a (hd a z) ((s4 a).mp z2)⟩, fun a z => ?_⟩
      rcases Fts_cons.mp z with z | z
      · exact Fts_cons.mpr (.inl (hd a z))
      · exact Fts_cons.mpr (.inr ((s4 a).mp z))
    · rw [if_neg hk] at e
      obtain ⟨b, xs2, q1, q2, q3, q4, q5, q6, q7⟩ := Trs.at (ks := ks) (by simpa using h) r2 e
      refine ⟨b, xs2, by rw [List.zip_cons_cons]; unfold valV at q1 ⊢; simpa [hk] using q1, q2, q3, q4, Fts_cons.mpr (.inr q5), fun a z => Fts_cons.mpr (.inr (q6 a z)), fun o t' xs2' os2' g1 g2 g3 => ?_⟩
      obtain ⟨s1, s2⟩ := q7 o t' xs2' os2' g1 g2 g3
      obtain ⟨s3, s4⟩ := Tr.step (M' := M) (H' := upd H b o) (fun _ _ h => h) o' x r1 fun a ha => upd_ne fun z => r3 a ha (z ▸ q5)
      unfold setK
      rw [if_neg hk]
      refine ⟨Trs_cons.mpr ⟨s3, s1, fun a z z2 => r3 a ((s4 a).mp z) (s2 a z2)⟩, fun a z => ?_⟩
      rcases Fts_cons.mp z with z | z
      · exact Fts_cons.mpr (.inl ((s4 a).mp z))
      · exact Fts_cons.mpr (.inr (s2 a z))
end
section
variable {K : PySem.W.Frag} {f : Frm} {M H H' M' : Hp} {τ : List V} {T : List Cell} {σ : L2.St} {Γ : Gam} {i : Nat} {v : V}
/-- a slot's cell is forgotten -/
theorem Good.forget (G : Good K f M H τ T σ Γ) (hl : i < Γ.length) : Good K f M H τ T σ (Γ.set i none) := by
  have cs : ∀ k u e, ent τ T σ (Γ.set i none) k = some (u, e) → k ≠ .inr i ∧ ent τ T σ Γ k = some (u, e) := fun k u e q => by
    by_cases hk : k = .inr i
    · subst hk
      have q2 := (ent_slot.mp q).2
      rw [List.getElem?_set_self hl] at q2
      cases q2
    · rw [ent_setG hk] at q
      exact ⟨hk, q⟩
  refine ⟨G.bys, G.sub, G.m0, G.new, G.tl, by rw [List.length_set]; exact G.sl, fun j e q => ?_, fun k u e q => G.ok k u e (cs k u e q).2, fun k k' u e u' e' a q q' r r' => G.inj _ _ _ _ _ _ a (cs _ _ _ q).2 (cs _ _ _ q').2 r r', fun j k q => ?_, fun j t ds q => ?_, G.tabs⟩
  · by_cases hj : i = j
    · subst hj; rw [List.getElem?_set_self hl] at q; cases q
    · rw [List.getElem?_set_ne hj] at q; exact G.has j e q
  · by_cases hj : i = j
    · subst hj; rw [List.getElem?_set_self hl] at q; cases q
    · rw [List.getElem?_set_ne hj] at q; exact G.nbr j k q
  · by_cases hj : i = j
    · subst hj; rw [List.getElem?_set_self hl] at q; cases q
    · rw [List.getElem?_set_ne hj] at q; exact G.args j t ds q
end
end DL

set_option Elab.async false
set_option linter.all false
set_option maxRecDepth 100000
set_option maxHeartbeats 3200000
/-! x["a"], x["a"] = e, x["a"][y] = e, where x is a dict of one's own that holds dicts of one's own; settled again -/
namespace DL
open PySem PySem.Spec PyProof.Rows L2
section
variable {X : Cx} {W : WX} {value ix : Expr} {x y : Str} {opos pos pos' ppos ipos : Pos} {A : EF} {k : Nat}
end
/-! ### settled -/
section
variable {K : PySem.W.Frag} {f : Frm} {H : Hp} {τ : List V} {T : List Cell} {σ : L2.St} {Γ : Gam}
end
end DL

set_option Elab.async false
set_option linter.all false
set_option maxRecDepth 100000
set_option maxHeartbeats 1600000
/-! sorted(list of texts or of ints); run rules for trees of own objects -/
namespace DL
open PySem PySem.Spec PyProof.Rows L2
/-! sorted(t), t a tuple of ints -/
end DL
namespace L2
open PySem PySem.Spec PyProof.Rows Srt SrtO
section
variable {prog : Program} {w : World} {A : Around} {E : Value → Shared → Prop} {s : Shared}
end
end L2
namespace DL
open PySem PySem.Spec PyProof.Rows L2
section
variable {Γ : Gam} {Q : Cell → Gam → Prop}
end
/-! ### run rules -/
section
variable {Γ : Gam} {X : Exc → Gam → Prop} {N Bk Ct : Gam → Prop} {R : Cell → Gam → Prop}
end
end DL

set_option Elab.async false
set_option linter.all false
set_option maxRecDepth 100000
set_option maxHeartbeats 3200000
/-! dicts with text keys: list(d), sorted(d), [e for k in x["a"]] -/
namespace DL
open PySem PySem.Spec PyProof.Rows L2
/-! list(d) -/
section
variable {X : Cx} {W : WX}
end
/-! sorted(d) -/
section
variable {X : Cx} {W : WX}
end
section
variable {Γ : Gam} {Q : Cell → Gam → Prop}
end
/-! [e for k in x["a"]] -/
section
variable {X : Cx} {W : WX}
end
section
variable {X : Cx} {W : WX}
end
section
variable {Γ : Gam} {X : Exc → Gam → Prop}
end
end DL

set_option Elab.async false
set_option linter.all false
set_option maxRecDepth 100000
set_option maxHeartbeats 3200000
/-! what is never reached; [e for x in xs for y in ys] -/
namespace DL
open PySem PySem.Spec PyProof.Rows L2
/-! a statement or an expression that no run of the law reaches -/
section
variable {X : Cx} {W : WX}
end
/-! two fors -/
section
variable {X : Cx} {W : WX}
end
/-! run rules -/
section
variable {Γ : Gam} {X : Exc → Gam → Prop} {Q : List D → Gam → Prop} {P P1 : D → Gam → Option Gam} {t t1 : TF} {I1 : IF} {E : EF} {is is1 : List Nat} {acc : List D}
end
end DL

set_option Elab.async false
set_option linter.all false
set_option maxRecDepth 100000
set_option maxHeartbeats 3200000
/-! [e for k, v in x.a.items()], x an object of an own class -/
namespace DL
open PySem PySem.Spec PyProof.Rows L2
section
variable {X : Cx} {W : WX}
end
section
variable {Γ : Gam} {X : Exc → Gam → Prop}
end
end DL

set_option Elab.async false
set_option linter.all false
set_option maxRecDepth 100000
set_option maxHeartbeats 4000000
/-! x(lambda: e), where x tries what it got and looks at the exception -/
namespace DL
open PySem PySem.Spec PyProof.Rows L2
section
variable {K : PySem.W.Frag} {f : Frm} {M H H' : Hp} {τ : List V} {T : List Cell} {σ : L2.St} {Γ : Gam}
/-- only the tables grow -/
theorem Good.extN (G : Good K f M H τ T σ Γ) (e : LamX.ExtN H H') (t : LamX.Tabs (lamT K) H') : Good K f M H' τ T σ Γ := by
  have st := G.stepAll (H' := H') (Sub.refl M) fun j v c a q r => by
    obtain ⟨_, _, ow, m, _⟩ := (G.ok j v c q).own_ok r
    obtain ⟨u, hu, nt⟩ := ow.notT
    exact ⟨by rw [e a u hu nt.1, hu], m⟩
  exact ⟨fun a u q => e a u (G.bys a u q) fun ps z => G.tabs.nb a ps (z ▸ q), fun a u q => e a u (G.sub a u q) fun ps z => G.tabs.nm a ps (z ▸ q), G.m0, G.new, G.tl, G.sl, G.has, st.1, st.2.2, G.nbr, G.args, ⟨t, G.tabs.nm, G.tabs.nb⟩⟩
/-- a callee's slots, nothing told of them, and the way back with what it hands back -/
theorem Good.tail0 (G : Good K f M H τ T σ Γ) (σz : L2.St) : ∃ fz, Good K fz M H [] [] σz (List.replicate σz.length none) ∧
    ∀ M' H' v c σ' Γ' c', Good K fz M' H' [v] [c] σ' Γ' → finC Γ' c = some c' → Solid c' ∧ Good K f M' H' (v :: τ) (c' :: T) σ Γ := by
  obtain ⟨fc, Gc, back⟩ := Good.call (vs := []) (cs := []) (T := []) (b := none) G rfl (by rfl) (dvs := []) (dfl := []) .nil
  have nog : ∀ i c, (List.replicate σz.length (none : Option Cell))[i]? ≠ some (some c) := fun i c e => by
    rw [List.getElem?_replicate] at e
    split at e <;> cases e
  have noe : ∀ k v c, ent ([] : List V) [] σz (List.replicate σz.length none) k ≠ some (v, c) := fun k v c q => by
    match k with
    | .inl j => have := (ent_temp.mp q).1; simp at this
    | .inr j => exact nog j c (ent_slot.mp q).2
  refine ⟨⟨fc.B, M, []⟩, ⟨Gc.bys, Gc.sub, Sub.refl M, fun a o u e _ => ⟨o, e⟩, rfl, by rw [List.length_replicate], fun i c e => (nog i c e).elim, fun k v c q => (noe k v c q).elim, fun k k' v c v' c' a q => (noe k v c q).elim, fun i j e => nog i _ e, fun i t ds e => (nog i _ e).elim, Gc.tabs⟩, fun M' H' v c σ' Γ' c' G' hc => ?_⟩
  obtain ⟨sc, G2⟩ := Good.stop (vs := []) (T := []) (T' := []) Gc G' (by rfl) hc
  exact ⟨sc, (back M' H' [] Γ (by rfl)).2 v c' sc G2⟩
end
/-- the callee's slots ahead of what it tries -/
def lamG (kk : Bool) (n : Nat) : Gam := if kk then (List.replicate n none).set 1 (some (.sh (.leaf .non))) else List.replicate n none
def lamFin (c : Cell) (Γz Γ' : Gam) : Option (Res × Gam) := match finC Γz c with
  | some c' => some (.val c', Γ')
  | none => none
def lamEnd (R : GS) (Γz Γ' : Gam) : Option (Res × Gam) := match R Γz with
  | some (.rt c Γ2) => lamFin c Γ2 Γ'
  | _ => none
/-- x(lambda: F); in x: [kept = None]; try: [return] call() / except C as slot iE: S; R -/
def eLam (ret kk : Bool) (n : Nat) (F : EF) (C : Addr) (iE : Nat) (S R : GS) : EF := fun Γ => match F Γ with
  | some (.val c, Γ') => if ret then (if isSolid c then some (.val c, Γ') else none) else lamEnd R (lamG kk n) Γ'
  | some (.exc x, Γ') => if x.cls = C then (match setC iE (.sh (.node (.exc C x.ns) x.ds)) (lamG kk n) with
      | some Γ1 => (match kTry iE (S Γ1) with
        | some (.nx Γ2) => lamEnd R Γ2 Γ'
        | some (.rt c Γ2) => lamFin c Γ2 Γ'
        | _ => none)
      | none => none) else none
  | none => none
/-- what making a lambda leans on -/
structure Lm (X : Cx) (c P : Addr) : Prop where
  tb : LamX.TabB X.base X.mg c P
  code : X.env.code = .ref c
  mem : (P, X.env.qual ++ "<lambda>") ∈ lamT X.K
  uniq : ∀ p ∈ lamT X.K, p.1 = P → p.2 = X.env.qual ++ "<lambda>"
section
variable {X : Cx} {pins : List (Addr × Obj)} {σ : L2.St} {H : Hp} {s : Shared}
/-- the callee's context -/
abbrev lamZ (X : Cx) (Ng : List Str) (x : Str) (sg : Scope) (g : Addr) (cdv : Value) (s : Shared) (H : Hp) : Cx := cxOf C8.CX0 X.prog X.w X.K X.mg X.base Ng x sg g cdv X.A X.stack s H C8.E0
theorem pe_lamact {Ng : List Str} {qg : Str} {sg : Scope} {g f c' : Addr} {cdg pm ctv : Value} {params : Arguments} {body : Expr} {scope : Scope} {k : Nat} {a : Str} {pn : List (Addr × Obj)} {xe : Value → Shared → Prop} {W : WX} {E : XK} {tb : TE} {p1 p2 : Pos} {σz : L2.St} {Hz : Hp}
    (I : Inv X pins σ H s) (L : LamX.LamS X.env.scope scope) (hf : s.heap.get? f = some (PySem.W.kla_obj "<lambda>" (X.env.qual ++ "<lambda>") params body scope (cloFrom X.env.cells scope.names []) pm c' ctv)) (hfn : H f = none) (hfr : f ∉ frs X.stack)
    (hbind : bindArgs (PySem.W.kla_fn "<lambda>" (X.env.qual ++ "<lambda>") params body scope (cloFrom X.env.cells scope.names []) pm (.ref c') ctv) ⟨[], []⟩ = pure [])
    (tk : Takes ((lamZ X Ng qg sg g cdg s H).tr pn xe) W) (hW : ∀ cls d H', E cls d H' → W cls d σz H') (hr : RoomG (k + 1) (lamZ X Ng qg sg g cdg s H).A)
    (hbody : ∀ (A : Around) (outer : List Env) (s : Shared) (H : Hp), RoomG k (A.deeper (LamX.lamEnv X scope s.heap.objs.size f c')) → PE (LamX.lamCx X A outer s H E scope f c') body tb)
    (hN : Ng[0]? = some a) (hv : Vis sg a) (hd : (a == ("__debug__" : Str)) = false) (hcd : (a == ("__classdict__" : Str)) = false) :
    PE ((lamZ X Ng qg sg g cdg s H).tr pn xe) (.Call (.Name a p1) [] [] p2) (fun σ' H' Q => σ' = σz ∧ H' = Hz ∧ σz[0]? = some (some (.ref f)) ∧ Hz c' = some (LamX.CodeO c' (X.env.qual ++ "<lambda>")) ∧ tb σ Hz Q) := by
  constructor
  rintro pz sz σ' H' Q J ⟨e1, e2, slot0, code, want⟩
  subst e1
  subst e2
  -- the name: it holds the lambda
  refine wpAny_Call_Name_kw (thn ((pe_var (pos := p1) (i := 0) hN hv hd hcd).run pz sz σ' H' (fun v H1 => v = .ref f ∧ H1 = H') J ⟨.ref f, slot0, rfl, rfl⟩) ?_)
  rintro u s1 ⟨v, H1, J1, rel, rfl, rfl⟩
  obtain rfl : u = Value.ref f := rel
  have there := J1.base.keep f _ hf hfn hfr fun z => nomatch (show f ∈ ([] : List Addr) from z)
  refine PySem.W.callWith_F0 ⟨_, _, _, _, there⟩ (wpAny_call ?_)
  have kept : Un (frs X.stack) [] H H1 s.heap s1.heap := J1.base
  obtain ⟨⟨oc, fields, t, q1, q2, q3⟩, _, _⟩ := J1.hok c' _ code
  have out : ∀ e s', L2.CX X.prog X.w (lamZ X Ng qg sg g cdg s H).stack H1 s1 E e s' → xe e s' := fun e s' ce => tk e s' (XE.of_call J1 (fun cls d H' h => hW cls d H' h) ce)
  refine codeAny_mono (R := CR (L2.CX X.prog X.w) (lamZ X Ng qg sg g cdg s H).stack X.prog X.w H1 s1 Q E) ?_ fun r s' hq => ?_
  · refine PySem.W.kla_callFunE hr.room.depth there rfl L.co L.gen rfl ⟨c', oc, fields, t, rfl, q1, q2, q3⟩ ?_
    rw [List.append_nil, hbind]
    refine wpAny_pure (wpAny_newFunctionEnv (fun y hy => (L.own y hy).2) (fun y hy => absurd hy (by simp)) (fun h₁ names ext => ⟨J1.nolimit.fresh _ ext, ?_⟩) L.kind)
    have more : ∀ b o, s1.heap.get? b = some o → h₁.get? b = some o := fun b o e => ext.extBut b o (Nat.ne_of_lt (Heap.lt_size e)) (Heap.get?_push_of_some _ e)
    have Y := LamX.lam_start2 (E := E) (f := f) (c' := c') (tk := s1.toks + ([] : List (Str × Value)).length) I L J1.env0 hr.room.hd kept names more
    refine PySem.W.kla_codeExpr (wpAny_mono ((hbody _ _ s1 H1 (hr.deeper _)).run [] _ _ H1 Q Y want) ?_ fun e s' hq => hq)
    rintro v s' ⟨w', H2, Y2, rv, q⟩
    exact ⟨w', H2, Y2.os, Y2.bare, Y2.base, Y2.hok, rv, q⟩
  · cases r with
    | error e => exact out e s' hq
    | ok fl =>
      cases fl with
      | ret u => exact J1.after hq
      | next => exact hq.elim
      | brk => exact hq.elim
      | cont => exact hq.elim
end
/-- the slots behind 'kept = None' -/
def lamS (kk : Bool) (σ : L2.St) : L2.St := match kk with
  | true => σ.set 1 (some .non)
  | false => σ
def lamB (ret : Bool) (te : TE) : TS := match ret with
  | true => tRet te
  | false => tDrop te
theorem lam_drop {Z : Cx} {e : Expr} {te : TE} {p : Pos} (hs : swapsWith e none p.line Z.env = pure false) (h : PE Z e te) : PSs Z [.Expr e p] (lamB false te) := pss_one (ps_expr h hs)
section
variable {K : PySem.W.Frag} {f : Frm} {M H : Hp} {τ : List V} {T : List Cell} {σ : L2.St} {Γ : Gam}
theorem Good.tail (G : Good K f M H τ T σ Γ) {kk : Bool} {n : Nat} {σz : L2.St} (hl : σz.length = n) (hn : kk = true → 1 < n) : ∃ fz, Good K fz M H [] [] (lamS kk σz) (lamG kk n) ∧
    ∀ M' H' v c σ' Γ' c', Good K fz M' H' [v] [c] σ' Γ' → finC Γ' c = some c' → Solid c' ∧ Good K f M' H' (v :: τ) (c' :: T) σ Γ := by
  obtain ⟨fz, Gz, back⟩ := G.tail0 σz
  rw [hl] at Gz
  refine ⟨fz, ?_, back⟩
  cases kk with
  | false => exact Gz
  | true =>
    have lt := hn rfl
    have G1 := Gz.pushSh (v := .non) (d := .leaf .non) (by unfold Rep; rfl)
    refine G1.setS (i := 1) trivial NoBr.nil ?_
    have e : (List.replicate n (none : Option Cell))[1]? = some none := by rw [List.getElem?_replicate, if_pos lt]
    unfold setC
    rw [if_pos (by rw [List.length_replicate]; exact lt), e]
    rfl
end
section
variable {X : Cx} {W : WX}
theorem de_lam {k : Nat} {x a xn en : Str} {st : Stmt} {g c P : Addr} {fdg : FuncData} {Ng : List Str} {C : Addr} {ret kk : Bool} {pre : List Stmt} {b0 b1 : Stmt} {suite rest : List Stmt} {np hp tp p1 p2 : Pos} {params : Arguments} {body : Expr} {scope : Scope} {p lpos pos : Pos} {F : EF} {S R : GS} {iE : Nat}
    (bx : BodyX X W (k + 2)) (lm : Lm X c P) (hm : X.mg x = some (.ref g)) (hk : PySem.W.keepIn X.K (.ref g) = true) (Fg : Fun X.K x x st g fdg) (Sg : FnScope Ng [a] (defScope st)) (hb : L2.Binds X.K fdg [a] [])
    (hbd : defBody st = pre ++ .Try [b1] [.ExceptHandler (some (.Name xn np)) (some en) (b0 :: suite) hp] [] [] tp :: rest)
    (hex : PySem.W.exmOne X.K (.ref C) (.ref C) = some true) (hgX : X.mg xn = some (.ref C))
    (hF : ∀ (A : Around) (outer : List Env) (s : Shared) (H : Hp) (E : XK) (f c' : Addr), BodyX (LamX.lamCx X A outer s H E scope f c') (W0 E) k → DE (LamX.lamCx X A outer s H E scope f c') (W0 E) body F)
    (hpre : ∀ (cdv : Value) (s : Shared) (H : Hp) (r : List Stmt) (t : TS), PSs (lamZ X Ng x (defScope st) g cdv s H) r t → PSs (lamZ X Ng x (defScope st) g cdv s H) (pre ++ r) (fun D σ H => t D (lamS kk σ) H))
    (hb1 : ∀ (cdv : Value) (s : Shared) (H : Hp) (pn : List (Addr × Obj)) (xe : Value → Shared → Prop) (te : TE), PE ((lamZ X Ng x (defScope st) g cdv s H).tr pn xe) (.Call (.Name a p1) [] [] p2) te → PSs ((lamZ X Ng x (defScope st) g cdv s H).tr pn xe) [b1] (lamB ret te))
    (hsu : ∀ (cdv : Value) (s : Shared) (H : Hp) (a : Addr) (pn : List (Addr × Obj)), BodyX (lamZ X Ng x (defScope st) g cdv s H) WNo (k + 1) → DSs ((lamZ X Ng x (defScope st) g cdv s H).suite a pn) WNo (b0 :: suite) S)
    (hR : ∀ (cdv : Value) (s : Shared) (H : Hp), BodyX (lamZ X Ng x (defScope st) g cdv s H) WNo (k + 1) → DSs (lamZ X Ng x (defScope st) g cdv s H) WNo rest R)
    (L : LamX.LamS X.env.scope scope)
    (hn : kk = true → 1 < Ng.length) (hN0 : Ng[0]? = some a) (hva : Vis (defScope st) a) (hiE : Ng[iE]? = some en) (hle : (defScope st).names.lookup en = some .local) (hgl : (defScope st).names.lookup xn = some .globalImplicit)
    (hbind : ∀ (q : Str) (cl : List (Str × Addr)) (pm cv ctv : Value), bindArgs (PySem.W.kla_fn "<lambda>" q params body scope cl pm cv ctv) ⟨[], []⟩ = pure [])
    (hdef : defaultsOf params X.env = ([], []) := by rfl) (hg : Gl X x := by rfl) (hdb : (x == ("__debug__" : Str)) = false := by decide) (hdx : (xn == ("__debug__" : Str)) = false := by decide) (hd : (a == ("__debug__" : Str)) = false := by decide) (hcd0 : (a == ("__classdict__" : Str)) = false := by decide) :
    DE X W (.Call (.Name x p) [.Lambda params body scope lpos] [] pos) (eLam ret kk Ng.length F C iE S R) := by
  refine ⟨fun pins s σ H Q I h => ?_⟩
  obtain ⟨f0, M, τ, T, Γ, r, Γ1, G, hF1, post⟩ := h
  refine wpAny_Call_Name_kw (ld_glob I hg hm ?_ hdb)
  refine PySem.W.callWith_K (h₀ := X.base) I.ok.mod.kin hk ?_ (by rfl) (by rfl)
  show wpAny _ _ (spliced ((false, eval (.Lambda params body scope lpos) X.env) :: backTo pos (starEach [] X.env))) _ _ s
  refine Calls.spliced_cons (LamX.lam_make2 (T := lamT X.K) I lm.tb lm.code lm.mem lm.uniq G.tabs.t hdef (L.has I.ok) ?_)
  intro f c' pm ctv H1 s1 I1 eN T1 hf hfn hfr hco
  have G1 := G.extN eN T1
  obtain ⟨oc, od, kV, doc, pmg, an, cdv, ct, osl, rfl, lk, hcd⟩ := Fg.ex
  have lenZ : (L2.start Ng [V.ref f]).length = Ng.length := by
    have := lt_of_get hN0
    unfold L2.start
    rw [List.length_append, List.length_replicate]
    simp
    omega
  have slot0 : (lamS kk (L2.start Ng [V.ref f]))[0]? = some (some (V.ref f)) := by
    cases kk with
    | false => rfl
    | true =>
      show ((L2.start Ng [V.ref f]).set 1 (some .non))[0]? = _
      rw [List.getElem?_set_ne (by decide)]
      rfl
  -- the callee, by its statements
  have run : codeAny (model X.prog X.w) X.A (.call (.ref g) ⟨[.ref f], []⟩) (CR C8.CX0 X.stack X.prog X.w H1 s1 Q C8.E0) s1 := by
    refine LamX.run_ofS (N := Ng) (ps := [a]) (us := [.ref f]) (vs := [.ref f]) lk hcd Sg bx.room.room I1.env0 (hb s1 [.ref f] I1.kIn rfl) (.cons rfl .nil) rfl fun hr' => ?_
    have bz : BodyX (lamZ X Ng x (defScope st) g cdv s1 H1) WNo (k + 1) := ⟨bx.room.deeper _, fun _ _ ⟨_, _, _, _, _, _, _, _, _, _, _, _, _, _, _, _, w⟩ => w.elim, passes_of rfl⟩
    let tb : WX → TS := fun W' D σ' H' => ∃ Ech : XK, (∀ cls d H2, Ech cls d H2 → W' cls d σ' H2) ∧ σ'[0]? = some (some (.ref f)) ∧ H' c' = some (LamX.CodeO c' (X.env.qual ++ "<lambda>")) ∧ tE X.K (W0 Ech) F σ H' (match ret with
      | true => D.rt
      | false => fun _ H2 => D.nx σ' H2)
    have htry := ps_try_trk (X := lamZ X Ng x (defScope st) g cdv s1 H1) (x := xn) (n := en) (c := .ref C) (i := iE) (body := [b1]) (suite := suite) (b₀ := b0) (np := np) (pos := tp) (pos' := hp) (tb := tb) (ts := tS X.K WNo S) rfl rfl rfl Sg.nd hiE hle ⟨hgl, hdx, .inl hgX⟩
      (fun W' pn xe tk own => ⟨fun pz sz σ' H' D J w => by
        obtain ⟨Ech, hW, h1, h2, h3⟩ := w
        have hp := pe_lamact (p1 := p1) (p2 := p2) (σz := σ') (Hz := H') (E := Ech) (pn := pn) (xe := xe) (tb := tE X.K (W0 Ech) F) I1 L hf hfn hfr (hbind _ _ _ _ _) tk hW bz.room (fun A outer s H rm => hF A outer s H Ech f c' ⟨rm, takes_of rfl rfl rfl rfl, passes_of rfl⟩) hN0 hva hd hcd0
        refine (hb1 cdv s1 H1 pn xe _ hp).run pz sz σ' H' D J ?_
        cases ret with
        | true => exact ⟨rfl, rfl, h1, h2, h3⟩
        | false => exact ⟨rfl, rfl, h1, h2, h3⟩⟩) (fun a pn => hsu cdv s1 H1 a pn bz)
    have hall := hpre cdv s1 H1 _ _ (pss_cons htry (hR cdv s1 H1 bz))
    rw [← hbd] at hall
    refine ⟨_, hall, ?_⟩
    -- what is wanted of the tail
    unfold eLam at hF1
    cases hFr : F Γ with
    | none => rw [hFr] at hF1; cases hF1
    | some rr =>
      obtain ⟨rv, Γ2⟩ := rr
      rw [hFr] at hF1
      have endR : ∀ {fz : Frm} {M' H' : Hp} {σz : L2.St} {Γz : Gam} {r' : Res} {Γe : Gam}, Good X.K fz M' H' [] [] σz Γz → (∀ M' H' v c σ' Γ' c', Good X.K fz M' H' [v] [c] σ' Γ' → finC Γ' c = some c' → Solid c' ∧ Good X.K f0 M' H' (v :: τ) (c' :: T) σ Γ2) → lamEnd R Γz Γ2 = some (r', Γe) → PostE X.K W f0 τ T σ Q r' Γe →
          tS X.K WNo R { nx := fun _ H' => Q .non H', rt := Q } σz H' := fun {fz M' H' σz Γz r' Γe} Gz back he po => by
        unfold lamEnd at he
        split at he
        · rename_i c2 Γ3 hR2
          unfold lamFin at he
          split at he
          · rename_i c3 hc3
            cases he
            exact ⟨fz, M', Γz, _, Gz, hR2, fun v σ' H2 M2 G2 => po v H2 M2 (back _ _ _ _ _ _ _ G2 hc3).2⟩
          · cases he
        · cases he
      cases rv with
      | val cv =>
        refine ⟨fun _ _ _ => False, fun _ _ _ z => z.elim, slot0, hco, f0, M, τ, T, Γ, .val cv, Γ2, G1, hFr, ?_⟩
        dsimp only at hF1
        cases ret with
        | true =>
          rw [if_pos rfl] at hF1
          split at hF1
          · cases hF1
            exact post
          · cases hF1
        | false =>
          rw [if_neg (by decide)] at hF1
          intro v H2 M2 G2
          obtain ⟨fz, Gz, back⟩ := G2.pop.tail (kk := kk) lenZ hn
          exact endR Gz back hF1 post
      | exc ex =>
        dsimp only at hF1
        split at hF1
        · rename_i hcls
          split at hF1
          · rename_i Γ3 hset
            refine ⟨fun cls d H' => wTrk X.K (.ref C) iE (tS X.K WNo S) { nx := tS X.K WNo R { nx := fun _ H' => Q .non H', rt := Q }, rt := Q } cls d (lamS kk (L2.start Ng [V.ref f])) H', fun _ _ _ z => z, slot0, hco, f0, M, τ, T, Γ, .exc ex, Γ2, G1, hFr, ?_⟩
            intro d H2 M2 G2 hx
            obtain ⟨xs, hl, hd2, rs⟩ := hx
            refine ⟨C, d, by rw [hcls], rfl, by rw [hcls]; exact hex, fun ad na => ?_⟩
            obtain ⟨fz, Gz, back⟩ := G2.tail (kk := kk) lenZ hn
            have fresh : ∀ k v c, ent ([] : List V) [] (lamS kk (L2.start Ng [V.ref f])) (lamG kk Ng.length) k = some (v, c) → ¬ own H2 v c ad := fun k v c q e => by
              obtain ⟨o, z⟩ := Gz.ownedSome q e
              rw [na] at z; cases z
            have G3 := Gz.layTake (Gz.notM na) (Gz.notB na) na fresh (exk ad C d) (fun ps z => by unfold exk at z; cases z)
            have sub : Sub M2 (upd M2 ad (exk ad C d)) := Sub.laid (Gz.notM na)
            have rep : Rep X.K (upd M2 ad (exk ad C d)) (.ref ad) (.node (.exc C ex.ns) ex.ds) := by
              unfold Rep
              exact ⟨ad, xs, rfl, ⟨hl, d, upd_same, sub _ _ hd2⟩, Reps.mono sub _ _ rs⟩
            have G4 := (G3.pushSh rep).setS trivial NoBr.nil hset
            cases hS : S Γ3 with
            | none => rw [hS] at hF1; cases hF1
            | some os =>
              refine ⟨fz, _, Γ3, os, G4, hS, ?_⟩
              rw [hS] at hF1
              cases os with
              | nx Γ4 => exact fun σ' H' M' G' => endR (G'.wipe NoBr.nil [iE]) back hF1 post
              | bk Γ4 => cases hF1
              | ct Γ4 => cases hF1
              | rt c2 Γ4 =>
                have hF2 : lamFin c2 Γ4 Γ2 = some (r, Γ1) := hF1
                unfold lamFin at hF2
                split at hF2
                · rename_i c3 hc3
                  cases hF2
                  exact fun v σ' H' M' G' => post v H' M' (back _ _ _ _ _ _ _ G' hc3).2
                · cases hF2
              | xc e2 Γ4 => cases hF1
          · cases hF1
        · cases hF1
  refine Calls.spliced_nil ⟨I1.kIn, wpAny_call (codeAny_mono run fun r s2 hq => ?_)⟩
  cases r with
  | error e => exact False.elim hq
  | ok fl =>
    cases fl with
    | ret u => exact I1.after hq
    | next => exact hq.elim
    | brk => exact hq.elim
    | cont => exact hq.elim
end
theorem lm_mk {X : Cx} {x : Str} {c P : Addr} (hx : x ∈ lamNames) (tb : TBs X.K X.mg X.base) (ht : PySem.W.tabIn X.K x = some (c, P)) (hc : X.env.code = .ref c) (hq : X.env.qual = x ++ ".<locals>.") (un : ∀ y ∈ lamNames, y = x) : Lm X c P where
  tb := tb x hx c P ht
  code := hc
  mem := by rw [hq]; exact TT_mem hx ht
  uniq := fun p hp _ => by
    obtain ⟨y, hy, _, _, e⟩ := TT_of hp
    rw [e, hq, un y hy]
section
variable {X : Cx} {Ng : List Str} {x : Str} {sg : Scope} {g : Addr}
theorem lam_pre1 {kn : Str} {p1 p2 p3 : Pos} (hN : Ng.Nodup) (hi : Ng[1]? = some kn) (hl : Loc sg kn) (cdv : Value) (s : Shared) (H : Hp) (r : List Stmt) (t : TS) (h : PSs (lamZ X Ng x sg g cdv s H) r t) :
    PSs (lamZ X Ng x sg g cdv s H) ([.Assign [.Name kn p1] (.Constant .none 0 p2) p3] ++ r) (fun D σ H => t D (lamS true σ) H) :=
  pss_cons (ps_set (i := 1) hN hi hl pe_non) h
end
/-- where a def's table stands, from the written part -/
theorem tab_mk {K : PySem.W.Frag} {x : Str} {f c P : Addr} {fd : FuncData} {oc oc2 : Value} {od od2 : Option Addr} {sl sl2 : Array (Option Value)} {vs : Array Value} (a : PySem.W.nsIn K mainGlobals x = some (some (.ref f))) (l : K.lookup f = some ⟨oc, od, .func fd, sl⟩) (hc : fd.code = .ref c)
    (lc : K.lookup c = some ⟨oc2, od2, .fields vs, sl2⟩) (hv : (vs[11]? : Option Value) = some (.ref P)) : PySem.W.tabIn K x = some (c, P) := by
  unfold PySem.W.tabIn
  rw [a]
  dsimp only
  rw [l]
  dsimp only
  rw [hc]
  dsimp only
  rw [lc]
  dsimp only
  rw [hv]
theorem tabF_mk {q : Program} {K : PySem.W.Frag} {x : Str} {f c P : Addr} {fd : FuncData} {oc oc2 : Value} {od od2 : Option Addr} {sl sl2 : Array (Option Value)} {vs : Array Value} (hn : ∀ y ∈ lamNames, y = x) (hd : ∃ d, (recsOf q).find? (fun e => e.name == x) = some d)
    (a : PySem.W.nsIn K mainGlobals x = some (some (.ref f))) (l : K.lookup f = some ⟨oc, od, .func fd, sl⟩) (hc : fd.code = .ref c) (lc : K.lookup c = some ⟨oc2, od2, .fields vs, sl2⟩) (hv : (vs[11]? : Option Value) = some (.ref P)) (nl : K.lookup P = none) : TabF q K := fun y hy => by
  rw [hn y hy]
  refine ⟨hd, fun c' P' h => ?_⟩
  rw [tab_mk a l hc lc hv] at h
  cases h
  exact nl
end DL

set_option Elab.async false
set_option linter.all false
set_option maxRecDepth 100000
set_option maxHeartbeats 4000000
/-! x(lambda: F), run -/
namespace DL
open PySem PySem.Spec PyProof.Rows L2
section
variable {Γ : Gam} {Q : Cell → Gam → Prop} {X : Exc → Gam → Prop} {kk : Bool} {n iE : Nat} {F : EF} {C : Addr} {S R : GS}
/-- the callee's last statements -/
def evTl (R : GS) (Γz : Gam) (Q : Cell → Prop) : Prop := evS R Γz (fun _ => False) (fun c Γ2 => evSome (finC Γ2 c) Q) (fun _ => False) (fun _ => False) (fun _ _ => False)
/-- the handler, then the callee's last statements -/
def evHd (C : Addr) (kk : Bool) (n iE : Nat) (S R : GS) (x : Exc) (Q : Cell → Prop) : Prop := x.cls = C ∧ evSome (setC iE (.sh (.node (.exc C x.ns) x.ds)) (lamG kk n)) fun Γ1 => evS S Γ1 (fun Γ2 => evTl R (clearG Γ2 [iE]) Q) (fun c Γ2 => evSome (finC Γ2 c) Q) (fun _ => False) (fun _ => False) (fun _ _ => False)
theorem evTl_end {Γz Γ' : Gam} {Q : Cell → Gam → Prop} (h : evTl R Γz fun c => Q c Γ') : ∃ c, lamEnd R Γz Γ' = some (.val c, Γ') ∧ Q c Γ' := by
  obtain ⟨o, e, q⟩ := h
  cases o with
  | rt c Γ2 =>
    obtain ⟨c', e2, q⟩ := q
    exact ⟨c', by unfold lamEnd; rw [e]; dsimp only; unfold lamFin; rw [e2], q⟩
  | nx Γ => exact q.elim
  | bk Γ => exact q.elim
  | ct Γ => exact q.elim
  | xc x Γ => exact q.elim
theorem evHd_end {x : Exc} {Γ' : Gam} {Q : Cell → Gam → Prop} {r : EF} (h : evHd C kk n iE S R x fun c => Q c Γ') : ∃ c, (if x.cls = C then (match setC iE (.sh (.node (.exc C x.ns) x.ds)) (lamG kk n) with
      | some Γ1 => (match kTry iE (S Γ1) with
        | some (.nx Γ2) => lamEnd R Γ2 Γ'
        | some (.rt c Γ2) => lamFin c Γ2 Γ'
        | _ => none)
      | none => none) else none) = some (.val c, Γ') ∧ Q c Γ' := by
  obtain ⟨hc, Γ1, e1, o, e2, q⟩ := h
  rw [if_pos hc, e1]
  dsimp only
  rw [e2]
  cases o with
  | nx Γ2 =>
    obtain ⟨c, e3, q⟩ := evTl_end q
    exact ⟨c, e3, q⟩
  | rt c Γ2 =>
    obtain ⟨c', e3, q⟩ := q
    exact ⟨c', by show lamFin c Γ2 Γ' = _; unfold lamFin; rw [e3], q⟩
  | bk Γ => exact q.elim
  | ct Γ => exact q.elim
  | xc x Γ => exact q.elim
theorem evLamE (h : evE F Γ (fun _ Γ' => evTl R (lamG kk n) fun c => Q c Γ') (fun x Γ' => evHd C kk n iE S R x fun c => Q c Γ')) : evE (eLam false kk n F C iE S R) Γ Q X := by
  obtain ⟨r, Γ1, e, q⟩ := h
  cases r with
  | val c =>
    obtain ⟨c', e2, q2⟩ := evTl_end q
    exact ⟨.val c', Γ1, by unfold eLam; rw [e]; dsimp only; rw [if_neg (by decide)]; exact e2, q2⟩
  | exc x =>
    obtain ⟨c, e2, q2⟩ := evHd_end (r := F) q
    exact ⟨.val c, Γ1, by unfold eLam; rw [e]; exact e2, q2⟩
end
end DL

set_option Elab.async false
set_option linter.all false
set_option maxRecDepth 100000
set_option maxHeartbeats 4000000
/-! x not in range(a, b); isinstance(e, (C, D)) of a caught exception, with classes of the program -/
namespace DL
open PySem PySem.Spec PyProof.Rows L2
def eNotInR (A B C : EF) : EF := bindE A fun c => bindE B fun c1 => bindE C fun c2 Γ => match look Γ c, look Γ c1, look Γ c2 with
  | some (.leaf (.int i)), some (.leaf (.int lo)), some (.leaf (.int hi)) => some (.val (.sh (.leaf (.bl (!decide (lo ≤ i ∧ i < hi))))), Γ)
  | _, _, _ => none
section
variable {X : Cx} {W : WX} {a b c e t1 t2 : Expr} {A B C : EF} {p cpos pos tpos : Pos}
theorem evNotInR {Γ : Gam} {Q : Cell → Gam → Prop} {Y : Exc → Gam → Prop} (h : evE A Γ (fun c Γ1 => evE B Γ1 (fun c1 Γ2 => evE C Γ2 (fun c2 Γ3 => evInt (look Γ3 c) fun i => evInt (look Γ3 c1) fun lo => evInt (look Γ3 c2) fun hi => Q (.sh (.leaf (.bl (!decide (lo ≤ i ∧ i < hi))))) Γ3) Y) Y) Y) : evE (eNotInR A B C) Γ Q Y := by
  refine evE_bind (evE_mono h (fun c Γ1 q => evE_bind (evE_mono q (fun c1 Γ2 q => evE_bind (evE_mono q (fun c2 Γ3 q => ?_) fun _ _ z => z)) fun _ _ z => z)) fun _ _ z => z)
  obtain ⟨i, e0, lo, e1, hi, e2, q⟩ := q
  exact ⟨_, Γ3, by dsimp only; rw [e0, e1, e2], q⟩
/-! ### isinstance(e, (C, D)) -/
end
end DL

open DL
local macro_rules | `(tactic| walk_at "kt") => `(tactic| first | exact kt_NoneType_bool | exact kt_NoneType_int | exact kt_NoneType_str | exact kt_NoneType_list | exact kt_NoneType_tuple | exact kt_NoneType_dict | exact kt_bool_bool | exact kt_bool_int | exact kt_bool_str | exact kt_bool_list | exact kt_bool_tuple | exact kt_bool_dict | exact kt_int_bool | exact kt_int_int | exact kt_int_str | exact kt_int_list | exact kt_int_tuple | exact kt_int_dict | exact kt_str_bool | exact kt_str_int | exact kt_str_str | exact kt_str_list | exact kt_str_tuple | exact kt_str_dict | exact kt_list_bool | exact kt_list_int | exact kt_list_str | exact kt_list_list | exact kt_list_tuple | exact kt_list_dict | exact kt_tuple_bool | exact kt_tuple_int | exact kt_tuple_str | exact kt_tuple_list | exact kt_tuple_tuple | exact kt_tuple_dict | exact kt_dict_bool | exact kt_dict_int | exact kt_dict_str | exact kt_dict_list | exact kt_dict_tuple | exact kt_dict_dict | fail)
local macro_rules | `(tactic| walk_at "sd") => `(tactic| first | assumption | omega | decide | (simp; done) | (simp; omega) | fail)
local macro_rules | `(tactic| walk_at "evS") => `(tactic| first
  | with_reducible refine evSeq ?_
  | with_reducible refine evSet ?_
  | with_reducible refine evSIf ?_
  | with_reducible refine evSNil ?_
  | with_reducible refine evRet ?_
  | with_reducible refine evExpr ?_
  | with_reducible refine evSFldO ?_
  | with_reducible refine evStore ?_
  | with_reducible refine evPar ?_
  | with_reducible refine evPar3 ?_
  | with_reducible refine evSFor ?_
  | with_reducible refine evAsg ?_
  | with_reducible refine evPass ?_
  | with_reducible refine evBreak ?_
  | with_reducible refine evCont ?_
  | with_reducible refine evRetN ?_
  | with_reducible refine evRaise ?_
  | with_reducible refine evTry ?_
  | fail)
local macro_rules | `(tactic| walk_at "evE") => `(tactic| first
  | with_reducible refine evC ?_
  | with_reducible refine evVar _ (by with_unfolding_all exact rfl) ?_
  | with_reducible refine evBin ?_
  | with_reducible refine evKeepN ?_
  | with_reducible refine evCallE ?_
  | with_reducible refine evCallN ?_
  | with_reducible refine evCallM2 ?_
  | with_reducible refine evCallT ?_
  | with_reducible refine evMake ?_
  | with_reducible refine evMeth ?_
  | with_reducible refine evOfL ?_
  | with_reducible refine evBI ?_
  | with_reducible refine evSolidN ?_
  | with_reducible refine evUn ?_
  | with_reducible refine evMet ?_
  | (with_reducible refine evMut_id ?_; first | with_reducible refine evMutN (evSt_mk _ _ (by with_unfolding_all exact rfl) ⟨by with_unfolding_all exact rfl, by with_unfolding_all decide⟩) ?_ | fail)
  | with_reducible refine evEand ?_
  | with_reducible refine evEor ?_
  | with_reducible refine evEnot ?_
  | with_reducible refine evIf ?_
  | with_reducible refine evChain ?_
  | with_reducible refine evDict0 ?_
  | with_reducible refine evNotInR ?_
  | with_reducible refine evDisp ?_
  | with_reducible refine evSlice ?_
  | with_reducible refine evD ?_
  | with_reducible refine evLc ?_
  | fail)
local macro_rules | `(tactic| walk_at "evT") => `(tactic| first
  | with_reducible refine evTof ?_
  | with_reducible refine evTand ?_
  | with_reducible refine evTor ?_
  | with_reducible refine evTnot ?_
  | with_reducible refine evTyes ?_
  | fail)
local macro_rules | `(tactic| walk_at "evA") => `(tactic| first
  | with_reducible refine evCons ?_
  | with_reducible refine evNil ?_
  | with_reducible refine evApp ?_
  | with_reducible refine evLen ?_
  | fail)
local macro_rules | `(tactic| walk_at "evSm") => `(tactic| first
  | (with_reducible refine evPut_id ?_; first | (with_reducible refine evPutF (by with_unfolding_all first | exact rfl | assumption) (by with_unfolding_all exact rfl) ?_) | fail)
  | (with_reducible refine evR1_id ?_; first | with_reducible refine evRange1 (by walk_at "sd") ?_ | fail)
  | (with_reducible refine evR2_id ?_; first | with_reducible refine evRange2 (by walk_at "sd") ?_ | fail)
  | with_reducible refine evSome_mk _ (by with_unfolding_all exact rfl) ?_
  | fail)
local macro_rules | `(tactic| walk_at "evPP") => `(tactic| first
  | with_reducible refine evNm ?_
  | with_reducible refine evPTup (by with_unfolding_all exact rfl) ?_
  | with_reducible refine evPLst (by with_unfolding_all exact rfl) ?_
  | fail)
local macro_rules | `(tactic| walk_at "evX") => `(tactic| first
  | (with_reducible refine ev2_id ?_; first | with_reducible refine ev2_mk _ _ (by with_unfolding_all exact rfl) (by with_unfolding_all exact rfl) ?_ | fail)
  | (with_reducible refine evKp_id ?_; first | with_reducible refine evKp_mk _ _ (by with_unfolding_all exact rfl) ?_ | fail)
  | (with_reducible refine evSome_id ?_; first | walk_at "evSm" | fail)
  | (with_reducible refine evL_id ?_; first | with_reducible refine evL_mk _ (by with_unfolding_all exact rfl) ?_ | fail)
  | (with_reducible refine evSd_id ?_; first | with_reducible refine evSd_mk _ _ (by with_unfolding_all exact rfl) ?_ | fail)
  | (with_reducible refine ev1_id ?_; first | with_reducible refine ev1_mk _ (by with_unfolding_all exact rfl) ?_ | fail)
  | (with_reducible refine evBl_id ?_; first | with_reducible refine evBl_mk (by with_unfolding_all exact rfl) ?_ | fail)
  | (with_reducible refine evSt_id ?_; first | with_reducible refine evSt_mk _ _ (by with_unfolding_all exact rfl) ?_ | fail)
  | (with_reducible refine evInt_id ?_; first | with_reducible refine evInt_mk (by with_unfolding_all exact rfl) ?_ | fail)
  | (with_reducible refine evI_id ?_; first | with_reducible refine evIOfL ?_ | with_reducible refine evISeq ?_ | fail)
  | (with_reducible refine evP_id ?_; first | walk_at "evPP" | fail)
  | (with_reducible refine evPs_id ?_; first | with_reducible refine evPCons ?_ | with_reducible refine evPNil ?_ | fail)
  | (with_reducible refine evO_id ?_; first | with_reducible refine evONone ?_ | with_reducible refine evOSome ?_ | fail)
  | (with_reducible refine evIns_id ?_; first | with_reducible refine evIns_mk _ _ (by with_unfolding_all exact rfl) (by decide) ?_ | fail)
  | (with_reducible refine evRc_id ?_; first | with_reducible refine evRc_mk _ _ (by with_unfolding_all exact rfl) (by with_unfolding_all decide) ?_ | fail)
  | (with_reducible refine evNoB_id ?_; first | with_reducible refine evNoB_mk _ (by with_unfolding_all exact rfl) ?_ | fail)
  | (with_reducible refine evOw_id ?_; first | with_reducible refine evOw_mk ?_ | fail)
  | (with_reducible refine evP2_id ?_; first | with_reducible refine evP2_mk _ _ (by with_unfolding_all exact rfl) ?_ | fail)
  | (with_reducible refine evTy_id ?_; first | with_reducible refine evTy_mk _ (by with_unfolding_all exact rfl) ⟨by with_unfolding_all exact rfl, by with_unfolding_all decide⟩ ?_ | fail)
  | (with_reducible refine evDL_id ?_; first | with_reducible refine evDL_mk _ _ (by with_unfolding_all exact rfl) (by with_unfolding_all exact rfl) ?_ | fail)
  | (with_reducible refine evPr_id ?_; first | with_reducible refine evPr_mk (by with_unfolding_all exact rfl) (by with_unfolding_all exact rfl) ?_ | fail)
  | (with_reducible refine evPr3_id ?_; first | with_reducible refine evPr3_mk (by with_unfolding_all exact rfl) (by with_unfolding_all exact rfl) (by with_unfolding_all exact rfl) ?_ | fail)
  | (with_reducible refine ev2B_id ?_; first | with_reducible refine ev2B_lt (by with_unfolding_all exact rfl) (by with_unfolding_all exact rfl) ?_ | with_reducible refine ev2B_le (by with_unfolding_all exact rfl) (by with_unfolding_all exact rfl) ?_ | with_reducible refine ev2B_gt (by with_unfolding_all exact rfl) (by with_unfolding_all exact rfl) ?_ | with_reducible refine ev2B_ge (by with_unfolding_all exact rfl) (by with_unfolding_all exact rfl) ?_ | fail)
  | fail)
local macro_rules | `(tactic| walk_at "evF") => `(tactic| first
  | (with_reducible refine fk_id ?_; first | with_reducible refine fkT ?_ | with_reducible refine fkF ?_ | with_reducible refine fkN ?_ | ((with_reducible refine fkD_id ?_; first | with_reducible refine fkDT (by walk_at "sd") ?_ | with_reducible refine fkDF (by walk_at "sd") ?_ | with_reducible refine fkD (fun hb => ?_) (fun hb => ?_) | fail)) | fail)
  | (with_reducible refine and_id ?_; first | with_reducible refine ⟨by with_unfolding_all exact rfl, ?_⟩ | fail)
  | fail)
local macro_rules | `(tactic| walk_at "evg") => `(tactic| first
  | (with_reducible refine evG_1 (gIsi2 _ _) ?_; first | with_reducible refine vIsi2a (by with_unfolding_all exact rfl) (by walk_at "kt") (by walk_at "kt") ?_ | with_reducible refine vIsi2b (by with_unfolding_all exact rfl) (by walk_at "kt") (by walk_at "kt") ?_ | with_reducible refine vIsi2f (by with_unfolding_all exact rfl) (by walk_at "kt") (by walk_at "kt") ?_ | fail)
  | with_reducible refine vAdd ?_
  | with_reducible refine vSub ?_
  | (with_reducible refine evG_2 gMul ?_; first | with_reducible refine vMul (by walk_at "sd") ?_ | fail)
  | (with_reducible refine evG_2 gMod ?_; first | with_reducible refine vMod (by walk_at "sd") ?_ | fail)
  | (with_reducible refine evG_2 gFdiv ?_; first | with_reducible refine vFdiv (by walk_at "sd") ?_ | fail)
  | (with_reducible refine evG_2 gIx ?_; first | with_reducible refine vIxL (by with_unfolding_all exact rfl) ?_ | with_reducible refine vIxT (by with_unfolding_all exact rfl) ?_ | fail)
  | (with_reducible refine evG_L gTupD ?_; first | (with_reducible refine vTup (by first | decide | walk_at "sd") ?_) | fail)
  | (with_reducible refine evG_L gLstD ?_; first | (with_reducible refine vLst (by first | decide | walk_at "sd") ?_) | fail)
  | (with_reducible refine evG_1 (gFld _ _) ?_; first | with_reducible refine vFld _ (by with_unfolding_all exact rfl) ?_ | fail)
  | (with_reducible refine evG_1 (gXf _ _) ?_; first | with_reducible refine vXf _ (by with_unfolding_all exact rfl) ?_ | fail)
  | (with_reducible refine evG_2 gPow ?_; first | with_reducible refine vPow (by decide) (by simp only [Int.reduceToNat, Int.reducePow]; rfl) ?_ | fail)
  | with_reducible refine vNeg ?_
  | with_reducible refine vLt ?_
  | with_reducible refine vLe ?_
  | with_reducible refine vGt ?_
  | with_reducible refine vGe ?_
  | with_reducible refine vEqI ?_
  | with_reducible refine vNeI ?_
  | with_reducible refine vEqS ?_
  | with_reducible refine vNeS ?_
  | with_reducible refine vEqB ?_
  | with_reducible refine vNeB ?_
  | with_reducible refine vIsNn ?_
  | with_reducible refine vIsNd ?_
  | with_reducible refine vIsNi ?_
  | with_reducible refine vIsNs ?_
  | with_reducible refine vNotNn ?_
  | with_reducible refine vNotNd ?_
  | with_reducible refine vNotNi ?_
  | with_reducible refine vNotNs ?_
  | with_reducible refine vIsN ?_
  | with_reducible refine vNotN ?_
  | with_reducible refine vIsB ?_
  | with_reducible refine vNotB ?_
  | with_reducible refine vLenL ?_
  | with_reducible refine vLenT ?_
  | with_reducible refine vLenS ?_
  | with_reducible refine vLenD ?_
  | with_reducible refine vAbs ?_
  | with_reducible refine vMin2 ?_
  | with_reducible refine vMax2 ?_
  | with_reducible refine vListL ?_
  | with_reducible refine vSorted ?_
  | with_reducible refine vListT ?_
  | with_reducible refine vListS ?_
  | with_reducible refine vTupleL ?_
  | with_reducible refine vTupleS ?_
  | with_reducible refine vCutL ?_
  | with_reducible refine vCutS ?_
  | with_reducible refine vCutT ?_
  | with_reducible refine vRevL ?_
  | with_reducible refine vRevT ?_
  | with_reducible refine vVals ?_
  | with_reducible refine vNeE0 ?_
  | with_reducible refine vEqE0 ?_
  | with_reducible refine vNeE1 ?_
  | with_reducible refine vEqE1 ?_
  | with_reducible refine vNeE ?_
  | with_reducible refine vEqE ?_
  | with_reducible refine vIsX ?_
  | (with_reducible refine evG_2 gAdd ?_; first | with_reducible refine vAddL (by walk_at "sd") ?_ | with_reducible refine vAddT (by walk_at "sd") ?_ | fail)
  | (with_reducible refine evG_L gIsi ?_; first | (with_reducible refine vIsi (by first | with_unfolding_all exact rfl | assumption) (by walk_at "kt") ?_) | fail)
  | fail)
local macro_rules | `(tactic| walk_at "ev") => `(tactic| first
  | (with_reducible refine evE_id ?_; walk_at "evE")
  | (with_reducible refine evG_id ?_; walk_at "evg")
  | (with_reducible refine evA_id ?_; walk_at "evA")
  | walk_at "evX"
  | (with_reducible refine evS_id ?_; walk_at "evS")
  | (with_reducible refine evT_id ?_; walk_at "evT")
  | walk_at "evF"
  | (with_reducible refine evM_id ?_; walk_at "evM")
  | fail)

namespace Gm
open PySem PySem.Spec PyProof.Rows L2 DL
def d_PRIMES : D := .node .tup [.leaf (.int 2), .leaf (.int 3), .leaf (.int 5), .leaf (.int 7), .leaf (.int 11), .leaf (.int 13)]

end Gm
namespace Gm
open PySem PySem.Spec PyProof.Rows L2 DL

abbrev penK : List Key := [Sum.inr "cells", Sum.inr "turn", Sum.inr "rest"]
section
variable {Γ : Gam} {Q : Cell → Gam → Prop} {c t r : D}
theorem kCR : ¬ (("cells" : Str) = "rest") := by decide
theorem kTR : ¬ (("turn" : Str) = "rest") := by decide
theorem kRT : ¬ (("rest" : Str) = "turn") := by decide
theorem kCT : ¬ (("cells" : Str) = "turn") := by decide
theorem penCells (q : Q (.sh c) Γ) : evG (gGet (.node (.dk penK) [c, t, r]) (.leaf (.str "cells"))) Γ Q := vGetS (by simp [getK]) q
theorem penTurn (q : Q (.sh t) Γ) : evG (gGet (.node (.dk penK) [c, t, r]) (.leaf (.str "turn"))) Γ Q := vGetS (by simp [getK, kCT]) q
theorem penRest (q : Q (.sh r) Γ) : evG (gGet (.node (.dk penK) [c, t, r]) (.leaf (.str "rest"))) Γ Q := vGetS (by simp [getK, kCR, kTR]) q
theorem stTurn {Q : Tag → List D → Prop} {d : D} (q : Q (.dk penK) [c, d, r]) : evPt (gStore (.dk penK) [c, t, r] (.leaf (.str "turn")) d) Q := evPt_mk _ _ (by simp [gStore, putK2, putL, kCT, kRT]) q
theorem stRest {Q : Tag → List D → Prop} {d : D} (q : Q (.dk penK) [c, t, d]) : evPt (gStore (.dk penK) [c, t, r] (.leaf (.str "rest")) d) Q := evPt_mk _ _ (by simp [gStore, putK2, putL, kCR, kTR]) q
end
/-- a pen -/
abbrev penC (ns : List Int) (t r : Int) : Cell := .ow (.dk penK) [.node .lst (intsD ns), .leaf (.int t), .leaf (.int r)]
abbrev penR (ns : List Int) (t r : Int) : Cell := .rf (.dk penK) [.node .lst (intsD ns), .leaf (.int t), .leaf (.int r)]
theorem atI_ints {ns : List Int} {i : Int} (h0 : 0 ≤ i) (h1 : i < ns.length) : ∃ v, atI (intsD ns) i = some (.leaf (.int v)) := by
  obtain ⟨d, h2, h3⟩ := atI_of (l := intsD ns) h0 (by simpa using h1)
  rw [List.getElem?_map] at h2
  cases e : ns[i.toNat]? with
  | none => rw [e] at h2; cases h2
  | some v => rw [e] at h2; cases h2; exact ⟨v, h3⟩
theorem mod_lt {a b : Int} (h : 0 < b) : 0 ≤ a % b ∧ a % b < b := ⟨Int.emod_nonneg a (by omega), Int.emod_lt_of_pos a h⟩
section
variable {Γ : Gam} {Q : Cell → Gam → Prop} {i j : Int} {ns : List Int}
theorem vNe0 (q : Q (.sh (.leaf (.bl (!decide (ns = []))))) Γ) : evG (gNe (.node .lst (intsD ns)) (.node .lst [])) Γ Q := vNe (eqD_ints ns []) q
theorem vLenI (q : Q (.sh (.leaf (.int ns.length))) Γ) : evG (gLen [.node .lst (intsD ns)]) Γ Q := vLenL (by rw [List.length_map]; exact q)
theorem vIxI (h0 : 0 ≤ i) (h1 : i < ns.length) (q : ∀ v, Q (.sh (.leaf (.int v))) Γ) : evG (gIx (.node .lst (intsD ns)) (.leaf (.int i))) Γ Q := by
  obtain ⟨v, h⟩ := atI_ints h0 h1
  exact vIxL h (q v)
theorem vModA (h : 0 < j) (q : ∀ k : Int, 0 ≤ k → k < j → Q (.sh (.leaf (.int k))) Γ) : evG (gMod (.leaf (.int i)) (.leaf (.int j))) Γ Q := vMod h (q _ (mod_lt h).1 (mod_lt h).2)
theorem vFdivA (h : 0 < j ∧ j < 115792089237316195423570985008687907853269984665640564039457584007913129639936) (h0 : 0 ≤ i) (q : ∀ k : Int, 0 ≤ k → Q (.sh (.leaf (.int k))) Γ) : evG (gFdiv (.leaf (.int i)) (.leaf (.int j))) Γ Q := vFdiv h (q _ (Int.ediv_nonneg h0 (by omega)))
theorem vIxP {a : Int} (h0 : 0 ≤ a) (h1 : a < 5) (q : ∀ v : Int, 2147483563 ≤ v → v ≤ 2147483647 → Q (.sh (.leaf (.int v))) Γ) : evG (gIx (.node .lst [.leaf (.int 2147483647), .leaf (.int 2147483629), .leaf (.int 2147483587), .leaf (.int 2147483579), .leaf (.int 2147483563)]) (.leaf (.int a))) Γ Q := by
  have : a = 0 ∨ a = 1 ∨ a = 2 ∨ a = 3 ∨ a = 4 := by omega
  rcases this with h | h | h | h | h <;> subst h
  · exact vIxL (d := .leaf (.int 2147483647)) rfl (q _ (by decide) (by decide))
  · exact vIxL (d := .leaf (.int 2147483629)) rfl (q _ (by decide) (by decide))
  · exact vIxL (d := .leaf (.int 2147483587)) rfl (q _ (by decide) (by decide))
  · exact vIxL (d := .leaf (.int 2147483579)) rfl (q _ (by decide) (by decide))
  · exact vIxL (d := .leaf (.int 2147483563)) rfl (q _ (by decide) (by decide))
end
theorem vLenScr {Γ : Gam} {Q : Cell → Gam → Prop} {ns : List Int} (q : Q (.sh (.leaf (.int ns.length))) Γ) : evG (gLen [scriptD ns]) Γ Q := vLenS (by rw [List.length_map]; exact q)
theorem vMin2A {Γ : Gam} {Q : Cell → Gam → Prop} {i j : Int} (q : ∀ k : Int, k ≤ i → k ≤ j → (k = i ∨ k = j) → Q (.sh (.leaf (.int k))) Γ) : evG (gMin2 [.leaf (.int i), .leaf (.int j)]) Γ Q := vMin2 (by
  by_cases h : j < i
  · rw [if_pos h]; exact q j (by omega) (by omega) (.inr rfl)
  · rw [if_neg h]; exact q i (by omega) (by omega) (.inl rfl))

end Gm
namespace Gm
open PySem PySem.Spec PyProof.Rows L2 DL
noncomputable def g__law_draw : GS := sSeq (sIf (tOf (eBin gGt (eBin gGet (eVar 0) (eC (.str "rest"))) (eC (.int 0)))) (sSeq (sSet 2 (eBin gMod (eBin gGet (eVar 0) (eC (.str "rest"))) (eVar 1)))
  (sSeq (sStore 0 (eBin gFdiv (eBin gGet (eVar 0) (eC (.str "rest"))) (eVar 1)) (eC (.str "rest")))
  (sRet (eVar 2)))) (sNil))
  (sSeq (sSet 3 (eBin gGet (eVar 0) (eC (.str "turn"))))
  (sSeq (sStore 0 (eBin gAdd (eVar 3) (eC (.int 1))) (eC (.str "turn")))
  (sSeq (sSet 4 (eBin gAdd (eBin gMul (eC (.int 37)) (eVar 3)) (eC (.int 11))))
  (sSeq (sIf (tOf (eBin gNe (eBin gGet (eVar 0) (eC (.str "cells"))) (eOfL gLstD (aNil)))) (sSet 4 (eBin gIx (eBin gGet (eVar 0) (eC (.str "cells"))) (eBin gMod (eVar 3) (eBI gLen (aCons (eBin gGet (eVar 0) (eC (.str "cells"))) (aNil)))))) (sNil))
  (sSeq (sIf (tAndD (tOf (eBin gLt (eVar 3) (eBI gLen (aCons (eBin gGet (eVar 0) (eC (.str "cells"))) (aNil))))) (tOf (eBin gGe (eBI gAbs (aCons (eVar 4) (aNil))) (eBin gPow (eC (.int 10)) (eC (.int 18)))))) (sSeq (sStore 0 (eBin gFdiv (eBin gSub (eBI gAbs (aCons (eVar 4) (aNil))) (eBin gPow (eC (.int 10)) (eC (.int 18)))) (eVar 1)) (eC (.str "rest")))
  (sRet (eBin gMod (eBin gSub (eBI gAbs (aCons (eVar 4) (aNil))) (eBin gPow (eC (.int 10)) (eC (.int 18)))) (eVar 1)))) (sNil))
  (sSeq (sSet 5 (eOfL gLstD (aCons (eKeep (eC (.int 2147483647))) (aCons (eKeep (eC (.int 2147483629))) (aCons (eKeep (eC (.int 2147483587))) (aCons (eKeep (eC (.int 2147483579))) (aCons (eKeep (eC (.int 2147483563))) (aNil))))))))
  (sSeq (sSet 6 (eBin gIx (eVar 5) (eBin gMod (eVar 3) (eC (.int 5)))))
  (sSeq (sSet 7 (eBin gMod (eBin gAdd (eBin gAdd (eBin gMul (eBin gMod (eVar 4) (eVar 6)) (eC (.int 69621))) (eBin gMul (eBin gMul (eC (.int 40692)) (eVar 3)) (eVar 3))) (eC (.int 17))) (eVar 6)))
  (sSeq (sSet 7 (eBin gMod (eBin gMul (eVar 7) (eBin gAdd (eVar 7) (eC (.int 48271)))) (eBin gIx (eVar 5) (eBin gMod (eBin gAdd (eVar 3) (eC (.int 3))) (eC (.int 5))))))
  (sRet (eBin gMod (eBin gFdiv (eBin gMod (eBin gMul (eVar 7) (eVar 7)) (eC (.int 2147483549))) (eC (.int 64))) (eVar 1))))))))))))
noncomputable def m__law_draw : MF := runD 8 g__law_draw
local macro_rules | `(tactic| walk_at "evg") => `(tactic| first
    | with_reducible refine vModA (by walk_at "sd") (fun k h1 h2 => ?_)
    | with_reducible refine vFdivA (by walk_at "sd") (by walk_at "sd") (fun k h1 => ?_)
    | with_reducible refine vNe0 ?_
    | with_reducible refine vLenI ?_
    | with_reducible refine vIxI (by walk_at "sd") (by walk_at "sd") (fun v => ?_)
    | with_reducible refine vIxP (by walk_at "sd") (by walk_at "sd") (fun v h1 h2 => ?_)
    | with_reducible refine penRest ?_ | with_reducible refine penTurn ?_ | with_reducible refine penCells ?_)
set_option maxHeartbeats 40000000 in
theorem draw_ok (ns : List Int) (t r many : Int) (ht : 0 ≤ t ∧ t < 1000000000000000000000000000000) (hr : 0 ≤ r) (hm : 0 < many ∧ many < 115792089237316195423570985008687907853269984665640564039457584007913129639936) {Q : Cell → List Cell → Prop} {X : Exc → List Cell → Prop}
    (q : ∀ d t' r' : Int, 0 ≤ d → d < many → 0 ≤ t' → t' ≤ t + 1 → 0 ≤ r' → Q (.sh (.leaf (.int d))) [penC ns t' r', .sh (.leaf (.int many))]) :
    evM m__law_draw [penC ns t r, .sh (.leaf (.int many))] Q X := by
  refine evDef _ (by rfl) ?_
  unfold g__law_draw
  have hl : ns = [] ∨ 0 < (ns.length : Int) ∧ ¬ ns = [] := by
    cases ns with
    | nil => exact .inl rfl
    | cons n ns => exact .inr ⟨by rw [List.length_cons]; omega, by simp⟩
  rcases hl with hl | ⟨hl, hn⟩
  all_goals
    repeat' (first | walk_at "ev" | with_reducible refine stRest ?_ | with_reducible refine stTurn ?_ | exact q _ _ _ (by omega) (by omega) (by omega) (by omega) (by omega))

end Gm
namespace Gm
open PySem PySem.Spec PyProof.Rows L2 DL
noncomputable def g__law_pick : GS := sRet (eBin gIx (eVar 1) (eCallN 2 m__law_draw [] (aCons (eVar 0) (aCons (eKeep (eBI gLen (aCons (eVar 1) (aNil)))) (aNil)))))
noncomputable def m__law_pick : MF := runD 2 g__law_pick
theorem pick_ok (ns : List Int) (t r : Int) (ds : List D) (ht : 0 ≤ t ∧ t < 1000000000000000000000000000000) (hr : 0 ≤ r) (h0 : 0 < ds.length) (h1 : ds.length ≤ 16777216) {Q : Cell → List Cell → Prop} {X : Exc → List Cell → Prop}
    (q : ∀ (d : D) (t' r' : Int), d ∈ ds → 0 ≤ t' → t' ≤ t + 1 → 0 ≤ r' → Q (.sh d) [penC ns t' r', .sh (.node .lst ds)]) :
    evM m__law_pick [penC ns t r, .sh (.node .lst ds)] Q X := by
  refine evDef _ (by rfl) ?_
  unfold g__law_pick
  repeat' walk_at "ev"
  refine draw_ok ns t r _ ht hr (by omega) fun d t' r' a1 a2 a3 a4 a5 => ?_
  repeat' (first | with_reducible refine ev2_mk _ _ (by with_unfolding_all exact rfl) (by with_unfolding_all exact rfl) ?_ | walk_at "evX" | walk_at "evF")
  obtain ⟨e, h2, h3⟩ := atI_of (l := ds) a1 a2
  refine vIxL h3 ?_
  repeat' walk_at "ev"
  exact q e _ _ (List.mem_iff_getElem?.mpr ⟨_, h2⟩) a3 a4 a5
end Gm
namespace Gm
open PySem PySem.Spec PyProof.Rows L2 DL

/-- a value that repr writes: of weight w and depth d at most -/
structure rOK (p : PyData) (w d : Nat) : Prop where
  s : p.showable = true
  n : p.hasDict = false
  l : p.leavesShort 40 = true
  w : p.weight ≤ w
  d : p.depth ≤ d
theorem rOK.ok {p : PyData} {w d : Nat} (h : rOK p w d) (hw : w ≤ 300000) (hd : d ≤ 50) : reprOk p = true := by
  have h1 := PyData.shown_le 40 (by decide) p h.l
  have h2 := h.w
  have h3 : (40 + 2) * p.weight ≤ 42 * 300000 := Nat.mul_le_mul (by decide) (by omega)
  unfold reprOk
  rw [h.s, h.n, decide_eq_true (show p.shown.length ≤ 16777216 by omega), decide_eq_true (show p.depth ≤ 50 by have := h.d; omega)]
  rfl
theorem rOK.mono {p : PyData} {w w' d d' : Nat} (h : rOK p w d) (hw : w ≤ w') (hd : d ≤ d') : rOK p w' d' := ⟨h.s, h.n, h.l, Nat.le_trans h.w hw, Nat.le_trans h.d hd⟩
theorem log_le {n k : Nat} (h : n < 2 ^ k) (hk : 0 < k) : n.log2 < k := by
  by_cases z : n = 0
  · subst z; simpa using hk
  · exact (Nat.log2_lt z).mpr h
theorem rOK_int {i : Int} (h : -1000000000000000000000000000000000000000 < i ∧ i < 1000000000000000000000000000000000000000) : rOK (.int i) 131 0 := by
  have hn : i.natAbs < 10 ^ 39 := by
    have : (10 : Nat) ^ 39 = 1000000000000000000000000000000000000000 := by decide
    omega
  have hl : i.natAbs.log2 < 130 := log_le (Nat.lt_of_lt_of_le hn (by decide)) (by decide)
  refine ⟨?_, rfl, ?_, ?_, Nat.le_refl _⟩
  · unfold PyData.showable
    exact decide_eq_true (by omega)
  · unfold PyData.leavesShort
    refine decide_eq_true ?_
    have e := int_text_length_le10 (k := 39) (by decide) hn
    show (Str.ofString (toString i)).length ≤ 40
    rw [PySem.ofString_length]; exact e
  · unfold PyData.weight
    split <;> omega
theorem rOK_non : rOK .none 0 0 := ⟨rfl, rfl, rfl, Nat.le_refl _, Nat.le_refl _⟩
theorem rOK_bl (b : Bool) : rOK (.bool b) 0 0 := ⟨rfl, rfl, rfl, Nat.le_refl _, Nat.le_refl _⟩
theorem rOK_all {w d : Nat} : ∀ {ps : List PyData}, (∀ p ∈ ps, rOK p w d) → PyData.showableAll ps = true ∧ PyData.hasDictAll ps = false ∧ PyData.leavesShortAll 40 ps = true ∧ PyData.weightAll ps ≤ ps.length * (w + 1) ∧ PyData.depthAll ps ≤ d
  | [], _ => ⟨rfl, rfl, rfl, by simp [PyData.weightAll], by unfold PyData.depthAll; omega⟩
  | p :: ps, h => by
    obtain ⟨a1, a2, a3, a4, a5⟩ := rOK_all (ps := ps) fun x hx => h x (by simp [hx])
    have b := h p (by simp)
    refine ⟨?_, ?_, ?_, ?_, ?_⟩
    · unfold PyData.showableAll; rw [b.s, a1]; rfl
    · unfold PyData.hasDictAll; rw [b.n, a2]; rfl
    · unfold PyData.leavesShortAll; rw [b.l, a3]; rfl
    · unfold PyData.weightAll
      have := b.w
      rw [List.length_cons, Nat.add_mul]
      omega
    · unfold PyData.depthAll
      have := b.d
      omega
theorem rOK_tup {ps : List PyData} {w d n : Nat} (h : ∀ p ∈ ps, rOK p w d) (hn : ps.length ≤ n) : rOK (.tuple ps) (n * (w + 1)) (d + 1) := by
  obtain ⟨a1, a2, a3, a4, a5⟩ := rOK_all h
  have z := Nat.mul_le_mul_right (w + 1) hn
  refine ⟨by unfold PyData.showable; exact a1, by unfold PyData.hasDict; exact a2, by unfold PyData.leavesShort; exact a3, ?_, ?_⟩
  · unfold PyData.weight; omega
  · unfold PyData.depth; omega
theorem vReprB {Γ : Gam} {Q : Cell → Gam → Prop} {b : Bool} (q : Q (.sh (.leaf (.str (PyData.shown (.bool b))))) Γ) : evG (gRepr [.leaf (.bl b)]) Γ Q := vRepr (p := .bool b) rfl ((rOK_bl b).ok (by decide) (by decide)) q

end Gm
namespace Gm
open PySem PySem.Spec PyProof.Rows L2 DL

theorem gcd_step (a b : Int) : Int.gcd b (a % b) = Int.gcd a b := by
  have h := Int.gcd_add_mul_right_left b (a % b) (a / b)
  rw [show a % b + a / b * b = a by rw [Int.mul_comm]; exact Int.emod_add_mul_ediv a b] at h
  rw [Int.gcd_comm, h]
theorem abs_nat (i : Int) : (if i < 0 then -i else i) = ((i.natAbs : Nat) : Int) := by split <;> omega
/-- the gcd, as an int -/
def gcdI (a b : Int) : Int := ((Int.gcd a b : Nat) : Int)
theorem gcdI_step (a b : Int) : gcdI b (a % b) = gcdI a b := congrArg Int.ofNat (gcd_step a b)
theorem gcdI_zero (a : Int) : gcdI a 0 = ((a.natAbs : Nat) : Int) := by unfold gcdI; rw [Int.gcd_zero_right]
theorem gcdI_comm (a b : Int) : gcdI a b = gcdI b a := congrArg Int.ofNat (Int.gcd_comm a b)
theorem vAbsN {Γ : Gam} {Q : Cell → Gam → Prop} {i : Int} (q : Q (.sh (.leaf (.int ((i.natAbs : Nat) : Int)))) Γ) : evG (gAbs [.leaf (.int i)]) Γ Q := vAbs (by rw [abs_nat]; exact q)
theorem gcdI_pos {a b : Int} (h : 0 < b) : 0 < gcdI a b := by
  have z : 0 < Int.gcd a b := Nat.gcd_pos_of_pos_right _ (by omega)
  exact Int.ofNat_lt.mpr z
theorem gcdI_dvd_left (a b : Int) : gcdI a b ∣ a := Int.gcd_dvd_left a b
theorem gcdI_dvd_right (a b : Int) : gcdI a b ∣ b := Int.gcd_dvd_right a b
theorem gcdI_one (b : Int) : gcdI 1 b = 1 := by
  have h1 : gcdI 1 b ∣ 1 := gcdI_dvd_left 1 b
  have h2 : 0 ≤ gcdI 1 b := Int.natCast_nonneg _
  exact Int.eq_one_of_dvd_one h2 h1

end Gm
namespace Gm
open PySem PySem.Spec PyProof.Rows L2 DL
noncomputable def g_is_integer : GS := sRet (eAndD (eBI gIsi (aCons (eVar 0) (aCons (eC (.ty "int")) (aNil)))) (eNotD (eBI gIsi (aCons (eVar 0) (aCons (eC (.ty "bool")) (aNil))))))
noncomputable def m_is_integer : MF := runD 1 g_is_integer
def isIntD : D → Bool
  | .leaf (.int _) => true
  | _ => false
theorem isIntD_cases {d : D} {n : String} (h : tyName d = some n) : (∃ i, d = .leaf (.int i)) ∨ (isIntD d = false ∧ (n = "NoneType" ∨ n = "bool" ∨ n = "str" ∨ n = "list" ∨ n = "tuple" ∨ n = "dict")) := by
  unfold tyName at h
  split at h
  · cases h; exact .inr ⟨rfl, by simp⟩
  · cases h; exact .inr ⟨rfl, by simp⟩
  · exact .inl ⟨_, rfl⟩
  · cases h; exact .inr ⟨rfl, by simp⟩
  · cases h; exact .inr ⟨rfl, by simp⟩
  · cases h; exact .inr ⟨rfl, by simp⟩
  · cases h; exact .inr ⟨rfl, by simp⟩
  · cases h
theorem is_integer_ok {d : D} {n : String} (h : tyName d = some n) {Q : Cell → List Cell → Prop} {X : Exc → List Cell → Prop}
    (q : Q (.sh (.leaf (.bl (isIntD d)))) [.sh d]) : evM m_is_integer [.sh d] Q X := by
  refine evDef _ (by rfl) ?_
  unfold g_is_integer
  rcases isIntD_cases h with ⟨i, rfl⟩ | ⟨hf, hn⟩
  · repeat' walk_at "ev"
    exact q
  · rw [hf] at q
    rcases hn with rfl | rfl | rfl | rfl | rfl | rfl
    all_goals
      repeat' (first | walk_at "ev" | with_reducible refine vIsi h (by with_unfolding_all exact rfl) ?_)
      exact q

end Gm
namespace Gm
open PySem PySem.Spec PyProof.Rows L2 DL
noncomputable def g_is_between : GS := sRet (eAndD (eCallN 1 m_is_integer [] (aCons (eKeep (eVar 0)) (aNil))) (eChain gLe gLe (eVar 1) (eVar 0) (eVar 2)))
noncomputable def m_is_between : MF := runD 3 g_is_between
def btw (lo hi : Int) : D → Bool
  | .leaf (.int v) => decide (lo ≤ v) && decide (v ≤ hi)
  | _ => false
theorem btw_not {d : D} (lo hi : Int) (h : isIntD d = false) : btw lo hi d = false := by
  unfold isIntD at h
  split at h
  · cases h
  · rename_i x
    unfold btw
    split
    · exact (x _ rfl).elim
    · rfl
theorem is_between_ok {d : D} {n : String} (h : tyName d = some n) (lo hi : Int) {Q : Cell → List Cell → Prop} {X : Exc → List Cell → Prop}
    (q : Q (.sh (.leaf (.bl (btw lo hi d)))) [.sh d, .sh (.leaf (.int lo)), .sh (.leaf (.int hi))]) : evM m_is_between [.sh d, .sh (.leaf (.int lo)), .sh (.leaf (.int hi))] Q X := by
  refine evDef _ (by rfl) ?_
  unfold g_is_between
  repeat' walk_at "ev"
  refine is_integer_ok h ?_
  rcases isIntD_cases h with ⟨i, rfl⟩ | ⟨hf, hn⟩
  · rw [show btw lo hi (.leaf (.int i)) = (decide (lo ≤ i) && decide (i ≤ hi)) from rfl] at q
    unfold isIntD
    repeat' walk_at "ev"
    · rename_i hb
      rw [decide_eq_true hb, Bool.true_and] at q
      exact q
    · rename_i hb
      rw [decide_eq_false hb, Bool.false_and] at q
      exact q
  · rw [btw_not lo hi hf] at q
    rw [hf]
    repeat' walk_at "ev"
    exact q

end Gm
namespace Gm
open PySem PySem.Spec PyProof.Rows L2 DL

/-- a value that repr writes -/
def rD (d : D) (w k : Nat) : Prop := ∃ p, toP d = some p ∧ rOK p w k
theorem rD.mono {d : D} {w w' k k' : Nat} (h : rD d w k) (hw : w ≤ w') (hk : k ≤ k') : rD d w' k' := by
  obtain ⟨p, h1, h2⟩ := h
  exact ⟨p, h1, h2.mono hw hk⟩
def shownD (d : D) : Prop := ∃ s, gRepr [d] = some (.old (.leaf (.str s)))
theorem rD.shown {d : D} {w k : Nat} (h : rD d w k) (hw : w ≤ 300000) (hk : k ≤ 50) : shownD d := by
  obtain ⟨p, h1, h2⟩ := h
  exact ⟨_, gRepr_of h1 (h2.ok hw hk)⟩
theorem vReprS {d : D} {s : Str} {Γ : Gam} {Q : Cell → Gam → Prop} (h : gRepr [d] = some (.old (.leaf (.str s)))) (q : Q (.sh (.leaf (.str s))) Γ) : evG (gRepr [d]) Γ Q := evG_old h q
/-- the kind of a value is known -/
def tyD (d : D) : Prop := ∃ n, tyName d = some n
theorem ty_cases {d : D} {n : String} (h : tyName d = some n) : (∃ ds, d = .node .tup ds) ∨ (n = "NoneType" ∨ n = "bool" ∨ n = "int" ∨ n = "str" ∨ n = "list" ∨ n = "dict") ∧ ∀ ds, d ≠ .node .tup ds := by
  unfold tyName at h
  split at h
  · cases h; exact .inr ⟨by simp, fun _ => nofun⟩
  · cases h; exact .inr ⟨by simp, fun _ => nofun⟩
  · cases h; exact .inr ⟨by simp, fun _ => nofun⟩
  · cases h; exact .inr ⟨by simp, fun _ => nofun⟩
  · cases h; exact .inr ⟨by simp, fun _ => nofun⟩
  · exact .inl ⟨_, rfl⟩
  · cases h; exact .inr ⟨by simp, fun _ => nofun⟩
  · cases h
/-- (a, b), integers from 0 to m - 1, a a unit -/
def uniI (m : Int) : D → Bool
  | .leaf (.int i) => decide (gcdI i m = 1)
  | _ => false
def isMapD (m : Int) : D → Bool
  | .node .tup [a, b] => btw 0 (m - 1) a && btw 0 (m - 1) b && uniI m a
  | _ => false
theorem isMapD_not {m : Int} {d : D} (h : ∀ a b, d ≠ .node .tup [a, b]) : isMapD m d = false := by
  unfold isMapD
  split
  · exact (h _ _ rfl).elim
  · rfl
theorem btw_f {lo hi i : Int} (h : i < lo ∨ hi < i) : btw lo hi (.leaf (.int i)) = false := by
  show (decide (lo ≤ i) && decide (i ≤ hi)) = false
  rcases h with h | h
  · rw [decide_eq_false (by omega), Bool.false_and]
  · rw [decide_eq_false (p := i ≤ hi) (by omega), Bool.and_false]
theorem btw_t {lo hi i : Int} (h : lo ≤ i ∧ i ≤ hi) : btw lo hi (.leaf (.int i)) = true := by
  show (decide (lo ≤ i) && decide (i ≤ hi)) = true
  rw [decide_eq_true h.1, decide_eq_true h.2]
  rfl

end Gm
namespace Gm
open PySem PySem.Spec PyProof.Rows L2 DL

/-! the repr of a tuple of ints from 0 on tells the ints -/
abbrev cl (s : Str) : List Nat := s.cps.toList
def nodig (l : List Nat) : Prop := ∃ c r, l = c :: r ∧ ¬ (48 ≤ c ∧ c ≤ 57)
theorem nd (c : Nat) (r : List Nat) (h : ¬ (48 ≤ c ∧ c ≤ 57)) : nodig (c :: r) := ⟨c, r, rfl, h⟩
end Gm
namespace Gm
open PySem PySem.Spec PyProof.Rows L2 DL

abbrev okS (x : Str) : Prop := PyData.canLay0 (.str x) = true
theorem okS_iff {x : Str} : okS x ↔ ∀ c ∈ x.cps.toList, c < 0x110000 := by
  show x.cps.all (· < 0x110000) = true ↔ _
  rw [← Array.all_toList, List.all_eq_true]
  simp
theorem okS_of (s : String) : okS (Str.ofString s) := by
  rw [okS_iff, Str.ofString_eq_toList]
  intro c hc
  simp only [List.toList_toArray, List.mem_map] at hc
  obtain ⟨ch, _, rfl⟩ := hc
  have := ch.valid
  have h2 : ch.toNat < 0x110000 := by
    unfold Char.toNat
    rcases this with h | h
    · exact Nat.lt_of_lt_of_le h (by decide)
    · exact h.2
  exact h2
end Gm
namespace Gm
open PySem PySem.Spec PyProof.Rows L2 DL

/-- a value that == reads -/
def okD (d : D) : Prop := ∃ p, toP d = some p ∧ p.canLay0 = true ∧ p.depth ≤ 60
theorem okD_int (i : Int) : okD (.leaf (.int i)) := ⟨.int i, rfl, rfl, by unfold PyData.depth; omega⟩
theorem toPs_ok : ∀ {ds : List D}, (∀ d ∈ ds, okD d) → ∃ ps : List PyData, toPs ds = some ps ∧ ps.length = ds.length ∧ PyData.canLayAll0 ps = true ∧ PyData.depthAll ps ≤ 60
  | [], _ => ⟨[], rfl, rfl, rfl, by unfold PyData.depthAll; omega⟩
  | d :: ds, h => by
    obtain ⟨p, e1, e2, e3⟩ := h d (by simp)
    obtain ⟨ps, f1, f0, f2, f3⟩ := toPs_ok (ds := ds) fun x hx => h x (by simp [hx])
    refine ⟨p :: ps, by unfold toPs; rw [e1, f1], by simp [f0], ?_, ?_⟩
    · unfold PyData.canLayAll0; rw [e2, f2]; rfl
    · unfold PyData.depthAll; omega
theorem eqD_nil {ds : List D} (h : ∀ d ∈ ds, okD d) : eqD (.node .lst ds) (.node .lst []) = some (decide (ds = [])) := by
  obtain ⟨ps, f1, f0, f2, f3⟩ := toPs_ok h
  unfold eqD toP
  rw [f1]
  dsimp only
  have s1 : SeqAt.shaped (.list ps) = true := by
    unfold SeqAt.shaped PyData.canLay0 PyData.depth
    rw [f2, Bool.true_and]
    exact decide_eq_true (by omega)
  have s2 : SeqAt.shaped (.list []) = true := rfl
  rw [show toPs [] = some [] from rfl]
  dsimp only
  rw [s1, s2]
  unfold PyData.eqv
  cases ps with
  | nil =>
    have : ds = [] := List.length_eq_zero_iff.mp f0.symm
    subst this
    rfl
  | cons p ps =>
    have : ¬ ds = [] := fun e => by subst e; simp at f0
    rw [decide_eq_false this]
    rfl
theorem vNeNil {Γ : Gam} {Q : Cell → Gam → Prop} {ds : List D} (h : ∀ d ∈ ds, okD d) (q : Q (.sh (.leaf (.bl (!decide (ds = []))))) Γ) : evG (gNe (.node .lst ds) (.node .lst [])) Γ Q := vNe (eqD_nil h) q

end Gm
namespace Gm
open PySem PySem.Spec PyProof.Rows L2 DL

/-- the inverse of a modulo m -/
noncomputable def invI (a m : Int) : Int := Classical.epsilon fun r => 0 ≤ r ∧ r < m ∧ m ∣ a * r - 1
theorem inv_unique {a m r s : Int} (hr : 0 ≤ r ∧ r < m ∧ m ∣ a * r - 1) (hs : 0 ≤ s ∧ s < m ∧ m ∣ a * s - 1) : r = s := by
  -- r = r (a s) = s (a r) modulo m
  have h1 : m ∣ r - s := by
    obtain ⟨k, hk⟩ := hr.2.2
    obtain ⟨l, hl⟩ := hs.2.2
    refine ⟨s * k - r * l, ?_⟩
    have e1 : a * r = m * k + 1 := by omega
    have e2 : a * s = m * l + 1 := by omega
    have e3 : s * (a * r) = r * (a * s) := by simp only [Int.mul_comm, Int.mul_left_comm]
    rw [e1, e2] at e3
    simp only [Int.mul_add, Int.mul_sub, Int.mul_one] at e3 ⊢
    have e4 : s * (m * k) = m * (s * k) := by simp only [Int.mul_comm, Int.mul_left_comm]
    have e5 : r * (m * l) = m * (r * l) := by simp only [Int.mul_comm, Int.mul_left_comm]
    rw [e4, e5] at e3
    omega
  obtain ⟨k, hk⟩ := h1
  have : k = 0 := by
    rcases Int.lt_trichotomy k 0 with z | z | z
    · have : m * k ≤ m * (-1) := Int.mul_le_mul_of_nonneg_left (by omega) (by omega)
      omega
    · exact z
    · have : m * 1 ≤ m * k := Int.mul_le_mul_of_nonneg_left (by omega) (by omega)
      omega
  subst this
  omega
theorem inv_eq {a m r : Int} (hr : 0 ≤ r ∧ r < m ∧ m ∣ a * r - 1) : r = invI a m :=
  inv_unique hr (Classical.epsilon_spec (p := fun r => 0 ≤ r ∧ r < m ∧ m ∣ a * r - 1) ⟨r, hr⟩)
theorem inv_of {a m r : Int} (hr : 0 ≤ r ∧ r < m ∧ m ∣ a * r - 1) : 0 ≤ invI a m ∧ invI a m < m ∧ m ∣ a * invI a m - 1 :=
  Classical.epsilon_spec (p := fun r => 0 ≤ r ∧ r < m ∧ m ∣ a * r - 1) ⟨r, hr⟩
/-- Euclid's round -/
structure EuI (a m old new of f : Int) : Prop where
  new0 : 0 ≤ new
  old0 : 0 < old
  oldm : old ≤ m
  lt : new < old
  d1 : m ∣ of * a - old
  d2 : m ∣ f * a - new
  g : gcdI old new = gcdI a m
  ab : ∃ A B : Int, 0 ≤ A ∧ 0 ≤ B ∧ ((of = A ∧ f = -B) ∨ (of = -A ∧ f = B)) ∧ A * new + B * old = m
theorem EuI.start {a m : Int} (hm : 1 ≤ m) : EuI a m m (a % m) 0 1 := by
  have h := mod_lt (a := a) (b := m) (by omega)
  refine ⟨h.1, by omega, by omega, h.2, ⟨-1, by omega⟩, ⟨a / m, by have := Int.mul_ediv_add_emod a m; omega⟩, ?_, 0, 1, by omega, by omega, .inr ⟨rfl, rfl⟩, by omega⟩
  rw [gcdI_comm a m, gcdI_comm m (a % m), gcdI_comm m a]
  rw [gcdI_comm, gcdI_step]
theorem EuI.bound {a m old new of f : Int} (h : EuI a m old new of f) : -m ≤ f ∧ f ≤ m := by
  obtain ⟨A, B, hA, hB, hs, e⟩ := h.ab
  have h0 := h.old0
  have h1 : 0 ≤ A * new := Int.mul_nonneg hA h.new0
  have h2 : B * 1 ≤ B * old := Int.mul_le_mul_of_nonneg_left (by omega) hB
  rcases hs with ⟨_, rfl⟩ | ⟨_, rfl⟩ <;> omega
theorem EuI.step {a m old new of f : Int} (h : EuI a m old new of f) (hn : new ≠ 0) : EuI a m new (old - old / new * new) f (of - old / new * f) := by
  have hn0 : 0 < new := by have := h.new0; omega
  have e : old - old / new * new = old % new := by have := Int.mul_ediv_add_emod old new; rw [Int.mul_comm] at this; omega
  have hm := mod_lt (a := old) hn0
  have hq : 0 ≤ old / new := Int.ediv_nonneg (Int.le_of_lt h.old0) h.new0
  obtain ⟨k, hk⟩ := h.d1
  obtain ⟨l, hl⟩ := h.d2
  refine ⟨by rw [e]; exact hm.1, hn0, by have := h.lt; have := h.oldm; omega, by rw [e]; exact hm.2, h.d2, ⟨k - old / new * l, ?_⟩, by rw [e, gcdI_step]; exact h.g, ?_⟩
  · have e1 : of * a = m * k + old := by omega
    have e2 : f * a = m * l + new := by omega
    rw [Int.sub_mul, Int.mul_assoc, e1, e2]
    simp only [Int.mul_add, Int.mul_sub]
    have e4 : old / new * (m * l) = m * (old / new * l) := by simp only [Int.mul_comm, Int.mul_left_comm]
    rw [e4]
    omega
  · obtain ⟨A, B, hA, hB, hs, e5⟩ := h.ab
    refine ⟨B, A + old / new * B, hB, Int.add_nonneg hA (Int.mul_nonneg hq hB), ?_, ?_⟩
    · rcases hs with ⟨rfl, rfl⟩ | ⟨rfl, rfl⟩
      · exact .inr ⟨rfl, by rw [Int.mul_neg]; omega⟩
      · exact .inl ⟨rfl, by omega⟩
    · rw [Int.mul_sub, Int.add_mul]
      have e6 : B * (old / new * new) = old / new * B * new := by simp only [Int.mul_comm, Int.mul_left_comm]
      rw [e6]
      omega
theorem EuI.done {a m old of f : Int} (h : EuI a m old 0 of f) (hg : gcdI a m = 1) (hm : 1 ≤ m) : 0 ≤ of % m ∧ of % m < m ∧ m ∣ a * (of % m) - 1 := by
  have h1 := h.g
  rw [gcdI_zero, hg] at h1
  have ho := h.old0
  have e : old = 1 := by omega
  have d := h.d1
  rw [e] at d
  have hmm := mod_lt (a := of) (b := m) (by omega)
  refine ⟨hmm.1, hmm.2, ?_⟩
  obtain ⟨k, hk⟩ := d
  refine ⟨k - a * (of / m), ?_⟩
  have e2 := Int.mul_ediv_add_emod of m
  have e3 : a * of = a * (m * (of / m)) + a * (of % m) := by rw [← Int.mul_add, e2]
  have e4 : a * (m * (of / m)) = m * (a * (of / m)) := by simp only [Int.mul_comm, Int.mul_left_comm]
  rw [Int.mul_sub]
  have e5 : of * a = a * of := Int.mul_comm _ _
  omega

end Gm
namespace Gm
open PySem PySem.Spec PyProof.Rows L2 DL

abbrev mpD (a b : Int) : D := .node .tup [.leaf (.int a), .leaf (.int b)]
/-- small numbers -/
def sm (x : Int) : Prop := -1000000000000000000000000000000 ≤ x ∧ x ≤ 1000000000000000000000000000000
theorem dvd_sub_emod (x m : Int) : m ∣ x - x % m := ⟨x / m, by have := Int.mul_ediv_add_emod x m; omega⟩
theorem emod_of_dvd {x y m : Int} (h : m ∣ x - y) : x % m = y % m := by
  obtain ⟨k, hk⟩ := h
  have : x = y + m * k := by omega
  rw [this, Int.add_mul_emod_self_left]
theorem rOK_map {a b : Int} (ha : sm a) (hb : sm b) : reprOk (.tuple [.int a, .int b]) = true := by
  unfold sm at ha hb
  refine (rOK_tup (w := 131) (d := 0) (n := 2) (fun p hp => ?_) (by simp)).ok (by decide) (by decide)
  simp only [List.mem_cons, List.not_mem_nil, or_false] at hp
  rcases hp with rfl | rfl
  · exact rOK_int (by omega)
  · exact rOK_int (by omega)
theorem vReprM {Γ : Gam} {Q : Cell → Gam → Prop} {a b : Int} (ha : sm a) (hb : sm b) (q : Q (.sh (.leaf (.str (PyData.shown (.tuple [.int a, .int b]))))) Γ) : evG (gRepr [mpD a b]) Γ Q := vRepr rfl (rOK_map ha hb) q
theorem vReprN {Γ : Gam} {Q : Cell → Gam → Prop} {a : Int} (ha : sm a) (q : Q (.sh (.leaf (.str (PyData.shown (.int a))))) Γ) : evG (gRepr [.leaf (.int a)]) Γ Q := vRepr (p := .int a) rfl ((rOK_int (by unfold sm at ha; omega)).ok (by decide) (by decide)) q
theorem inv_gcd {a m r : Int} (h : m ∣ a * r - 1) : gcdI r m = 1 := by
  have h1 : gcdI r m ∣ a * r := Int.dvd_mul_of_dvd_right (gcdI_dvd_left r m)
  have h2 : gcdI r m ∣ a * r - 1 := Int.dvd_trans (gcdI_dvd_right r m) h
  have h3 : gcdI r m ∣ 1 := by
    have := Int.dvd_sub h1 h2
    rwa [show a * r - (a * r - 1) = 1 by omega] at this
  exact Int.eq_one_of_dvd_one (Int.natCast_nonneg _) h3

end Gm
namespace Gm
open PySem PySem.Spec PyProof.Rows L2 DL

/-- maps as pairs, composed modulo m -/
def cmpM (m : Int) (f g : Int × Int) : Int × Int := ((f.1 * g.1) % m, (g.1 * f.2 + g.2) % m)
def redM (m : Int) (f : Int × Int) : Prop := (0 ≤ f.1 ∧ f.1 < m) ∧ 0 ≤ f.2 ∧ f.2 < m
abbrev pD (f : Int × Int) : D := mpD f.1 f.2
theorem cmp_red {m : Int} (hm : 0 < m) (f g : Int × Int) : redM m (cmpM m f g) := ⟨mod_lt hm, mod_lt hm⟩
theorem cmp_assoc (m : Int) (f g h : Int × Int) : cmpM m (cmpM m f g) h = cmpM m f (cmpM m g h) := by
  obtain ⟨a, b⟩ := f
  obtain ⟨c, d⟩ := g
  obtain ⟨e, k⟩ := h
  unfold cmpM
  dsimp only
  obtain ⟨k1, h1⟩ := dvd_sub_emod (a * c) m
  obtain ⟨k2, h2⟩ := dvd_sub_emod (c * b + d) m
  obtain ⟨k3, h3⟩ := dvd_sub_emod (c * e) m
  obtain ⟨k4, h4⟩ := dvd_sub_emod (e * d + k) m
  have e1 : (a * c) % m = a * c - m * k1 := by omega
  have e2 : (c * b + d) % m = c * b + d - m * k2 := by omega
  have e3 : (c * e) % m = c * e - m * k3 := by omega
  have e4 : (e * d + k) % m = e * d + k - m * k4 := by omega
  refine Prod.ext ?_ ?_
  · dsimp only
    rw [e1, e3]
    exact emod_of_dvd ⟨a * k3 - k1 * e, by grind⟩
  · dsimp only
    rw [e2, e3, e4]
    exact emod_of_dvd ⟨k3 * b - e * k2 + k4, by grind⟩
theorem cmp_one_l {m : Int} {f : Int × Int} (h : redM m f) : cmpM m (1, 0) f = f := by
  unfold cmpM
  dsimp only
  rw [Int.one_mul, Int.mul_zero, Int.zero_add, Int.emod_eq_of_lt h.1.1 h.1.2, Int.emod_eq_of_lt h.2.1 h.2.2]
theorem cmp_one_r {m : Int} {f : Int × Int} (h : redM m f) : cmpM m f (1, 0) = f := by
  unfold cmpM
  dsimp only
  rw [Int.mul_one, Int.one_mul, Int.add_zero, Int.emod_eq_of_lt h.1.1 h.1.2, Int.emod_eq_of_lt h.2.1 h.2.2]
def pw (m : Int) (f : Int × Int) : Nat → Int × Int
  | 0 => (1, 0)
  | n + 1 => cmpM m (pw m f n) f
theorem one_red {m : Int} (hm : 2 ≤ m) : redM m (1, 0) := ⟨⟨by omega, by omega⟩, by omega, by omega⟩
theorem pw_red {m : Int} (hm : 2 ≤ m) (f : Int × Int) : ∀ n, redM m (pw m f n)
  | 0 => one_red hm
  | n + 1 => cmp_red (by omega) _ _
theorem pw_one {m : Int} {f : Int × Int} (h : redM m f) : pw m f 1 = f := cmp_one_l h
/-- the inverse map -/
noncomputable def invM (m : Int) (f : Int × Int) : Int × Int := (invI f.1 m, (-(invI f.1 m) * f.2) % m)
noncomputable def pwI (m : Int) (f : Int × Int) (e : Int) : Int × Int := if e < 0 then pw m (invM m f) (-e).toNat else pw m f e.toNat
theorem inv_red {m : Int} {f : Int × Int} (hm : 2 ≤ m) (h : 0 ≤ invI f.1 m ∧ invI f.1 m < m) : redM m (invM m f) := ⟨h, mod_lt (by omega)⟩
theorem red_sm {m : Int} {f : Int × Int} (hm : m ≤ 1000000000000) (h : redM m f) : sm f.1 ∧ sm f.2 := by
  obtain ⟨h1, h2⟩ := h
  unfold sm
  omega

end Gm
namespace Gm
open PySem PySem.Spec PyProof.Rows L2 DL

/-- the ints from lo -/
def rng : Int → Nat → List Int
  | _, 0 => []
  | lo, n + 1 => lo :: rng (lo + 1) n
theorem rangeD_rng : ∀ (lo : Int) (n : Nat), rangeD lo n = intsD (rng lo n)
  | lo, 0 => rfl
  | lo, n + 1 => by rw [rangeD_succ, rangeD_rng (lo + 1) n]; rfl
theorem rng_len : ∀ (lo : Int) (n : Nat), (rng lo n).length = n
  | lo, 0 => rfl
  | lo, n + 1 => by unfold rng; rw [List.length_cons, rng_len]
theorem rng_mem : ∀ {lo x : Int} {n : Nat}, x ∈ rng lo n → lo ≤ x ∧ x < lo + n
  | lo, x, 0, h => by cases h
  | lo, x, n + 1, h => by
    rcases List.mem_cons.mp h with rfl | h
    · omega
    · have := rng_mem h; omega
theorem eu_exists {a m : Int} (hm : 1 ≤ m) (hg : gcdI a m = 1) : ∀ (n : Nat) (old new of f : Int), new.toNat ≤ n → EuI a m old new of f → ∃ r, m ∣ a * r - 1
  | n, old, new, of, f, hn, h => by
    by_cases hz : new = 0
    · subst hz
      exact ⟨_, (h.done hg hm).2.2⟩
    · have hs := h.step hz
      have h1 := h.new0
      have h2 := hs.lt
      have h3 := hs.new0
      cases n with
      | zero => omega
      | succ n => exact eu_exists hm hg n _ _ _ _ (by omega) hs
theorem inv_exists {a m : Int} (hm : 1 ≤ m) (hg : gcdI a m = 1) : ∃ r, m ∣ a * r - 1 := eu_exists hm hg _ _ _ _ _ (Nat.le_refl _) (EuI.start hm)
end Gm
namespace Gm
open PySem PySem.Spec PyProof.Rows L2 DL

/-- a fact that omega does not read -/
structure Hid (p : Prop) : Prop where
  out : p
theorem int_ind {P : Int → Prop} (h0 : P 0) (hs : ∀ n : Nat, P (n : Int) → P ((n : Int) + 1)) (hp : ∀ n : Nat, P (-(n : Int)) → P (-(n : Int) - 1)) (i : Int) : P i := by
  have up : ∀ n : Nat, P (n : Int) := fun n => by
    induction n with
    | zero => exact h0
    | succ n ih => exact hs n ih
  have dn : ∀ n : Nat, P (-(n : Int)) := fun n => by
    induction n with
    | zero => exact h0
    | succ n ih => have := hp n ih; rwa [show -(n : Int) - 1 = -((n + 1 : Nat) : Int) by omega] at this
  rcases Int.le_total 0 i with h | h
  · have := up i.toNat; rwa [Int.toNat_of_nonneg h] at this
  · have := dn (-i).toNat; rwa [Int.toNat_of_nonneg (by omega), Int.neg_neg] at this
/-- invertible maps modulo m -/
def uniM (m : Int) (f : Int × Int) : Prop := redM m f ∧ gcdI f.1 m = 1
theorem uniM.cop {m : Int} {f : Int × Int} (h : uniM m f) : gcdI f.1 m = 1 := h.2
theorem inv_props {a m : Int} (hm : 1 ≤ m) (hg : gcdI a m = 1) : 0 ≤ invI a m ∧ invI a m < m ∧ m ∣ a * invI a m - 1 := by
  obtain ⟨r, hr⟩ := inv_exists hm hg
  have h := mod_lt (a := r) (b := m) (by omega)
  refine inv_of (r := r % m) ⟨h.1, h.2, ?_⟩
  obtain ⟨k, hk⟩ := hr
  obtain ⟨l, hl⟩ := dvd_sub_emod r m
  have e : r % m = r - m * l := by omega
  rw [e]
  exact ⟨k - a * l, by grind⟩
theorem gcd_of_inv {a m r : Int} (h : m ∣ a * r - 1) : gcdI a m = 1 := by
  rw [Int.mul_comm] at h
  exact inv_gcd h
theorem gcd_mod {a m : Int} : gcdI (a % m) m = gcdI a m := by
  rw [gcdI_comm, gcdI_step]
theorem gcd_mul {a c m : Int} (hm : 1 ≤ m) (ha : gcdI a m = 1) (hc : gcdI c m = 1) : gcdI (a * c) m = 1 := by
  obtain ⟨_, _, k, hk⟩ := inv_props hm ha
  obtain ⟨_, _, l, hl⟩ := inv_props hm hc
  refine gcd_of_inv (r := invI a m * invI c m) ⟨k * (c * invI c m) + l, ?_⟩
  have e1 : a * invI a m = m * k + 1 := by omega
  have e2 : c * invI c m = m * l + 1 := by omega
  have e3 : a * c * (invI a m * invI c m) = (a * invI a m) * (c * invI c m) := by grind
  rw [e3, e1]
  grind
theorem cmp_uni {m : Int} (hm : 2 ≤ m) {f g : Int × Int} (hf : uniM m f) (hg : uniM m g) : uniM m (cmpM m f g) :=
  ⟨cmp_red (by omega) _ _, by show gcdI ((f.1 * g.1) % m) m = 1; rw [gcd_mod]; exact gcd_mul (by omega) hf.2 hg.2⟩
theorem one_uni {m : Int} (hm : 2 ≤ m) : uniM m (1, 0) := ⟨one_red hm, gcdI_one m⟩
theorem inv_uni {m : Int} (hm : 2 ≤ m) {f : Int × Int} (hf : uniM m f) : uniM m (invM m f) := by
  obtain ⟨i1, i2, i3⟩ := inv_props (by omega) hf.2
  exact ⟨inv_red hm ⟨i1, i2⟩, inv_gcd i3⟩
theorem pw_uni {m : Int} (hm : 2 ≤ m) {f : Int × Int} (hf : uniM m f) : ∀ n, uniM m (pw m f n)
  | 0 => one_uni hm
  | n + 1 => cmp_uni hm (pw_uni hm hf n) hf
theorem pwI_uni {m : Int} (hm : 2 ≤ m) {f : Int × Int} (hf : uniM m f) (e : Int) : uniM m (pwI m f e) := by
  unfold pwI
  split
  · exact pw_uni hm (inv_uni hm hf) _
  · exact pw_uni hm hf _
theorem cmp_inv_r {m : Int} (hm : 2 ≤ m) {f : Int × Int} (hf : uniM m f) : cmpM m f (invM m f) = (1, 0) := by
  obtain ⟨i1, i2, k, hk⟩ := inv_props (by omega : (1 : Int) ≤ m) hf.2
  unfold cmpM invM
  dsimp only
  refine Prod.ext ?_ ?_
  · dsimp only
    rw [emod_of_dvd (y := 1) ⟨k, hk⟩, Int.emod_eq_of_lt (by omega) (by omega)]
  · dsimp only
    obtain ⟨l, hl⟩ := dvd_sub_emod (-(invI f.1 m) * f.2) m
    have e : (-(invI f.1 m) * f.2) % m = -(invI f.1 m) * f.2 - m * l := by omega
    rw [e, emod_of_dvd (y := 0) ⟨-l, by grind⟩, Int.emod_eq_of_lt (by omega) (by omega)]
theorem cmp_inv_l {m : Int} (hm : 2 ≤ m) {f : Int × Int} (hf : uniM m f) : cmpM m (invM m f) f = (1, 0) := by
  obtain ⟨i1, i2, k, hk⟩ := inv_props (by omega : (1 : Int) ≤ m) hf.2
  unfold cmpM invM
  dsimp only
  refine Prod.ext ?_ ?_
  · dsimp only
    rw [emod_of_dvd (y := 1) ⟨k, by rw [Int.mul_comm]; exact hk⟩, Int.emod_eq_of_lt (by omega) (by omega)]
  · dsimp only
    obtain ⟨l, hl⟩ := dvd_sub_emod (-(invI f.1 m) * f.2) m
    have e : (-(invI f.1 m) * f.2) % m = -(invI f.1 m) * f.2 - m * l := by omega
    rw [e, emod_of_dvd (y := 0) ⟨-(k * f.2) - f.1 * l, by grind⟩, Int.emod_eq_of_lt (by omega) (by omega)]
theorem cmp_cancel_l {m : Int} (hm : 2 ≤ m) {f g h : Int × Int} (hf : uniM m f) (hg : redM m g) (hh : redM m h) (e : cmpM m f g = cmpM m f h) : g = h := by
  have : cmpM m (invM m f) (cmpM m f g) = cmpM m (invM m f) (cmpM m f h) := by rw [e]
  rwa [← cmp_assoc, ← cmp_assoc, cmp_inv_l hm hf, cmp_one_l hg, cmp_one_l hh] at this
theorem pwI_zero {m : Int} {f : Int × Int} : pwI m f 0 = (1, 0) := rfl
theorem pwI_one {m : Int} {f : Int × Int} (h : redM m f) : pwI m f 1 = f := pw_one h
theorem pwI_succ {m : Int} (hm : 2 ≤ m) {f : Int × Int} (hf : uniM m f) (e : Int) : pwI m f (e + 1) = cmpM m (pwI m f e) f := by
  unfold pwI
  by_cases h : e < 0
  · rw [if_pos h]
    have e1 : (-e).toNat = (-e - 1).toNat + 1 := by omega
    have e2 : cmpM m (pw m (invM m f) (-e).toNat) f = pw m (invM m f) (-e - 1).toNat := by
      rw [e1]
      show cmpM m (cmpM m (pw m (invM m f) (-e - 1).toNat) (invM m f)) f = _
      rw [cmp_assoc, cmp_inv_l hm hf, cmp_one_r (pw_red hm _ _)]
    rw [e2]
    by_cases h2 : e + 1 < 0
    · rw [if_pos h2, show -(e + 1) = -e - 1 by omega]
    · rw [if_neg h2, show (e + 1).toNat = 0 by omega, show (-e - 1).toNat = 0 by omega]
      rfl
  · rw [if_neg h, if_neg (by omega), show (e + 1).toNat = e.toNat + 1 by omega]
    rfl
theorem pwI_pred {m : Int} (hm : 2 ≤ m) {f : Int × Int} (hf : uniM m f) (e : Int) : pwI m f (e - 1) = cmpM m (pwI m f e) (invM m f) := by
  have h := pwI_succ hm hf (e - 1)
  rw [show e - 1 + 1 = e by omega] at h
  rw [h, cmp_assoc, cmp_inv_r hm hf, cmp_one_r (pwI_uni hm hf _).1]
theorem pwI_add {m : Int} (hm : 2 ≤ m) {f : Int × Int} (hf : uniM m f) (a b : Int) : pwI m f (a + b) = cmpM m (pwI m f a) (pwI m f b) := by
  refine int_ind (P := fun b => pwI m f (a + b) = cmpM m (pwI m f a) (pwI m f b)) ?_ (fun n ih => ?_) (fun n ih => ?_) b
  · rw [Int.add_zero, pwI_zero, cmp_one_r (pwI_uni hm hf _).1]
  · rw [← Int.add_assoc, pwI_succ hm hf, ih, cmp_assoc, pwI_succ hm hf]
  · rw [show a + (-(n : Int) - 1) = (a + -(n : Int)) - 1 by omega, pwI_pred hm hf, ih, cmp_assoc, pwI_pred hm hf]
theorem pwI_comm {m : Int} (hm : 2 ≤ m) {f : Int × Int} (hf : uniM m f) (a b : Int) : cmpM m (pwI m f a) (pwI m f b) = cmpM m (pwI m f b) (pwI m f a) := by
  rw [← pwI_add hm hf, ← pwI_add hm hf, Int.add_comm]
/-- the image -/
def apM (m : Int) (f : Int × Int) (x : Int) : Int := (f.1 * x + f.2) % m
theorem eqD_tints (ns ms : List Int) : eqD (.node .tup (intsD ns)) (.node .tup (intsD ms)) = some (decide (ns = ms)) := by
  have sh : ∀ l : List Int, SeqAt.shaped (.tuple (l.map .int)) = true := fun l => by
    unfold SeqAt.shaped
    unfold PyData.canLay0 PyData.depth
    rw [canLay_ints]
    have := depthP_ints l
    simp only [Bool.true_and]
    exact decide_eq_true (by omega)
  unfold eqD toP
  rw [toPs_ints, toPs_ints]
  dsimp only
  rw [sh, sh]
  unfold PyData.eqv
  rw [eqv_ints]
  rfl
theorem eqD_pD (f g : Int × Int) : eqD (pD f) (pD g) = some (decide (f = g)) := by
  have h := eqD_tints [f.1, f.2] [g.1, g.2]
  rw [show decide ([f.1, f.2] = [g.1, g.2]) = decide (f = g) from decide_eq_decide.mpr ⟨fun e => by
    simp at e
    exact Prod.ext e.1 e.2, fun e => by rw [e]⟩] at h
  exact h
theorem vNeM {Γ : Gam} {Q : Cell → Gam → Prop} {f g : Int × Int} (q : Q (.sh (.leaf (.bl (!decide (f = g))))) Γ) : evG (gNe (pD f) (pD g)) Γ Q := vNe (eqD_pD f g) q
theorem vEqM {Γ : Gam} {Q : Cell → Gam → Prop} {f g : Int × Int} (q : Q (.sh (.leaf (.bl (decide (f = g))))) Γ) : evG (gEq (pD f) (pD g)) Γ Q := vEq (eqD_pD f g) q
def smM (f : Int × Int) : Prop := sm f.1 ∧ sm f.2
theorem smM_uni {m : Int} {f : Int × Int} (hf : uniM m f) (hm : m ≤ 1000000000000) : smM f := red_sm hm hf.1
theorem vReprPD {Γ : Gam} {Q : Cell → Gam → Prop} {f : Int × Int} (h : smM f) (q : Q (.sh (.leaf (.str (PyData.shown (.tuple [.int f.1, .int f.2]))))) Γ) : evG (gRepr [pD f]) Γ Q := vReprM h.1 h.2 q

end Gm
namespace Gm
open PySem PySem.Spec PyProof.Rows L2 DL

/-! values of any kind: size, depth, and what repr, == and isinstance need of them -/
mutual
def wD : D → Nat
  | .leaf (.str s) => s.cps.size
  | .leaf _ => 205
  | .node _ ds => wDs ds
def wDs : List D → Nat
  | [] => 0
  | d :: ds => wD d + 1 + wDs ds
end
mutual
def dD : D → Nat
  | .leaf _ => 0
  | .node _ ds => dDs ds + 1
def dDs : List D → Nat
  | [] => 0
  | d :: ds => max (dD d) (dDs ds)
end
abbrev big : Int := 1000000000000000000000000000000000000000000000000000000000000
/-- data without a dict -/
inductive VS : D → Prop where
  | non : VS (.leaf .non)
  | bl (b : Bool) : VS (.leaf (.bl b))
  | int (i : Int) : -big < i → i < big → VS (.leaf (.int i))
  | str (s : Str) : okS s → VS (.leaf (.str s))
  | lst (ds : List D) : (∀ x ∈ ds, VS x) → VS (.node .lst ds)
  | tup (ds : List D) : (∀ x ∈ ds, VS x) → VS (.node .tup ds)
structure rQ (p : PyData) (w d : Nat) : Prop where
  s : p.showable = true
  n : p.hasDict = false
  l : p.leavesShort 80 = true
  w : p.weight ≤ w
  d : p.depth ≤ d
  c : p.canLay0 = true
structure rQs (ps : List PyData) (w d : Nat) : Prop where
  s : PyData.showableAll ps = true
  n : PyData.hasDictAll ps = false
  l : PyData.leavesShortAll 80 ps = true
  w : PyData.weightAll ps ≤ w
  d : PyData.depthAll ps ≤ d
  c : PyData.canLayAll0 ps = true
theorem rQ.ok {p : PyData} {w d : Nat} (h : rQ p w d) (hw : w ≤ 200000) (hd : d ≤ 50) : reprOk p = true := by
  have h1 := PyData.shown_le 80 (by decide) p h.l
  have h2 := h.w
  have h3 : (80 + 2) * p.weight ≤ 82 * 200000 := Nat.mul_le_mul (by decide) (by omega)
  unfold reprOk
  rw [h.s, h.n, decide_eq_true (show p.shown.length ≤ 16777216 by omega), decide_eq_true (show p.depth ≤ 50 by have := h.d; omega)]
  rfl
theorem rQ_int {i : Int} (h1 : -big < i) (h2 : i < big) : rQ (.int i) 205 0 := by
  unfold big at h1 h2
  have hn : i.natAbs < 10 ^ 60 := by
    have : (10 : Nat) ^ 60 = 1000000000000000000000000000000000000000000000000000000000000 := by decide
    omega
  have hl : i.natAbs.log2 < 200 := log_le (Nat.lt_of_lt_of_le hn (by decide)) (by decide)
  refine ⟨?_, rfl, ?_, ?_, Nat.le_refl _, rfl⟩
  · unfold PyData.showable
    exact decide_eq_true (by omega)
  · unfold PyData.leavesShort
    refine decide_eq_true ?_
    have e := int_text_length_le10 (k := 60) (by decide) hn
    show (Str.ofString (toString i)).length ≤ 80
    rw [PySem.ofString_length]; omega
  · unfold PyData.weight
    split <;> omega
mutual
theorem VS.p : ∀ (d : D), VS d → ∃ p, toP d = some p ∧ rQ p (wD d) (dD d)
  | .leaf v, h => by
    cases h with
    | non => exact ⟨_, rfl, rfl, rfl, rfl, Nat.zero_le _, Nat.le_refl _, rfl⟩
    | bl b => exact ⟨_, rfl, rfl, rfl, rfl, Nat.zero_le _, Nat.le_refl _, rfl⟩
    | int i h1 h2 => exact ⟨_, rfl, rQ_int h1 h2⟩
    | str s hs =>
      refine ⟨_, rfl, rfl, rfl, ?_, ?_, Nat.le_refl _, hs⟩
      · unfold PyData.leavesShort
        exact List.all_eq_true.mpr fun c hc => decide_eq_true (Nat.lt_trans (okS_iff.mp hs c hc) (by decide))
      · unfold PyData.weight wD
        exact Nat.le_refl _
  | .node t ds, h => by
    cases h with
    | lst _ hx =>
      obtain ⟨ps, e, q⟩ := VS.ps ds hx
      refine ⟨.list ps, by unfold toP; rw [e], by unfold PyData.showable; exact q.s, by unfold PyData.hasDict; exact q.n, by unfold PyData.leavesShort; exact q.l, ?_, ?_, by unfold PyData.canLay0; exact q.c⟩
      · unfold PyData.weight wD; exact q.w
      · unfold PyData.depth dD; have := q.d; omega
    | tup _ hx =>
      obtain ⟨ps, e, q⟩ := VS.ps ds hx
      refine ⟨.tuple ps, by unfold toP; rw [e], by unfold PyData.showable; exact q.s, by unfold PyData.hasDict; exact q.n, by unfold PyData.leavesShort; exact q.l, ?_, ?_, by unfold PyData.canLay0; exact q.c⟩
      · unfold PyData.weight wD; exact q.w
      · unfold PyData.depth dD; have := q.d; omega
theorem VS.ps : ∀ (ds : List D), (∀ x ∈ ds, VS x) → ∃ ps, toPs ds = some ps ∧ rQs ps (wDs ds) (dDs ds)
  | [], _ => ⟨[], rfl, rfl, rfl, rfl, by unfold PyData.weightAll; exact Nat.zero_le _, by unfold PyData.depthAll; exact Nat.zero_le _, rfl⟩
  | d :: ds, h => by
    obtain ⟨p, e1, q⟩ := VS.p d (h d (by simp))
    obtain ⟨ps, e2, r⟩ := VS.ps ds fun x hx => h x (by simp [hx])
    refine ⟨p :: ps, by unfold toPs; rw [e1, e2], ?_, ?_, ?_, ?_, ?_, ?_⟩
    · unfold PyData.showableAll; rw [q.s, r.s]; rfl
    · unfold PyData.hasDictAll; rw [q.n, r.n]; rfl
    · unfold PyData.leavesShortAll; rw [q.l, r.l]; rfl
    · unfold PyData.weightAll wDs; have := q.w; have := r.w; omega
    · unfold PyData.depthAll dDs; have := q.d; have := r.d; omega
    · unfold PyData.canLayAll0; rw [q.c, r.c]; rfl
end
theorem VS.ty {d : D} (h : VS d) : tyD d := by cases h <;> exact ⟨_, rfl⟩
theorem VS.mem {t : Tag} {ds : List D} (h : VS (.node t ds)) : ∀ x ∈ ds, VS x := by cases h <;> assumption
/-- .. not too large -/
structure GV (d : D) : Prop where
  g : VS d
  w : wD d ≤ 8300
  d : dD d ≤ 20
theorem wDs_mem : ∀ {ds : List D} {x : D}, x ∈ ds → wD x + 1 ≤ wDs ds
  | d :: ds, x, h => by
    unfold wDs
    rcases List.mem_cons.mp h with rfl | h
    · omega
    · have := wDs_mem h
      omega
theorem dDs_mem : ∀ {ds : List D} {x : D}, x ∈ ds → dD x ≤ dDs ds
  | d :: ds, x, h => by
    unfold dDs
    rcases List.mem_cons.mp h with rfl | h
    · omega
    · have := dDs_mem h
      omega
theorem dDs_le {n : Nat} : ∀ {ds : List D}, (∀ x ∈ ds, dD x ≤ n) → dDs ds ≤ n
  | [], _ => by unfold dDs; omega
  | d :: ds, h => by
    have h1 := h d (by simp)
    have h2 := dDs_le (ds := ds) fun x hx => h x (by simp [hx])
    unfold dDs
    omega
theorem wDs_le {n : Nat} : ∀ {ds : List D}, (∀ x ∈ ds, wD x ≤ n) → wDs ds ≤ ds.length * (n + 1)
  | [], _ => by unfold wDs; omega
  | d :: ds, h => by
    have h1 := h d (by simp)
    have h2 := wDs_le (ds := ds) fun x hx => h x (by simp [hx])
    unfold wDs
    rw [List.length_cons, Nat.add_mul]
    omega
theorem GV.mem {t : Tag} {ds : List D} (h : GV (.node t ds)) : ∀ x ∈ ds, GV x := fun x hx => by
  have h1 := h.w
  have h2 := h.d
  unfold wD at h1
  unfold dD at h2
  have h3 := wDs_mem hx
  have h4 := dDs_mem hx
  exact ⟨h.g.mem x hx, by omega, by omega⟩
theorem GV.okD {d : D} (h : GV d) : okD d := by
  obtain ⟨p, e, q⟩ := VS.p d h.g
  exact ⟨p, e, q.c, by have := q.d; have := h.d; omega⟩
/-- the values of this depth: parts of a tuple may be changed at a depth, and there a dict may stand -/
def GA : Nat → D → Prop
  | 0, d => GV d
  | k + 1, d => (∃ ks ds, d = .node (.dk ks) ds) ∨ GV d ∨ ∃ ds, d = .node .tup ds ∧ ds.length ≤ 24 ∧ ∀ x ∈ ds, GA k x
theorem GA.of {d : D} (h : GV d) : ∀ k, GA k d
  | 0 => h
  | _ + 1 => .inr (.inl h)
theorem GA.ty {d : D} : ∀ {k : Nat}, GA k d → tyD d
  | 0, h => VS.ty (GV.g h)
  | k + 1, h => by
    rcases h with ⟨ks, ds, rfl⟩ | h | ⟨ds, rfl, _⟩
    · exact ⟨_, rfl⟩
    · exact VS.ty h.g
    · exact ⟨_, rfl⟩
theorem GA.mem {ds : List D} : ∀ {k : Nat}, GA k (.node .tup ds) → ∀ x ∈ ds, GA (k - 1) x
  | 0, h, x, hx => GV.mem h x hx
  | k + 1, h, x, hx => by
    rcases h with ⟨ks, ds, e⟩ | h | ⟨es, e, _, h⟩
    · cases e
    · exact GA.of (h.mem x hx) _
    · cases e; exact h x hx
/-- a tuple of plain values -/
theorem GA1.tup {ds : List D} {k : Nat} (hk : k ≤ 1) (h : GA k (.node .tup ds)) : (∀ x ∈ ds, GV x) ∧ ∃ p, toP (.node .tup ds) = some p ∧ rQ p 199500 21 := by
  have old : GV (.node .tup ds) → (∀ x ∈ ds, GV x) ∧ ∃ p, toP (.node .tup ds) = some p ∧ rQ p 199500 21 := fun h => by
    refine ⟨h.mem, ?_⟩
    obtain ⟨p, e, q⟩ := VS.p _ h.g
    have h1 := h.w
    have h2 := h.d
    have h3 := q.w
    have h4 := q.d
    exact ⟨p, e, q.s, q.n, q.l, by omega, by omega, q.c⟩
  have new : (ds.length ≤ 24 ∧ ∀ x ∈ ds, GV x) → (∀ x ∈ ds, GV x) ∧ ∃ p, toP (.node .tup ds) = some p ∧ rQ p 199500 21 := fun ⟨hl, h⟩ => by
    refine ⟨h, ?_⟩
    obtain ⟨p, e, q⟩ := VS.p (.node .tup ds) (.tup _ fun x hx => (h x hx).g)
    have h3 := q.w
    have h4 := q.d
    unfold wD at h3
    unfold dD at h4
    have h5 := wDs_le (n := 8300) fun x hx => (h x hx).w
    have h6 := dDs_le (n := 20) fun x hx => (h x hx).d
    have h7 : ds.length * (8300 + 1) ≤ 24 * 8301 := Nat.mul_le_mul_right _ hl
    exact ⟨p, e, q.s, q.n, q.l, by omega, by omega, q.c⟩
  match k, hk, h with
  | 0, _, h => exact old h
  | 1, _, h =>
    rcases h with ⟨ks, ds, e⟩ | h | ⟨es, e, hl, h⟩
    · cases e
    · exact old h
    · cases e; exact new ⟨hl, h⟩
/-! a tuple of plain values against a tuple of primes -/
end Gm
namespace Gm
open PySem PySem.Spec PyProof.Rows L2 DL
noncomputable def g__law_any_value : GS := sSeq (sSet 1 (eOfL gLstD (aCons (eKeep (eC .non)) (aCons (eKeep (eC (.bl true))) (aCons (eKeep (eC (.bl false))) (aCons (eKeep (eC (.int 0))) (aCons (eKeep (eC (.int 1))) (aCons (eKeep (eUn gNeg (eC (.int 1)))) (aCons (eKeep (eBin gPow (eC (.int 10)) (eC (.int 40)))) (aCons (eKeep (eC (.str ""))) (aCons (eKeep (eC (.str "a"))) (aCons (eKeep (eC (.str "reached"))) (aCons (eKeep (eOfL gTupD (aNil))) (aCons (eKeep (eOfL gLstD (aNil))) (aCons (eKeep (eDict0)) (aCons (eKeep (eOfL gTupD (aCons (eKeep (eC (.int 0))) (aNil)))) (aCons (eKeep (eOfL gLstD (aCons (eKeep (eC (.int 0))) (aNil)))) (aCons (eKeep (eOfL gTupD (aCons (eKeep (eC (.int 1))) (aCons (eKeep (eOfL gTupD (aNil))) (aNil))))) (aCons (eKeep (eOfL gTupD (aCons (eKeep (eC (.int 1))) (aCons (eKeep (eOfL gLstD (aNil))) (aNil))))) (aNil))))))))))))))))))))
  (sSeq (sSet 1 (eBin gAdd (eVar 1) (eOfL gLstD (aCons (eKeep (eOfL gTupD (aCons (eKeep (eC (.int 2))) (aCons (eKeep (eOfL gTupD (aCons (eKeep (eC (.int 2))) (aNil)))) (aNil))))) (aCons (eKeep (eOfL gTupD (aCons (eKeep (eC (.str "reached"))) (aCons (eKeep (eC (.int 0))) (aCons (eKeep (eOfL gTupD (aCons (eKeep (eC (.int 1))) (aCons (eKeep (eOfL gTupD (aNil))) (aNil))))) (aNil)))))) (aCons (eKeep (eOfL gTupD (aCons (eKeep (eC (.str "apart"))) (aCons (eKeep (eC (.int 1))) (aCons (eKeep (eC (.int 2))) (aCons (eKeep (eOfL gTupD (aCons (eKeep (eC (.int 1))) (aCons (eKeep (eOfL gTupD (aNil))) (aNil))))) (aCons (eKeep (eC (.int 0))) (aNil)))))))) (aCons (eKeep (eDisp [Sum.inr "a"] [eC (.int 1)])) (aCons (eKeep (eOfL gTupD (aCons (eKeep (eC (.bl true))) (aCons (eKeep (eOfL gTupD (aNil))) (aNil))))) (aCons (eKeep (eOfL gTupD (aCons (eKeep (eOfL gTupD (aNil))) (aNil)))) (aCons (eKeep (eC (.str "12"))) (aNil)))))))))))
  (sRet (eCallN 2 m__law_pick [] (aCons (eVar 0) (aCons (eKeep (eVar 1)) (aNil))))))
noncomputable def m__law_any_value : MF := runD 2 g__law_any_value
theorem GV.leaf_int {i : Int} (h1 : -big < i) (h2 : i < big) : GV (.leaf (.int i)) := ⟨.int i h1 h2, by unfold wD; omega, by unfold dD; omega⟩
theorem GV.non : GV (.leaf .non) := ⟨.non, by unfold wD; omega, by unfold dD; omega⟩
theorem GV.bl (b : Bool) : GV (.leaf (.bl b)) := ⟨.bl b, by unfold wD; omega, by unfold dD; omega⟩
/-- small: to be put into others -/
def gsm (n : Nat) (d : D) : Prop := VS d ∧ wD d ≤ 300 * n ∧ dD d ≤ n
theorem gsm.gv {n : Nat} {d : D} (h : gsm n d) (hn : n ≤ 16) : GV d := ⟨h.1, by have := h.2.1; omega, by have := h.2.2; omega⟩
theorem gsm_int {i : Int} (h1 : -big < i) (h2 : i < big) : gsm 1 (.leaf (.int i)) := ⟨.int i h1 h2, by unfold wD; omega, by unfold dD; omega⟩
theorem gsm_str {s : Str} (h : okS s) (hs : s.cps.size ≤ 300) : gsm 1 (.leaf (.str s)) := ⟨.str s h, by unfold wD; omega, by unfold dD; omega⟩
theorem gsm_bl (b : Bool) : gsm 1 (.leaf (.bl b)) := ⟨.bl b, by unfold wD; omega, by unfold dD; omega⟩
theorem gsm_tup {n : Nat} {ds : List D} (h : ∀ x ∈ ds, gsm n x) : gsm (ds.length * (n + 1) + 1) (.node .tup ds) := by
  refine ⟨.tup _ fun x hx => (h x hx).1, ?_, ?_⟩
  · unfold wD
    have := wDs_le fun x hx => (h x hx).2.1
    have e : ds.length * (300 * n + 1) ≤ 300 * (ds.length * (n + 1)) := by
      rw [Nat.mul_left_comm]
      exact Nat.mul_le_mul_left _ (by omega)
    omega
  · unfold dD
    have := dDs_le fun x hx => (h x hx).2.2
    have e : ds = [] ∨ 1 ≤ ds.length := by cases ds; exact .inl rfl; exact .inr (by simp)
    rcases e with rfl | e
    · unfold dDs; omega
    · have : n + 1 ≤ ds.length * (n + 1) := Nat.le_mul_of_pos_left _ e
      omega
theorem gsm_lst {n : Nat} {ds : List D} (h : ∀ x ∈ ds, gsm n x) : gsm (ds.length * (n + 1) + 1) (.node .lst ds) := by
  have := gsm_tup h
  exact ⟨.lst _ fun x hx => (h x hx).1, this.2.1, this.2.2⟩
theorem gsm.mono {n n' : Nat} {d : D} (h : gsm n d) (hn : n ≤ n') : gsm n' d := ⟨h.1, by have := h.2.1; omega, by have := h.2.2; omega⟩
theorem g0 {n : Nat} : ∀ x ∈ ([] : List D), gsm n x := fun _ h => nomatch h
theorem gc {n : Nat} {d : D} {ds : List D} (h : gsm n d) (hs : ∀ x ∈ ds, gsm n x) : ∀ x ∈ d :: ds, gsm n x := fun x hx => by
  rcases List.mem_cons.mp hx with rfl | hx
  · exact h
  · exact hs x hx
/-- a dict or a plain value -/
def anyV (d : D) : Prop := (∃ ks ds, d = .node (.dk ks) ds) ∨ GV d
theorem anyV.ga {d : D} (h : anyV d) (k : Nat) : GA (k + 1) d := by
  rcases h with h | h
  · exact .inl h
  · exact .inr (.inl h)
theorem law_any_value_ok (ns : List Int) (t r : Int) (ht : 0 ≤ t ∧ t < 1000000000000000000000000000000) (hr : 0 ≤ r) {Q : Cell → List Cell → Prop} {X : Exc → List Cell → Prop}
    (q : ∀ (d : D) (t' r' : Int), anyV d → 0 ≤ t' → t' ≤ t + 1 → 0 ≤ r' → Q (.sh d) [penC ns t' r']) :
    evM m__law_any_value [penC ns t r] Q X := by
  refine evDef _ (by rfl) ?_
  unfold g__law_any_value
  repeat' walk_at "ev"
  simp only [aKeeps]
  repeat' walk_at "ev"
  refine pick_ok ns t r _ ht hr (by simp) (by simp) fun d t1 r1 a1 a2 a3 a4 => ?_
  repeat' walk_at "ev"
  refine q d t1 r1 ?_ a2 a3 a4
  simp only [List.mem_append, List.mem_cons, List.not_mem_nil, or_false] at a1
  have i0 : gsm 1 (.leaf (.int 0)) := gsm_int (by decide) (by decide)
  have i1 : gsm 1 (.leaf (.int 1)) := gsm_int (by decide) (by decide)
  have i2 : gsm 1 (.leaf (.int 2)) := gsm_int (by decide) (by decide)
  have e : gsm 1 (.node .tup []) := gsm_tup (n := 0) g0
  have el : gsm 1 (.node .lst []) := gsm_lst (n := 0) g0
  have p1 : gsm 5 (.node .tup [.leaf (.int 1), .node .tup []]) := gsm_tup (gc i1 (gc e g0))
  rcases a1 with (rfl | rfl | rfl | rfl | rfl | rfl | rfl | rfl | rfl | rfl | rfl | rfl | rfl | rfl | rfl | rfl | rfl) | rfl | rfl | rfl | rfl | rfl | rfl | rfl
  · exact .inr GV.non
  · exact .inr (GV.bl _)
  · exact .inr (GV.bl _)
  · exact .inr (i0.gv (by decide))
  · exact .inr (i1.gv (by decide))
  · exact .inr (GV.leaf_int (by decide) (by decide))
  · exact .inr (GV.leaf_int (by decide) (by decide))
  · exact .inr ((gsm_str (okS_of _) (by decide)).gv (by decide))
  · exact .inr ((gsm_str (okS_of _) (by decide)).gv (by decide))
  · exact .inr ((gsm_str (okS_of _) (by decide)).gv (by decide))
  · exact .inr (e.gv (by decide))
  · exact .inr (el.gv (by decide))
  · exact .inl ⟨_, _, rfl⟩
  · exact .inr ((gsm_tup (gc i0 g0)).gv (by decide))
  · exact .inr ((gsm_lst (gc i0 g0)).gv (by decide))
  · exact .inr (p1.gv (by decide))
  · exact .inr ((gsm_tup (gc i1 (gc el g0))).gv (by decide))
  · exact .inr ((gsm_tup (n := 3) (gc (i2.mono (by decide)) (gc (gsm_tup (n := 1) (gc i2 g0)) g0))).gv (by decide))
  · have s : gsm 1 (.leaf (.str (Str.ofString "reached"))) := gsm_str (okS_of _) (by decide)
    refine .inr ⟨(gsm_tup (n := 5) (gc (s.mono (by decide)) (gc (i0.mono (by decide)) (gc p1 g0)))).1, by decide, by decide⟩
  · have s : gsm 1 (.leaf (.str (Str.ofString "apart"))) := gsm_str (okS_of _) (by decide)
    refine .inr ⟨(gsm_tup (n := 5) (gc (s.mono (by decide)) (gc (i1.mono (by decide)) (gc (i2.mono (by decide)) (gc p1 (gc (i0.mono (by decide)) g0)))))).1, by decide, by decide⟩
  · exact .inl ⟨_, _, rfl⟩
  · exact .inr ((gsm_tup (n := 1) (gc (gsm_bl _) (gc e g0))).gv (by decide))
  · exact .inr ((gsm_tup (n := 1) (gc e g0)).gv (by decide))
  · exact .inr ((gsm_str (okS_of _) (by decide)).gv (by decide))

end Gm
namespace Gm
open PySem PySem.Spec PyProof.Rows L2 DL
noncomputable def g_compose : GS := sRet (eOfL gTupD (aCons (eKeep (eBin gMod (eBin gMul (eBin gIx (eVar 1) (eC (.int 0))) (eBin gIx (eVar 2) (eC (.int 0)))) (eVar 0))) (aCons (eKeep (eBin gMod (eBin gAdd (eBin gMul (eBin gIx (eVar 2) (eC (.int 0))) (eBin gIx (eVar 1) (eC (.int 1)))) (eBin gIx (eVar 2) (eC (.int 1)))) (eVar 0))) (aNil))))
noncomputable def m_compose : MF := runD 3 g_compose
theorem compose_ok (m a b c d : Int) (hm : 0 < m) (ha : sm a) (hb : sm b) (hc : sm c) (hd : sm d) {Q : Cell → List Cell → Prop} {X : Exc → List Cell → Prop}
    (q : Q (.sh (mpD ((a * c) % m) ((c * b + d) % m))) [.sh (.leaf (.int m)), .sh (mpD a b), .sh (mpD c d)]) : evM m_compose [.sh (.leaf (.int m)), .sh (mpD a b), .sh (mpD c d)] Q X := by
  unfold sm at ha hb hc hd
  refine evDef _ (by rfl) ?_
  unfold g_compose
  repeat' walk_at "ev"
  exact q

end Gm
namespace Gm
open PySem PySem.Spec PyProof.Rows L2 DL
noncomputable def g__law_compose : GS := sRet (eOfL gTupD (aCons (eKeep (eBin gMod (eBin gMul (eBin gIx (eVar 1) (eC (.int 0))) (eBin gIx (eVar 2) (eC (.int 0)))) (eVar 0))) (aCons (eKeep (eBin gMod (eBin gAdd (eBin gMul (eBin gIx (eVar 2) (eC (.int 0))) (eBin gIx (eVar 1) (eC (.int 1)))) (eBin gIx (eVar 2) (eC (.int 1)))) (eVar 0))) (aNil))))
noncomputable def m__law_compose : MF := runD 3 g__law_compose
theorem law_compose_ok (m a b c d : Int) (hm : 0 < m) (ha : sm a) (hb : sm b) (hc : sm c) (hd : sm d) {Q : Cell → List Cell → Prop} {X : Exc → List Cell → Prop}
    (q : Q (.sh (mpD ((a * c) % m) ((c * b + d) % m))) [.sh (.leaf (.int m)), .sh (mpD a b), .sh (mpD c d)]) : evM m__law_compose [.sh (.leaf (.int m)), .sh (mpD a b), .sh (mpD c d)] Q X := by
  have e : m__law_compose = m_compose := rfl
  rw [e]
  exact compose_ok m a b c d hm ha hb hc hd q

end Gm
namespace Gm
open PySem PySem.Spec PyProof.Rows L2 DL
noncomputable def g__law_gcd : GS := sSeq (sWhile (tOf (eBin gNe (eVar 1) (eC (.int 0)))) (sPar 0 1 (aCons (eSolid (eVar 1)) (aCons (eSolid (eBin gMod (eVar 0) (eVar 1))) (aNil)))))
  (sRet (eBI gAbs (aCons (eVar 0) (aNil))))
noncomputable def m__law_gcd : MF := runD 2 g__law_gcd
theorem law_gcd_ok (a b : Int) (hb : 0 ≤ b) {Q : Cell → List Cell → Prop} {X : Exc → List Cell → Prop}
    (q : Q (.sh (.leaf (.int (gcdI a b)))) [.sh (.leaf (.int a)), .sh (.leaf (.int b))]) : evM m__law_gcd [.sh (.leaf (.int a)), .sh (.leaf (.int b))] Q X := by
  refine evDef _ (by rfl) ?_
  unfold g__law_gcd
  repeat' walk_at "ev"
  refine evWhile (fun n Γ => ∃ x y : Int, Γ = [some (.sh (.leaf (.int x))), some (.sh (.leaf (.int y)))] ∧ 0 ≤ y ∧ y.toNat = n ∧ gcdI x y = gcdI a b) (fun n Γ hI => ?_) b.toNat ⟨a, b, rfl, hb, rfl, rfl⟩
  obtain ⟨x, y, rfl, hy, rfl, hg⟩ := hI
  repeat' (first | with_reducible refine vAbsN ?_ | walk_at "ev")
  · rename_i h
    subst h
    rw [gcdI_zero] at hg
    rw [← hg] at q
    exact q
  · rename_i h
    have h1 := mod_lt (a := x) (b := y) (by omega)
    exact ⟨(x % y).toNat, by omega, y, x % y, rfl, h1.1, rfl, by rw [gcdI_step, hg]⟩

end Gm
namespace Gm
open PySem PySem.Spec PyProof.Rows L2 DL
noncomputable def g__law_is_integer : GS := sRet (eAndD (eBI gIsi (aCons (eVar 0) (aCons (eC (.ty "int")) (aNil)))) (eNotD (eBI gIsi (aCons (eVar 0) (aCons (eC (.ty "bool")) (aNil))))))
noncomputable def m__law_is_integer : MF := runD 1 g__law_is_integer
theorem law_int_any {d : D} {n : String} (h : tyName d = some n) {Q : Cell → List Cell → Prop} {X : Exc → List Cell → Prop}
    (q : Q (.sh (.leaf (.bl (isIntD d)))) [.sh d]) : evM m__law_is_integer [.sh d] Q X := by
  refine evDef _ (by rfl) ?_
  unfold g__law_is_integer
  rcases isIntD_cases h with ⟨i, rfl⟩ | ⟨hf, hn⟩
  · repeat' walk_at "ev"
    exact q
  · rw [hf] at q
    rcases hn with rfl | rfl | rfl | rfl | rfl | rfl
    all_goals
      repeat' (first | walk_at "ev" | with_reducible refine vIsi h (by with_unfolding_all exact rfl) ?_)
      exact q

end Gm
namespace Gm
open PySem PySem.Spec PyProof.Rows L2 DL
noncomputable def g__law_is_map_v2 : GS := sSeq (sIf (tOrD (tNotD (tOf (eBI gIsi (aCons (eVar 1) (aCons (eC (.ty "tuple")) (aNil)))))) (tOf (eBin gNe (eBI gLen (aCons (eVar 1) (aNil))) (eC (.int 2))))) (sRet (eC (.bl false))) (sNil))
  (sSeq (sIf (tOf (eBin gNeE (eLc (iSeq (eVar 1)) (pNm 2) (tOrD (tNotD (tOf (eCallN 1 m__law_is_integer [] (aCons (eKeep (eVar 2)) (aNil))))) (tNotD (tOf (eChain gLe gLt (eC (.int 0)) (eVar 2) (eVar 0))))) (eVar 2) [2]) (eOfL gLstD (aNil)))) (sRet (eC (.bl false))) (sNil))
  (sRet (eBin gEq (eCallN 2 m__law_gcd [] (aCons (eKeep (eBin gIx (eVar 1) (eC (.int 0)))) (aCons (eKeep (eVar 0)) (aNil)))) (eC (.int 1)))))
noncomputable def m__law_is_map_v2 : MF := runD 3 g__law_is_map_v2
theorem law_is_map2_gen (m : Int) {d : D} (hm : 2 ≤ m) (h : tyD d) (h2 : ∀ ds, d = .node .tup ds → ∀ e ∈ ds, tyD e) {Q : Cell → List Cell → Prop} {X : Exc → List Cell → Prop}
    (q : Q (.sh (.leaf (.bl (isMapD m d)))) [.sh (.leaf (.int m)), .sh d]) : evM m__law_is_map_v2 [.sh (.leaf (.int m)), .sh d] Q X := by
  obtain ⟨n, hn⟩ := h
  refine evDef _ (by rfl) ?_
  unfold g__law_is_map_v2
  rcases ty_cases hn with ⟨ds, rfl⟩ | ⟨hc, hno⟩
  · repeat' walk_at "ev"
    · rename_i hl
      have hl' : ds.length = 2 := by omega
      refine evLcP (fun d => if btw 0 (m - 1) d then none else some d) ds rfl (by omega) (fun d hd => ?_) ?_
      · obtain ⟨nd, hd2⟩ := h2 _ rfl d hd
        rcases isIntD_cases hd2 with ⟨i, rfl⟩ | ⟨hf, hk⟩
        · repeat' walk_at "ev"
          refine law_int_any (d := .leaf (.int i)) (n := "int") rfl ?_
          rw [show isIntD (.leaf (.int i)) = true from rfl]
          repeat' walk_at "ev"
          all_goals first | exact if_pos (btw_t (by omega)) | exact if_neg (by rw [btw_f (by omega)]; decide)
        · repeat' walk_at "ev"
          refine law_int_any hd2 ?_
          rw [hf]
          repeat' walk_at "ev"
          exact if_neg (by rw [btw_not 0 (m - 1) hf]; decide)
      · obtain ⟨a, b, rfl⟩ : ∃ a b, ds = [a, b] := by
          match ds, hl' with
          | [a, b], _ => exact ⟨a, b, rfl⟩
        have e : isMapD m (.node .tup [a, b]) = (btw 0 (m - 1) a && btw 0 (m - 1) b && uniI m a) := rfl
        rw [e] at q
        cases ha : btw 0 (m - 1) a with
        | false =>
          rw [ha, Bool.false_and, Bool.false_and] at q
          rw [show [a, b].filterMap (fun d => if btw 0 (m - 1) d then none else some d) = a :: [b].filterMap (fun d => if btw 0 (m - 1) d then none else some d) by rw [List.filterMap_cons, ha]; rfl]
          repeat' walk_at "ev"
          exact q
        | true =>
          rw [ha, Bool.true_and] at q
          cases hb : btw 0 (m - 1) b with
          | false =>
            rw [hb, Bool.false_and] at q
            rw [show [a, b].filterMap (fun d => if btw 0 (m - 1) d then none else some d) = [b] by rw [List.filterMap_cons, ha, List.filterMap_cons, hb]; rfl]
            repeat' walk_at "ev"
            exact q
          | true =>
            rw [hb, Bool.true_and] at q
            rw [show [a, b].filterMap (fun d => if btw 0 (m - 1) d then none else some d) = [] by rw [List.filterMap_cons, ha, List.filterMap_cons, hb]; rfl]
            repeat' walk_at "ev"
            obtain ⟨na, hta⟩ := h2 _ rfl a (by simp)
            obtain ⟨i, rfl⟩ : ∃ i, a = .leaf (.int i) := by
              rcases isIntD_cases hta with h | ⟨h, _⟩
              · exact h
              · rw [btw_not 0 (m - 1) h] at ha
                cases ha
            refine law_gcd_ok i m (by omega) ?_
            repeat' walk_at "ev"
            exact q
    · rename_i hl
      rw [isMapD_not fun a b e => by cases e; exact hl rfl] at q
      exact q
  · rw [isMapD_not fun a b => hno _] at q
    rcases hc with rfl | rfl | rfl | rfl | rfl | rfl
    all_goals
      repeat' (first | walk_at "ev" | with_reducible refine vIsi hn (by with_unfolding_all exact rfl) ?_)
      exact q

end Gm
namespace Gm
open PySem PySem.Spec PyProof.Rows L2 DL

def lastI (l : List Int) : Int := l.getLastD 1
abbrev prs : List Int := [2, 3, 5, 7, 11, 13]
theorem div_lt {a p : Int} (ha : 0 < a) (hp : 2 ≤ p) (hd : a % p = 0) : 0 < a / p ∧ a / p < a ∧ p * (a / p) = a := by
  have e : p * (a / p) = a := by have := Int.mul_ediv_add_emod a p; omega
  have h1 : 0 < a / p := by
    rcases Int.lt_or_le 0 (a / p) with h | h
    · exact h
    · have : p * (a / p) ≤ 0 := Int.mul_nonpos_of_nonneg_of_nonpos (by omega) h
      omega
  have h2 : 2 * (a / p) ≤ p * (a / p) := Int.mul_le_mul_of_nonneg_right hp (by omega)
  omega
/-- what holds of a chain under way: m = its last * left, and it is not long -/
structure ChI (m : Int) (found : List Int) (left : Int) : Prop where
  pos : 0 < left
  ne : found ≠ []
  all : ∀ x ∈ found, 1 ≤ x ∧ x ≤ m
  prod : lastI found * left = m
  len : 2 ^ found.length * left ≤ 2 * m
theorem ChI.one {m : Int} (h : 1 ≤ m) : ChI m [1] m := ⟨by omega, by simp, fun x hx => by simp at hx; omega, by show 1 * m = m; omega, by show 2 ^ 1 * m ≤ 2 * m; omega⟩
theorem lastI_snoc (l : List Int) (x : Int) : lastI (l ++ [x]) = x := by unfold lastI; simp
theorem lastI_mem {l : List Int} (h : l ≠ []) : lastI l ∈ l := by
  obtain ⟨a, x, rfl⟩ : ∃ a x, l = a ++ [x] := ⟨l.dropLast, l.getLast h, (List.dropLast_concat_getLast h).symm⟩
  rw [lastI_snoc]
  simp
theorem ChI.step {m p left : Int} {found : List Int} (h : ChI m found left) (hp : 2 ≤ p) (hd : left % p = 0) : ChI m (found ++ [lastI found * p]) (left / p) := by
  obtain ⟨a1, a2, a3⟩ := div_lt h.pos hp hd
  have hl := h.all _ (lastI_mem h.ne)
  have e : lastI found * p * (left / p) = m := by rw [Int.mul_assoc, a3, h.prod]
  have hb : 1 ≤ lastI found * p := by
    have : 1 * 2 ≤ lastI found * p := Int.mul_le_mul hl.1 hp (by omega) (by omega)
    omega
  have hm : lastI found * p ≤ m := by
    have : lastI found * p * 1 ≤ lastI found * p * (left / p) := Int.mul_le_mul_of_nonneg_left (by omega) (by omega)
    omega
  refine ⟨a1, by simp, fun x hx => ?_, by rw [lastI_snoc]; exact e, ?_⟩
  · rcases List.mem_append.mp hx with hx | hx
    · exact h.all x hx
    · simp at hx; subst hx; exact ⟨hb, hm⟩
  · have l1 := h.len
    rw [List.length_append, List.length_singleton, Int.pow_succ]
    have p2 : (0 : Int) ≤ 2 ^ found.length := Int.pow_nonneg (by decide)
    have : 2 ^ found.length * (2 * (left / p)) ≤ 2 ^ found.length * left := Int.mul_le_mul_of_nonneg_left (by
      have : 2 * (left / p) ≤ p * (left / p) := Int.mul_le_mul_of_nonneg_right hp (by omega)
      omega) p2
    rw [Int.mul_assoc]
    omega
theorem ChI.short {m left : Int} {found : List Int} (h : ChI m found left) (hm : m ≤ 1000000000000000000000000000000) : found.length ≤ 100 := by
  rcases Nat.lt_or_ge 100 found.length with z | z
  · have h1 := h.len
    have h2 := h.pos
    have h3 : (2 : Int) ^ 101 ≤ 2 ^ found.length := by
      have := Nat.pow_le_pow_right (n := 2) (by decide) (show 101 ≤ found.length by omega)
      exact_mod_cast this
    have h4 : (2 : Int) ^ found.length * 1 ≤ 2 ^ found.length * left := Int.mul_le_mul_of_nonneg_left (by omega) (Int.pow_nonneg (by decide))
    have h5 : (2 : Int) ^ 101 = 2535301200456458802993406410752 := by decide
    omega
  · exact z
theorem atI_lastI {l : List Int} (h : l ≠ []) : atI (intsD l) (-1) = some (.leaf (.int (lastI l))) := by
  obtain ⟨a, x, rfl⟩ : ∃ a x, l = a ++ [x] := ⟨l.dropLast, l.getLast h, (List.dropLast_concat_getLast h).symm⟩
  rw [lastI_snoc]
  unfold intsD
  rw [List.map_append]
  exact atI_last
theorem intsD_snoc (l : List Int) (x : Int) : intsD l ++ [.leaf (.int x)] = intsD (l ++ [x]) := by unfold intsD; rw [List.map_append]; rfl
theorem vIxLast {Γ : Gam} {Q : Cell → Gam → Prop} {l : List Int} (h : l ≠ []) (q : Q (.sh (.leaf (.int (lastI l)))) Γ) : evG (gIx (.node .lst (intsD l)) (.leaf (.int (-1)))) Γ Q := vIxL (atI_lastI h) q
end Gm
namespace Gm
open PySem PySem.Spec PyProof.Rows L2 DL

/-! ### pigeonhole -/
/-! ### iterated images -/
def sq (m : Int) (f : Int × Int) (x : Int) (k : Nat) : Int := apM m (pw m f k) x
/-- n is the period of y -/
def isPer (m : Int) (f : Int × Int) (y : Int) (n : Nat) : Prop := 0 < n ∧ ∀ k : Nat, sq m f y k = y ↔ n ∣ k
theorem isPer.uniq {m : Int} {f : Int × Int} {y : Int} {n n' : Nat} (h : isPer m f y n) (h' : isPer m f y n') : n = n' :=
  Nat.dvd_antisymm ((h.2 n').mp ((h'.2 n').mpr (Nat.dvd_refl _))) ((h'.2 n).mp ((h.2 n).mpr (Nat.dvd_refl _)))
/-- the orbit, as far as it is written -/
def orb (m : Int) (f : Int × Int) (y : Int) (n : Nat) : List Int := (List.range n).map (sq m f y)
theorem orb_succ (m : Int) (f : Int × Int) (y : Int) (n : Nat) : orb m f y (n + 1) = orb m f y n ++ [sq m f y n] := by unfold orb; rw [List.range_succ, List.map_append]; rfl
theorem orb_get {m : Int} {f : Int × Int} {y : Int} {n k : Nat} (h : k < n) : (orb m f y n)[k]? = some (sq m f y k) := by
  unfold orb
  rw [List.getElem?_map, List.getElem?_range h]
  rfl
/-! ### reduced maps -/
/-! ### chains, link by link -/
def Lk : Int → List Int → Prop
  | _, [] => True
  | b, d :: r => (∃ p ∈ prs, d = b * p) ∧ Lk d r
def Zc (l : List Int) : Prop := ∃ r, l = 1 :: r ∧ Lk 1 r
theorem lk_snoc {p : Int} (hp : p ∈ prs) : ∀ (b : Int) (r : List Int), Lk b r → Lk b (r ++ [lastI (b :: r) * p])
  | b, [], _ => ⟨⟨p, hp, rfl⟩, trivial⟩
  | b, d :: r, h => ⟨h.1, by
    have : lastI (b :: d :: r) = lastI (d :: r) := by unfold lastI; simp
    rw [this]
    exact lk_snoc hp d r h.2⟩
theorem Zc.snoc {l : List Int} {p : Int} (h : Zc l) (hp : p ∈ prs) : Zc (l ++ [lastI l * p]) := by
  obtain ⟨r, rfl, h⟩ := h
  exact ⟨r ++ [lastI (1 :: r) * p], rfl, lk_snoc hp 1 r h⟩
theorem prs_b {p : Int} (h : p ∈ prs) : 2 ≤ p ∧ p ≤ 13 := by
  simp only [List.mem_cons, List.not_mem_nil, or_false] at h
  omega

end Gm
namespace Gm
open PySem PySem.Spec PyProof.Rows L2 DL
noncomputable def g__law_shuffled : GS := sSeq (sPar 2 3 (aCons (eSolid (eBI gList (aCons (eVar 1) (aNil)))) (aCons (eSolid (eOfL gLstD (aNil))) (aNil))))
  (sSeq (sWhile (tOf (eBin gNe (eVar 2) (eOfL gLstD (aNil)))) (sExpr (eMut 3 "list" gAppend (aCons (eKeep (eMut 2 "list" gPopAt (aCons (eKeep (eCallN 2 m__law_draw [] (aCons (eVar 0) (aCons (eKeep (eBI gLen (aCons (eVar 2) (aNil)))) (aNil))))) (aNil)))) (aNil)))))
  (sRet (eVar 3)))
noncomputable def m__law_shuffled : MF := runD 4 g__law_shuffled
theorem erase_perm {α : Type} : ∀ (l : List α) (k : Nat) (x : α), l[k]? = some x → (x :: l.eraseIdx k).Perm l
  | [], k, x, h => by simp at h
  | a :: l, 0, x, h => by simp at h; subst h; exact List.Perm.refl _
  | a :: l, k + 1, x, h => by
    have := erase_perm l k x (by simpa using h)
    exact List.Perm.trans (List.Perm.swap a x _) (List.Perm.cons a this)
theorem shuffled_ok (ns : List Int) (t r : Int) (s : D) (ds : List D) (ht : 0 ≤ t ∧ t < 100000000000000000000000000000) (hr : 0 ≤ r) (hs : gList [s] = some (.new .lst ds)) (hk : ∀ d ∈ ds, okD d) (h1 : ds.length < 16777216) {Q : Cell → List Cell → Prop} {X : Exc → List Cell → Prop}
    (q : ∀ (out : List D) (t' r' : Int), out.Perm ds → 0 ≤ t' → t' ≤ t + ds.length → 0 ≤ r' → Q (.ow .lst out) [penC ns t' r', .sh s]) :
    evM m__law_shuffled [penC ns t r, .sh s] Q X := by
  refine evDef _ (by rfl) ?_
  unfold g__law_shuffled
  repeat' (first | walk_at "ev" | with_reducible refine evG_lst hs ?_ | with_reducible refine evPar ?_)
  refine evWhile (fun n Γ => ∃ left found t' r', Γ = [some (penR ns t' r'), some (.sh s), some (.ow .lst left), some (.ow .lst found)] ∧ left.length = n ∧ (found ++ left).Perm ds ∧ 0 ≤ t' ∧ t' ≤ t + found.length ∧ 0 ≤ r') (fun n Γ hI => ?_) ds.length ⟨ds, [], t, r, rfl, rfl, by simp, ht.1, by simp, hr⟩
  obtain ⟨left, found, t', r', rfl, hn, hp, a1, a2, a3⟩ := hI
  have hlen := hp.length_eq
  rw [List.length_append] at hlen
  have hok : ∀ d ∈ left, okD d := fun d hd => hk d (hp.mem_iff.mp (by simp [hd]))
  repeat' (first | walk_at "ev" | with_reducible refine vNeNil hok ?_)
  · rename_i hb
    subst hb
    rw [List.append_nil] at hp
    have := hp.length_eq
    exact q found t' r' hp a1 (by omega) a3
  · rename_i hb
    have hpos : 0 < left.length := List.length_pos_iff.mpr hb
    refine draw_ok ns t' r' _ ⟨a1, by omega⟩ a3 (by omega) fun d t2 r2 b1 b2 b3 b4 b5 => ?_
    have hd : d.toNat < left.length := by omega
    have hg : left[d.toNat]? = some left[d.toNat] := List.getElem?_eq_getElem hd
    repeat' walk_at "ev"
    refine uPopAt d.toNat left[d.toNat] (by omega) hg (by omega) ?_
    repeat' walk_at "ev"
    refine uAppend (by omega) ?_
    repeat' walk_at "ev"
    have hz : (left.eraseIdx d.toNat).length + 1 = left.length := by rw [List.length_eraseIdx_of_lt hd]; omega
    refine ⟨(left.eraseIdx d.toNat).length, by omega, left.eraseIdx d.toNat, found ++ [left[d.toNat]], t2, r2, rfl, rfl, ?_, b3, ?_, b5⟩
    · refine List.Perm.trans ?_ hp
      rw [List.append_assoc]
      refine List.Perm.append_left found ?_
      exact erase_perm left d.toNat _ hg
    · rw [List.length_append, List.length_singleton]; omega

end Gm
namespace Gm
open PySem PySem.Spec PyProof.Rows L2 DL
noncomputable def g__law_modulus : GS := sSeq (sPar 2 3 (aCons (eSolid (eC (.int 1))) (aCons (eSolid (eBin gAdd (eSlice (eCallN 2 m__law_shuffled [] (aCons (eVar 0) (aCons (eKeep (eOfL gLstD (aCons (eKeep (eC (.int 2))) (aCons (eKeep (eC (.int 3))) (aCons (eKeep (eC (.int 5))) (aCons (eKeep (eC (.int 7))) (aCons (eKeep (eC (.int 11))) (aCons (eKeep (eC (.int 13))) (aNil))))))))) (aNil)))) oNone (oSome (eBin gAdd (eC (.int 1)) (eCallN 2 m__law_draw [] (aCons (eVar 0) (aCons (eKeep (eC (.int 3))) (aNil))))))) (eOfL gLstD (aCons (eKeep (eC (.int 2))) (aNil))))) (aNil))))
  (sSeq (sFor (iOfL gRange1 (aCons (eKeep (eBin gAdd (eC (.int 1)) (eCallN 2 m__law_draw [] (aCons (eVar 0) (aCons (eKeep (eC (.int 12))) (aNil)))))) (aNil))) (pNm 4) (sSeq (sSet 5 (eCallN 2 m__law_pick [] (aCons (eVar 0) (aCons (eKeep (eVar 3)) (aNil)))))
  (sIf (tOf (eBin gLe (eBin gMul (eVar 2) (eVar 5)) (eVar 1))) (sSet 2 (eBin gMul (eVar 2) (eVar 5))) (sNil))))
  (sRet (eIf (tOf (eBin gGt (eVar 2) (eC (.int 1)))) (eVar 2) (eC (.int 2)))))
noncomputable def m__law_modulus : MF := runD 6 g__law_modulus
/-- a product of primes up to 13 -/
inductive Smooth : Int → Prop
  | one : Smooth 1
  | mul {m p : Int} (h : Smooth m) (hp : p = 2 ∨ p = 3 ∨ p = 5 ∨ p = 7 ∨ p = 11 ∨ p = 13) : Smooth (m * p)
theorem Smooth.pos {m : Int} (h : Smooth m) : 1 ≤ m := by
  induction h with
  | one => exact Int.le_refl 1
  | mul h hp ih => rcases hp with rfl | rfl | rfl | rfl | rfl | rfl <;> omega
def isPr (d : D) : Prop := d = .leaf (.int 2) ∨ d = .leaf (.int 3) ∨ d = .leaf (.int 5) ∨ d = .leaf (.int 7) ∨ d = .leaf (.int 11) ∨ d = .leaf (.int 13)
theorem isPr_int {d : D} (h : isPr d) : ∃ p : Int, d = .leaf (.int p) ∧ (p = 2 ∨ p = 3 ∨ p = 5 ∨ p = 7 ∨ p = 11 ∨ p = 13) := by
  rcases h with h | h | h | h | h | h <;> exact ⟨_, h, by simp⟩
theorem modulus_ok (ns : List Int) (t r most : Int) (ht : 0 ≤ t ∧ t < 10000000000000000000000000000) (hr : 0 ≤ r) (hm : 2 ≤ most ∧ most ≤ 1000000000000000000000000000000) {Q : Cell → List Cell → Prop} {X : Exc → List Cell → Prop}
    (q : ∀ m t' r' : Int, Smooth m → 2 ≤ m → m ≤ most → 0 ≤ t' → t' ≤ t + 20 → 0 ≤ r' → Q (.sh (.leaf (.int m))) [penC ns t' r', .sh (.leaf (.int most))]) :
    evM m__law_modulus [penC ns t r, .sh (.leaf (.int most))] Q X := by
  refine evDef _ (by rfl) ?_
  unfold g__law_modulus
  repeat' (first | walk_at "ev" | with_reducible refine evPar ?_)
  refine shuffled_ok ns t r _ _ (by omega) hr rfl (fun d hd => ?_) (by simp) fun out t1 r1 a1 a2 a3 a4 => ?_
  · simp only [List.mem_cons, List.not_mem_nil, or_false] at hd
    rcases hd with h | h | h | h | h | h <;> subst h <;> exact okD_int _
  have hout : ∀ d ∈ out, isPr d := fun d hd => by
    have := a1.mem_iff.mp hd
    simp only [List.mem_cons, List.not_mem_nil, or_false] at this
    exact this
  have hol := a1.length_eq
  simp at a3 hol
  repeat' walk_at "ev"
  refine draw_ok ns t1 r1 3 (by omega) a4 (by omega) fun d1 t2 r2 b1 b2 b3 b4 b5 => ?_
  repeat' walk_at "ev"
  have hcl := cutD_len out none (some (1 + d1))
  have hps : ∀ d ∈ DL.cutD out none (some (1 + d1)) ++ [D.leaf (V.int 2)], isPr d := fun d hd => by
    rcases List.mem_append.mp hd with h | h
    · exact hout d (cutD_mem h)
    · simp at h; subst h; exact .inl rfl
  refine vAddL (by simp; omega) ?_
  generalize hgp : DL.cutD out none (some (1 + d1)) ++ [D.leaf (V.int 2)] = ps at hps
  have hpl : 0 < ps.length ∧ ps.length ≤ 7 := by subst hgp; simp; omega
  repeat' walk_at "ev"
  refine draw_ok ns t2 r2 12 (by omega) b5 (by omega) fun d2 t3 r3 c1 c2 c3 c4 c5 => ?_
  repeat' walk_at "ev"
  refine evFor_range (fun k Γ => ∃ (found t' r' : Int) (c3 : Cell) (x4 x5 : Option Cell), Γ = [some (penR ns t' r'), some (.sh (.leaf (.int most))), some (.sh (.leaf (.int found))), some c3, x4, x5] ∧ (c3 = .ow .lst ps ∨ c3 = .sh (.node .lst ps)) ∧ isRf (some x4) = false ∧ isRf (some x5) = false ∧ Smooth found ∧ found ≤ most ∧ 0 ≤ t' ∧ t' ≤ t3 + k ∧ 0 ≤ r') _ _ 0 ⟨1, t3, r3, _, _, _, rfl, .inl rfl, rfl, rfl, .one, by omega, c3, by omega, c5⟩ (fun m Γ hm hI => ?_) fun Γ hI => ?_
  · obtain ⟨found, t', r', c3, x4, x5, rfl, hc3, f4, f5, e1, e2, e3, e4, e5⟩ := hI
    have hf := e1.pos
    rcases hc3 with rfl | rfl
    all_goals
      repeat' walk_at "ev"
      refine pick_ok ns t' r' ps (by omega) e5 hpl.1 (by omega) fun d t4 r4 g1 g2 g3 g4 => ?_
      obtain ⟨p, rfl, hp⟩ := isPr_int (hps d g1)
      have hpb : 2 ≤ p ∧ p ≤ 13 := by omega
      repeat' walk_at "ev"
      · exact ⟨found * p, t4, r4, _, _, _, rfl, .inr rfl, rfl, rfl, .mul e1 hp, by assumption, g2, by omega, g4⟩
      · exact ⟨found, t4, r4, _, _, _, rfl, .inr rfl, rfl, rfl, e1, e2, g2, by omega, g4⟩
  · obtain ⟨found, t', r', c3, x4, x5, rfl, hc3, f4, f5, e1, e2, e3, e4, e5⟩ := hI
    repeat' walk_at "ev"
    · exact q found t' r' e1 (by omega) e2 e3 (by omega) e5
    · exact q 2 t' r' (.mul (m := 1) .one (.inl rfl)) (by omega) (by omega) e3 (by omega) e5

end Gm
namespace Gm
open PySem PySem.Spec PyProof.Rows L2 DL

theorem cop_prs {u p : Int} (hp : p ∈ prs) (h : ¬ p ∣ u) : Int.gcd u p = 1 := by
  have key : ∀ g : Nat, g ≤ 13 → ∀ p ∈ [2, 3, 5, 7, 11, 13], g ∣ p → g = 1 ∨ g = p := by decide
  have hb := prs_b hp
  have d1 := Int.gcd_dvd_right u p
  have d2 := Int.gcd_dvd_left u p
  have d3 : Int.gcd u p ∣ p.toNat := by
    have := Int.natAbs_dvd_natAbs.mpr d1
    rw [Int.natAbs_natCast, show p.natAbs = p.toNat by omega] at this
    exact this
  have hm : p.toNat ∈ [2, 3, 5, 7, 11, 13] := by
    simp only [List.mem_cons, List.not_mem_nil, or_false] at hp ⊢
    omega
  rcases key _ (by have := Nat.le_of_dvd (by omega) d3; omega) _ hm d3 with e | e
  · exact e
  · refine (h ?_).elim
    rw [e] at d2
    rwa [show ((p.toNat : Nat) : Int) = p by omega] at d2
theorem smooth_one {m : Int} (h : Smooth m) : ∀ u : Int, 0 < u → u ∣ m → (∀ p ∈ prs, ¬ p ∣ u) → u = 1 := by
  induction h with
  | one => exact fun u h0 hd _ => Int.eq_one_of_dvd_one (by omega) hd
  | @mul m p h hp ih =>
    intro u h0 hd hn
    have hpm : p ∈ prs := by simp only [List.mem_cons, List.not_mem_nil, or_false]; exact hp
    have hc := cop_prs hpm (hn p hpm)
    refine ih u h0 ?_ hn
    have h1 : u.natAbs ∣ m.natAbs * p.natAbs := by rw [← Int.natAbs_mul]; exact Int.natAbs_dvd_natAbs.mpr hd
    exact Int.natAbs_dvd_natAbs.mp (Nat.Coprime.dvd_of_dvd_mul_right (show Nat.Coprime u.natAbs p.natAbs from hc) h1)
end Gm
namespace Gm
open PySem PySem.Spec PyProof.Rows L2 DL
noncomputable def g__law_divisors : GS := sSeq (sPar 1 2 (aCons (eSolid (eOfL gLstD (aCons (eKeep (eC (.int 1))) (aNil)))) (aCons (eSolid (eVar 0)) (aNil))))
  (sSeq (sFor (iSeq (eOfL gTupD (aCons (eKeep (eC (.int 2))) (aCons (eKeep (eC (.int 3))) (aCons (eKeep (eC (.int 5))) (aCons (eKeep (eC (.int 7))) (aCons (eKeep (eC (.int 11))) (aCons (eKeep (eC (.int 13))) (aNil))))))))) (pNm 3) (sSeq (sSet 4 (eOfL gLstD (aCons (eKeep (eC (.int 1))) (aNil))))
  (sSeq (sWhile (tOf (eBin gEq (eBin gMod (eVar 2) (eVar 3)) (eC (.int 0)))) (sSeq (sSet 2 (eBin gFdiv (eVar 2) (eVar 3)))
  (sExpr (eMut 4 "list" gAppend (aCons (eKeep (eBin gMul (eBin gIx (eVar 4) (eUn gNeg (eC (.int 1)))) (eVar 3))) (aNil))))))
  (sSeq (sSet 5 (eOfL gLstD (aNil)))
  (sSeq (sFor (iSeq (eVar 4)) (pNm 6) (sExpr (eMut 5 "list" gExtend (aCons (eKeep (eLc (iSeq (eVar 1)) (pNm 7) (tYesD) (eBin gMul (eVar 7) (eVar 6)) [7])) (aNil)))))
  (sSet 1 (eVar 5)))))))
  (sRet (eBI gSorted (aCons (eVar 1) (aNil)))))
noncomputable def m__law_divisors : MF := runD 8 g__law_divisors
/-- what holds of the divisors under way -/
structure DvI (m : Int) (found : List Int) (left : Int) (c : Nat) : Prop where
  pos : 0 < left
  ne : found ≠ []
  dvd : ∀ x ∈ found, 1 ≤ x ∧ x * left ∣ m
  len : ((found.length : Nat) : Int) * found.length * left ≤ 4 ^ c * m
  one : (1 : Int) ∈ found
  top : ∃ (P : Int) (rest : List Int), 1 ≤ P ∧ P * left = m ∧ found.Perm (P :: rest) ∧ ∀ x ∈ rest, 1 ≤ x ∧ x < P
theorem sq_pow : ∀ k : Nat, ((k : Int) + 1) * (k + 1) ≤ 4 * 2 ^ k
  | 0 => by decide
  | 1 => by decide
  | 2 => by decide
  | k + 3 => by
    have h := sq_pow (k + 2)
    rw [show k + 3 = (k + 2) + 1 from rfl, Int.pow_succ]
    have e : (((k + 2 : Nat) : Int) + 1) = (k : Int) + 3 := by omega
    have e2 : (((k + 2 + 1 : Nat) : Int) + 1) = (k : Int) + 4 := by omega
    rw [e] at h
    rw [e2]
    have h1 : ((k : Int) + 4) * (k + 4) ≤ 2 * (((k : Int) + 3) * (k + 3)) := by
      have : (0 : Int) ≤ k := by omega
      have h2 : (0 : Int) ≤ (k : Int) * k := Int.mul_nonneg this this
      simp only [Int.add_mul, Int.mul_add]
      omega
    omega
structure PwI (left0 : Int) (powers : List Int) (left : Int) : Prop where
  pos : 0 < left
  ne : powers ≠ []
  last : lastI powers * left = left0 ∧ 1 ≤ lastI powers
  dvd : ∀ y ∈ powers, 1 ≤ y ∧ y * left ∣ left0
  len : 2 ^ (powers.length - 1) * left ≤ left0
  one : (1 : Int) ∈ powers
  top : ∃ P' : List Int, powers = P' ++ [lastI powers] ∧ ∀ y ∈ P', 1 ≤ y ∧ y < lastI powers
theorem PwI.step {p left0 left : Int} {powers : List Int} (h : PwI left0 powers left) (hp : 2 ≤ p) (hd : left % p = 0) : PwI left0 (powers ++ [lastI powers * p]) (left / p) := by
  obtain ⟨a1, a2, a3⟩ := div_lt h.pos hp hd
  have hl := h.last
  have e : lastI powers * p * (left / p) = left0 := by rw [Int.mul_assoc, a3, hl.1]
  have hb : 1 ≤ lastI powers * p := by
    have : 1 * 2 ≤ lastI powers * p := Int.mul_le_mul hl.2 hp (by omega) (by omega)
    omega
  refine ⟨a1, by simp, by rw [lastI_snoc]; exact ⟨e, hb⟩, fun x hx => ?_, ?_, List.mem_append.mpr (.inl h.one), ⟨powers, by rw [lastI_snoc], fun y hy => ?_⟩⟩
  rotate_left 2
  · rw [lastI_snoc]
    refine ⟨(h.dvd y hy).1, ?_⟩
    have hlt : lastI powers * 1 < lastI powers * p := Int.mul_lt_mul_of_pos_left (by omega) (by omega)
    obtain ⟨P', e', hP'⟩ := h.top
    rw [e'] at hy
    rcases List.mem_append.mp hy with hy | hy
    · have := hP' y hy; omega
    · rw [List.mem_singleton] at hy; omega
  · rcases List.mem_append.mp hx with hx | hx
    · refine ⟨(h.dvd x hx).1, ?_⟩
      have h2 := (h.dvd x hx).2
      rw [← a3] at h2
      refine Int.dvd_trans ⟨p, ?_⟩ h2
      rw [Int.mul_assoc, Int.mul_comm (left / p)]
    · simp at hx
      subst hx
      exact ⟨hb, by rw [e]; exact Int.dvd_refl _⟩
  · have l1 := h.len
    have hne : 0 < powers.length := List.length_pos_iff.mpr h.ne
    rw [List.length_append, List.length_singleton, show powers.length + 1 - 1 = (powers.length - 1) + 1 by omega, Int.pow_succ]
    have p2 : (0 : Int) ≤ 2 ^ (powers.length - 1) := Int.pow_nonneg (by decide)
    have : 2 ^ (powers.length - 1) * (2 * (left / p)) ≤ 2 ^ (powers.length - 1) * left := Int.mul_le_mul_of_nonneg_left (by
      have : 2 * (left / p) ≤ p * (left / p) := Int.mul_le_mul_of_nonneg_right hp (by omega)
      omega) p2
    rw [Int.mul_assoc]
    omega
theorem PwI.short {left0 left : Int} {powers : List Int} (h : PwI left0 powers left) (hm : left0 ≤ 1000000000) : powers.length ≤ 31 := by
  rcases Nat.lt_or_ge 31 powers.length with z | z
  · have h1 := h.len
    have h2 := h.pos
    have h3 : (2 : Int) ^ 31 ≤ 2 ^ (powers.length - 1) := by
      have := Nat.pow_le_pow_right (n := 2) (by decide) (show 31 ≤ powers.length - 1 by omega)
      exact_mod_cast this
    have h4 : (2 : Int) ^ (powers.length - 1) * 1 ≤ 2 ^ (powers.length - 1) * left := Int.mul_le_mul_of_nonneg_left (by omega) (Int.pow_nonneg (by decide))
    have h5 : (2 : Int) ^ 31 = 2147483648 := by decide
    omega
  · exact z
theorem PwI.sq {left0 left : Int} {powers : List Int} (h : PwI left0 powers left) : ((powers.length : Nat) : Int) * powers.length * left ≤ 4 * left0 := by
  have hne : 0 < powers.length := List.length_pos_iff.mpr h.ne
  have h1 := sq_pow (powers.length - 1)
  have e : (((powers.length - 1 : Nat) : Int) + 1) = powers.length := by omega
  rw [e] at h1
  have h2 : ((powers.length : Nat) : Int) * powers.length * left ≤ 4 * 2 ^ (powers.length - 1) * left := Int.mul_le_mul_of_nonneg_right h1 (Int.le_of_lt h.pos)
  have h3 := h.len
  rw [Int.mul_assoc 4] at h2
  omega
/-- what a prime's round makes of the divisors -/
def allBy (found powers : List Int) : List Int := powers.flatMap fun y => found.map fun x => x * y
theorem DvI.next {m left0 left : Int} {found powers : List Int} {c : Nat} (h : DvI m found left0 c) (w : PwI left0 powers left) : DvI m (allBy found powers) left (c + 1) := by
  refine ⟨w.pos, ?_, fun z hz => ?_, ?_, ?_, ?_⟩
  rotate_left 3
  · unfold allBy
    exact List.mem_flatMap.mpr ⟨1, w.one, List.mem_map.mpr ⟨1, h.one, rfl⟩⟩
  · obtain ⟨P, rest, p1, p2, p3, p4⟩ := h.top
    obtain ⟨P', e', hP'⟩ := w.top
    have hl := w.last
    generalize hL : lastI powers = L at *
    refine ⟨P * L, allBy found P' ++ rest.map (· * L), ?_, by rw [Int.mul_assoc, hl.1]; exact p2, ?_, fun x hx => ?_⟩
    · have : 1 * 1 ≤ P * L := Int.mul_le_mul p1 hl.2 (by omega) (by omega)
      omega
    · have e1 : allBy found powers = allBy found P' ++ found.map (· * L) := by
        unfold allBy
        rw [e', List.flatMap_append]
        simp
      rw [e1]
      refine ((List.Perm.append_left _ (p3.map _)).trans ?_)
      rw [List.map_cons]
      exact List.perm_middle
    · have hx1 : ∀ a ∈ found, 1 ≤ a ∧ a ≤ P := fun a ha => by
        rcases List.mem_cons.mp (p3.mem_iff.mp ha) with rfl | ha
        · omega
        · have := p4 a ha; omega
      rcases List.mem_append.mp hx with hx | hx
      · unfold allBy at hx
        obtain ⟨y, hy, hx⟩ := List.mem_flatMap.mp hx
        obtain ⟨a, ha, rfl⟩ := List.mem_map.mp hx
        have hy2 := hP' y hy
        have ha2 := hx1 a ha
        have h1 : 1 * 1 ≤ a * y := Int.mul_le_mul ha2.1 hy2.1 (by omega) (by omega)
        have h2 : a * y ≤ P * y := Int.mul_le_mul_of_nonneg_right ha2.2 (by omega)
        have h3 : P * y < P * L := Int.mul_lt_mul_of_pos_left hy2.2 (by omega)
        omega
      · obtain ⟨a, ha, rfl⟩ := List.mem_map.mp hx
        have ha2 := p4 a ha
        have h1 : 1 * 1 ≤ a * L := Int.mul_le_mul ha2.1 hl.2 (by omega) (by omega)
        have h3 : a * L < P * L := Int.mul_lt_mul_of_pos_right ha2.2 (by omega)
        omega
  · obtain ⟨y, ys, rfl⟩ := List.exists_cons_of_ne_nil w.ne
    obtain ⟨x, xs, rfl⟩ := List.exists_cons_of_ne_nil h.ne
    unfold allBy
    simp
  · unfold allBy at hz
    obtain ⟨y, hy, hz⟩ := List.mem_flatMap.mp hz
    obtain ⟨x, hx, rfl⟩ := List.mem_map.mp hz
    obtain ⟨x1, x2⟩ := h.dvd x hx
    obtain ⟨y1, y2⟩ := w.dvd y hy
    refine ⟨?_, Int.dvd_trans ?_ x2⟩
    · have : 1 * 1 ≤ x * y := Int.mul_le_mul x1 y1 (by omega) (by omega)
      omega
    · rw [Int.mul_assoc]
      exact Int.mul_dvd_mul (Int.dvd_refl x) y2
  · have e : (allBy found powers).length = found.length * powers.length := by
      unfold allBy
      rw [List.length_flatMap]
      simp only [List.length_map]
      rw [List.map_const', List.sum_replicate_nat, Nat.mul_comm]
    rw [e]
    have h1 := w.sq
    have h2 := h.len
    have h0 : (0 : Int) ≤ (found.length : Int) * found.length := Int.mul_nonneg (by omega) (by omega)
    have h3 : ((found.length : Nat) : Int) * found.length * (((powers.length : Nat) : Int) * powers.length * left) ≤ (found.length : Int) * found.length * (4 * left0) := Int.mul_le_mul_of_nonneg_left h1 h0
    have e2 : (((found.length * powers.length : Nat) : Int)) * ((found.length * powers.length : Nat) : Int) * left = ((found.length : Nat) : Int) * found.length * (((powers.length : Nat) : Int) * powers.length * left) := by
      rw [Int.natCast_mul]
      simp only [Int.mul_assoc, Int.mul_comm, Int.mul_left_comm]
    have e3 : ((found.length : Nat) : Int) * found.length * (4 * left0) = 4 * (((found.length : Nat) : Int) * found.length * left0) := by
      simp only [Int.mul_assoc, Int.mul_comm, Int.mul_left_comm]
    rw [e2]
    rw [Int.pow_succ]
    have e4 : (4 : Int) ^ c * 4 * m = 4 * (4 ^ c * m) := by simp only [Int.mul_assoc, Int.mul_comm, Int.mul_left_comm]
    rw [e4]
    omega
theorem DvI.short {m left : Int} {found : List Int} {c : Nat} (h : DvI m found left c) (hc : c ≤ 6) (hm : 1 ≤ m ∧ m ≤ 1000000000) : found.length ≤ 3000000 := by
  rcases Nat.lt_or_ge 3000000 found.length with z | z
  · have h1 := h.len
    have h2 := h.pos
    have h3 : (3000000 : Int) * 3000000 ≤ (found.length : Int) * found.length := Int.mul_le_mul (by omega) (by omega) (by omega) (by omega)
    have h4 : ((found.length : Nat) : Int) * found.length * 1 ≤ (found.length : Int) * found.length * left := Int.mul_le_mul_of_nonneg_left (by omega) (Int.mul_nonneg (by omega) (by omega))
    have h5 : (4 : Int) ^ c ≤ 4 ^ 6 := by
      have := Nat.pow_le_pow_right (n := 4) (by decide) hc
      exact_mod_cast this
    have h6 : (4 : Int) ^ c * m ≤ 4 ^ 6 * m := Int.mul_le_mul_of_nonneg_right h5 (by omega)
    have h7 : (4 : Int) ^ 6 = 4096 := by decide
    rw [h7] at h6
    omega
  · exact z
theorem DvI.sqle {m left : Int} {found : List Int} {c : Nat} (h : DvI m found left c) (hc : c ≤ 6) (hm : 1 ≤ m) : ((found.length : Nat) : Int) * found.length ≤ 4096 * m := by
  have h1 := h.len
  have h2 := h.pos
  have h4 : ((found.length : Nat) : Int) * found.length * 1 ≤ (found.length : Int) * found.length * left := Int.mul_le_mul_of_nonneg_left (by omega) (Int.mul_nonneg (by omega) (by omega))
  have h5 : (4 : Int) ^ c ≤ 4 ^ 6 := by
    have := Nat.pow_le_pow_right (n := 4) (by decide) hc
    exact_mod_cast this
  have h6 : (4 : Int) ^ c * m ≤ 4 ^ 6 * m := Int.mul_le_mul_of_nonneg_right h5 (by omega)
  have h7 : (4 : Int) ^ 6 = 4096 := by decide
  rw [h7] at h6
  omega
theorem last_top {l rest : List Int} {m : Int} (hs : l.Pairwise (· ≤ ·)) (hp : l.Perm (m :: rest)) (hr : ∀ x ∈ rest, x < m) : ∃ init, l = init ++ [m] ∧ ∀ x ∈ init, x < m := by
  obtain ⟨A, B, rfl⟩ := List.append_of_mem (hp.mem_iff.mpr (List.mem_cons_self))
  have hab : (A ++ B).Perm rest := (List.perm_cons m).mp (List.perm_middle.symm.trans hp)
  cases B with
  | nil => exact ⟨A, rfl, fun x hx => hr x (hab.mem_iff.mp (by simp [hx]))⟩
  | cons b B =>
    have h1 := hr b (hab.mem_iff.mp (by simp))
    have h2 : m ≤ b := (List.pairwise_cons.mp (List.pairwise_append.mp hs).2.1).1 b (by simp)
    omega
theorem divisors_all (m : Int) (h : 1 ≤ m ∧ m ≤ 1000000000) {Q : Cell → List Cell → Prop} {X : Exc → List Cell → Prop}
    (q : ∀ ds : List Int, ds ≠ [] → ds.length ≤ 16000000 → ((ds.length : Nat) : Int) * ds.length ≤ 4096 * m → (∀ x ∈ ds, 1 ≤ x ∧ x ≤ m ∧ x ∣ m) → (Smooth m → 2 ≤ m → ∃ init, ds = init ++ [m] ∧ init ≠ [] ∧ ∀ x ∈ init, x < m) → Q (.ow .lst (intsD ds)) [.sh (.leaf (.int m))]) : evM m__law_divisors [.sh (.leaf (.int m))] Q X := by
  refine evDef _ (by rfl) ?_
  unfold g__law_divisors
  repeat' walk_at "ev"
  refine evFor_inv (fun ds Γ => ∃ (ps found : List Int) (left : Int) (c1 : Cell) (x3 x4 x5 x6 : Option Cell), ds = intsD ps ∧ (∀ p ∈ ps, 2 ≤ p ∧ p ≤ 13) ∧ ps.length ≤ 6 ∧ Γ = [some (.sh (.leaf (.int m))), some c1, some (.sh (.leaf (.int left))), x3, x4, x5, x6, none] ∧ (c1 = .ow .lst (intsD found) ∨ c1 = .sh (.node .lst (intsD found))) ∧ isRf (some x3) = false ∧ isRf (some x4) = false ∧ isRf (some x5) = false ∧ isRf (some x6) = false ∧ DvI m found left (6 - ps.length) ∧ (∀ p ∈ prs, p ∉ ps → ¬ p ∣ left)) _ ⟨prs, [1], m, _, _, _, _, _, rfl, by decide, by decide, rfl, .inl rfl, rfl, rfl, rfl, rfl, ?_, fun p h1 h2 => (h2 h1).elim⟩ (fun d r Γ hI => ?_) fun Γ hI => ?_
  · exact ⟨by omega, by simp, fun x hx => by simp at hx; subst hx; exact ⟨by omega, by rw [Int.one_mul]; exact Int.dvd_refl m⟩, by simp, by simp, ⟨1, [], by omega, Int.one_mul m, List.Perm.refl _, by simp⟩⟩
  · obtain ⟨ps, found, left, c1, x3, x4, x5, x6, e1, e2, e0, rfl, hc1, f3, f4, f5, f6, hd, hno⟩ := hI
    obtain ⟨p, ps', rfl⟩ : ∃ p ps', ps = p :: ps' := by
      cases ps with
      | nil => cases e1
      | cons p ps' => exact ⟨p, ps', rfl⟩
    cases e1
    have hp := e2 p (by simp)
    rcases hc1 with rfl | rfl
    all_goals
      repeat' walk_at "ev"
      refine evWhile (fun n Γ => ∃ (powers : List Int) (left1 : Int), Γ = [some (.sh (.leaf (.int m))), some _, some (.sh (.leaf (.int left1))), some (.sh (.leaf (.int p))), some (.ow .lst (intsD powers)), x5, x6, none] ∧ left1.toNat = n ∧ PwI left powers left1) (fun n Γ hI => ?_) left.toNat ⟨[1], left, rfl, rfl, ⟨hd.pos, by simp, ⟨by show 1 * left = left; omega, by decide⟩, fun y hy => by simp at hy; subst hy; exact ⟨by omega, by rw [Int.one_mul]; exact Int.dvd_refl _⟩, by simp, by simp, ⟨[], rfl, by simp⟩⟩⟩
      obtain ⟨powers, left1, rfl, hn, hw⟩ := hI
      have hpos := hw.pos
      have hlm : left ≤ 1000000000 := by
        obtain ⟨x, xs, hx⟩ := List.exists_cons_of_ne_nil hd.ne
        have h1 := hd.dvd x (by rw [hx]; simp)
        have h2 := Int.le_of_dvd (by omega) h1.2
        have h3 : 1 * left ≤ x * left := Int.mul_le_mul_of_nonneg_right h1.1 (Int.le_of_lt hd.pos)
        omega
      have hsh := hw.short hlm
      have hpl : lastI powers ≤ 1000000000 := by
        have h1 := hw.last
        have h3 : lastI powers * 1 ≤ lastI powers * left1 := Int.mul_le_mul_of_nonneg_left (by omega) (by omega)
        omega
      have hp1 := hw.last.2
      repeat' (first | walk_at "ev" | with_reducible refine vIxLast hw.ne ?_)
      · rename_i hdv
        obtain ⟨a1, a2, a3⟩ := div_lt hpos hp.1 hdv
        refine uAppend (by simp; omega) ?_
        repeat' walk_at "ev"
        exact ⟨_, by omega, powers ++ [lastI powers * p], left1 / p, by rw [← intsD_snoc], rfl, hw.step hp.1 hdv⟩
      · rename_i hdv
        have hno2 : ∀ q ∈ prs, q ∉ ps' → ¬ q ∣ left1 := fun q hq hq2 hq3 => by
          by_cases e : q = p
          · subst e; exact hdv (Int.emod_eq_zero_of_dvd hq3)
          · exact hno q hq (by simp [e, hq2]) (Int.dvd_trans hq3 ⟨lastI powers, by rw [Int.mul_comm, hw.last.1]⟩)
        have hnx := hd.next hw
        rw [List.length_cons] at e0 hnx
        have hnl := hnx.short (by omega) h
        have hfl := hd.short (by omega) h
        have hbig : ∀ x ∈ found, x ≤ 1000000000 := fun x hx => by
          have h1 := hd.dvd x hx
          have h2 := Int.le_of_dvd (by omega) h1.2
          have h3 : x * 1 ≤ x * left := Int.mul_le_mul_of_nonneg_left (by have := hd.pos; omega) (by omega)
          omega
        have hbig2 : ∀ y ∈ powers, y ≤ 1000000000 := fun y hy => by
          have h1 := hw.dvd y hy
          have h2 := Int.le_of_dvd hd.pos h1.2
          have h3 : y * 1 ≤ y * left1 := Int.mul_le_mul_of_nonneg_left (by omega) (by omega)
          omega
        refine evFor_inv (fun ds Γ => ∃ (rest done : List Int) (c1 : Cell) (x6 : Option Cell), ds = intsD rest ∧ done ++ rest = powers ∧ Γ = [some (.sh (.leaf (.int m))), some c1, some (.sh (.leaf (.int left1))), some (.sh (.leaf (.int p))), some (.sh (.node .lst (intsD powers))), some (.ow .lst (intsD (allBy found done))), x6, none] ∧ (c1 = .ow .lst (intsD found) ∨ c1 = .sh (.node .lst (intsD found))) ∧ isRf (some x6) = false) _ ⟨powers, [], _, x6, rfl, rfl, rfl, by first | exact .inl rfl | exact .inr rfl, f6⟩ (fun d r Γ hI => ?_) fun Γ hI => ?_
        · obtain ⟨rest, done, c1, x6, e3, hdr, rfl, hc1, f6⟩ := hI
          obtain ⟨y, rest', rfl⟩ : ∃ y rest', rest = y :: rest' := by
            cases rest with
            | nil => cases e3
            | cons y r => exact ⟨y, r, rfl⟩
          cases e3
          have hym : y ∈ powers := by rw [← hdr]; simp
          have hy1 := (hw.dvd y hym).1
          have hy2 := hbig2 y hym
          have hlen : (allBy found done).length + found.length ≤ 3000000 := by
            have e : ∀ l : List Int, (allBy found l).length = found.length * l.length := fun l => by
              unfold allBy
              rw [List.length_flatMap]
              simp only [List.length_map]
              rw [List.map_const', List.sum_replicate_nat, Nat.mul_comm]
            rw [e] at hnl ⊢
            have : found.length * (done.length + 1) ≤ found.length * powers.length := Nat.mul_le_mul_left _ (by rw [← hdr]; simp)
            rw [Nat.mul_add, Nat.mul_one] at this
            omega
          rcases hc1 with rfl | rfl
          all_goals
            repeat' walk_at "ev"
            refine evLc_inv (fun ds Γ acc => ∃ xs dn : List Int, ds = intsD xs ∧ acc = intsD dn ∧ Γ = [some (.sh (.leaf (.int m))), some (.sh (.node .lst (intsD found))), some (.sh (.leaf (.int left1))), some (.sh (.leaf (.int p))), some (.sh (.node .lst (intsD powers))), some (.ow .lst (intsD (allBy found done))), some (.sh (.leaf (.int y))), none] ∧ (∀ x ∈ xs, x ∈ found) ∧ dn ++ xs.map (· * y) = found.map (· * y)) _ ⟨found, [], rfl, rfl, rfl, fun x hx => hx, rfl⟩ (fun d r Γ acc hI => ?_) fun Γ acc hI => ?_
            · obtain ⟨xs, dn, e4, rfl, rfl, hxf, hdn⟩ := hI
              obtain ⟨x, xs', rfl⟩ : ∃ x xs', xs = x :: xs' := by
                cases xs with
                | nil => cases e4
                | cons y r => exact ⟨y, r, rfl⟩
              cases e4
              have hx1 := (hd.dvd x (hxf x (by simp))).1
              have hx2 := hbig x (hxf x (by simp))
              have hdl : dn.length ≤ found.length := by
                have := congrArg List.length hdn
                simp at this
                omega
              repeat' walk_at "ev"
              exact ⟨by simp; omega, xs', dn ++ [x * y], rfl, intsD_snoc _ _, rfl, fun z hz => hxf z (by simp [hz]), by rw [← hdn]; simp⟩
            · obtain ⟨xs, dn, e4, rfl, rfl, hxf, hdn⟩ := hI
              have hxs : xs = [] := by cases xs with
                | nil => rfl
                | cons p ps' => cases e4
              subst hxs
              simp at hdn
              subst hdn
              repeat' walk_at "ev"
              refine uExtend (by simp; omega) ?_
              repeat' walk_at "ev"
              refine ⟨rest', done ++ [y], .sh (.node .lst (intsD found)), some (.sh (.leaf (.int y))), rfl, by rw [← hdr]; simp, ?_, .inr rfl, rfl⟩
              have : intsD (allBy found done) ++ intsD (found.map (· * y)) = intsD (allBy found (done ++ [y])) := by
                unfold allBy
                rw [List.flatMap_append]
                simp [intsD]
              rw [← this]
              rfl
        · obtain ⟨rest, done, c1, x6, e3, hdr, rfl, hc1, f6⟩ := hI
          have hrest : rest = [] := by cases rest with
            | nil => rfl
            | cons p ps' => cases e3
          subst hrest
          rw [List.append_nil] at hdr
          subst hdr
          rcases hc1 with rfl | rfl
          all_goals
            repeat' walk_at "ev"
            exact ⟨ps', _, left1, _, _, _, _, _, rfl, fun q hq => e2 q (by simp [hq]), by omega, rfl, .inr rfl, rfl, rfl, rfl, f6, by rw [show 6 - ps'.length = 6 - (ps'.length + 1) + 1 by omega]; exact hnx, hno2⟩
  · obtain ⟨ps, found, left, c1, x3, x4, x5, x6, e1, e2, e0, rfl, hc1, f3, f4, f5, f6, hd, hno⟩ := hI
    have hps : ps = [] := by cases ps with
      | nil => rfl
      | cons p ps' => cases e1
    subst hps
    have hlen := hd.short (by omega) h
    have z := q (sortI found) (fun e => hd.ne (by have := (sortI_perm found).length_eq; rw [e] at this; exact List.length_eq_zero_iff.mp this.symm)) (by rw [(sortI_perm found).length_eq]; omega) (by rw [(sortI_perm found).length_eq]; exact hd.sqle (by omega) (by omega)) (fun x hx => by
      have hx := (sortI_perm found).mem_iff.mp hx
      have h1 := hd.dvd x hx
      have h4 : x ∣ m := Int.dvd_trans ⟨left, rfl⟩ h1.2
      exact ⟨h1.1, Int.le_of_dvd (by omega) h4, h4⟩) (fun hsm hm2 => by
      obtain ⟨P, rest, p1, p2, p3, p4⟩ := hd.top
      have hl1 : left = 1 := smooth_one hsm left hd.pos ⟨P, by rw [Int.mul_comm, p2]⟩ fun p hp => hno p hp (by simp)
      subst hl1
      rw [Int.mul_one] at p2
      subst p2
      obtain ⟨init, hi1, hi2⟩ := last_top (sortI_sorted found) ((sortI_perm found).trans p3) fun x hx => (p4 x hx).2
      refine ⟨init, hi1, fun e => ?_, hi2⟩
      have h1 : (1 : Int) ∈ sortI found := (sortI_perm found).mem_iff.mpr hd.one
      rw [hi1, e] at h1
      simp at h1
      omega)
    rcases hc1 with rfl | rfl
    all_goals
      repeat' walk_at "ev"
      exact z
theorem divisors_full (m : Int) (h : 1 ≤ m ∧ m ≤ 1000000000) {Q : Cell → List Cell → Prop} {X : Exc → List Cell → Prop}
    (q : ∀ ds : List Int, ds ≠ [] → ds.length ≤ 16000000 → (∀ x ∈ ds, 1 ≤ x ∧ x ≤ m ∧ x ∣ m) → (Smooth m → 2 ≤ m → ∃ init, ds = init ++ [m] ∧ init ≠ [] ∧ ∀ x ∈ init, x < m) → Q (.ow .lst (intsD ds)) [.sh (.leaf (.int m))]) : evM m__law_divisors [.sh (.leaf (.int m))] Q X :=
  divisors_all m h fun ds h1 h2 _ h3 h4 => q ds h1 h2 h3 h4
theorem divisors_ok (m : Int) (h : 1 ≤ m ∧ m ≤ 1000000000) {Q : Cell → List Cell → Prop} {X : Exc → List Cell → Prop}
    (q : ∀ ds : List Int, ds ≠ [] → ds.length ≤ 16000000 → (∀ x ∈ ds, 1 ≤ x ∧ x ≤ m ∧ x ∣ m) → Q (.ow .lst (intsD ds)) [.sh (.leaf (.int m))]) : evM m__law_divisors [.sh (.leaf (.int m))] Q X :=
  divisors_full m h fun ds h1 h2 h3 _ => q ds h1 h2 h3

end Gm
namespace Gm
open PySem PySem.Spec PyProof.Rows L2 DL
noncomputable def g__law_unit : GS := sSeq (sSet 2 (eCallN 2 m__law_pick [] (aCons (eVar 0) (aCons (eKeep (eCallN 1 m__law_divisors [] (aCons (eKeep (eVar 1)) (aNil)))) (aNil)))))
  (sSeq (sSet 3 (eBin gMul (eVar 2) (eCallN 2 m__law_draw [] (aCons (eVar 0) (aCons (eKeep (eVar 1)) (aNil))))))
  (sSeq (sSet 4 (eBin gMod (eCallN 2 m__law_pick [] (aCons (eVar 0) (aCons (eKeep (eOfL gLstD (aCons (eKeep (eC (.int 1))) (aCons (eKeep (eBin gSub (eVar 1) (eC (.int 1)))) (aCons (eKeep (eBin gAdd (eC (.int 1)) (eVar 3))) (aCons (eKeep (eBin gAdd (eBin gSub (eVar 1) (eC (.int 1))) (eVar 3))) (aCons (eKeep (eCallN 2 m__law_draw [] (aCons (eVar 0) (aCons (eKeep (eVar 1)) (aNil))))) (aNil)))))))) (aNil)))) (eVar 1)))
  (sSeq (sWhile (tOf (eBin gNe (eCallN 2 m__law_gcd [] (aCons (eKeep (eVar 4)) (aCons (eKeep (eVar 1)) (aNil)))) (eC (.int 1)))) (sSet 4 (eBin gMod (eBin gAdd (eVar 4) (eC (.int 1))) (eVar 1))))
  (sRet (eVar 4)))))
noncomputable def m__law_unit : MF := runD 5 g__law_unit
theorem int_mem {ds : List Int} {d : D} (h : d ∈ intsD ds) : ∃ x, d = .leaf (.int x) ∧ x ∈ ds := by
  obtain ⟨x, h1, h2⟩ := List.mem_map.mp h
  exact ⟨x, h2.symm, h1⟩
theorem unit_ok (ns : List Int) (t r m : Int) (ht : 0 ≤ t ∧ t < 100000000000000000000000000000) (hr : 0 ≤ r) (hm : 2 ≤ m ∧ m ≤ 1000000000) {Q : Cell → List Cell → Prop} {X : Exc → List Cell → Prop}
    (q : ∀ u t' r' : Int, 1 ≤ u → u < m → gcdI u m = 1 → 0 ≤ t' → t' ≤ t + 4 → 0 ≤ r' → Q (.sh (.leaf (.int u))) [penC ns t' r', .sh (.leaf (.int m))]) :
    evM m__law_unit [penC ns t r, .sh (.leaf (.int m))] Q X := by
  refine evDef _ (by rfl) ?_
  unfold g__law_unit
  repeat' walk_at "ev"
  refine divisors_ok m (by omega) fun ds hne hdl hds => ?_
  repeat' walk_at "ev"
  refine pick_ok ns t r _ (by omega) hr (by rw [List.length_map]; exact List.length_pos_iff.mpr hne) (by rw [List.length_map]; omega) fun d t1 r1 a1 a2 a3 a4 => ?_
  obtain ⟨share, rfl, hs⟩ := int_mem a1
  have hsb := hds share hs
  repeat' walk_at "ev"
  refine draw_ok ns t1 r1 m (by omega) a4 (by omega) fun d1 t2 r2 b1 b2 b3 b4 b5 => ?_
  repeat' walk_at "ev"
  refine draw_ok ns t2 r2 m (by omega) b5 (by omega) fun d2 t3 r3 c1 c2 c3 c4 c5 => ?_
  repeat' walk_at "ev"
  refine pick_ok ns t3 r3 _ (by omega) c5 (by simp) (by simp) fun d t4 r4 e1 e2 e3 e4 => ?_
  obtain ⟨x, rfl⟩ : ∃ x : Int, d = .leaf (.int x) := by
    simp only [List.mem_cons, List.not_mem_nil, or_false] at e1
    rcases e1 with h | h | h | h | h <;> exact ⟨_, h⟩
  repeat' walk_at "ev"
  have hx := mod_lt (a := x) (b := m) (by omega)
  refine evWhile (fun n Γ => ∃ (u v2 v3 : Int), Γ = [some (penR ns t4 r4), some (.sh (.leaf (.int m))), some (.sh (.leaf (.int v2))), some (.sh (.leaf (.int v3))), some (.sh (.leaf (.int u)))] ∧ 0 ≤ u ∧ u < m ∧ n = (if u ≤ 1 then 1 - u else m + 1 - u).toNat) (fun n Γ hI => ?_) _ ⟨x % m, _, _, rfl, hx.1, hx.2, rfl⟩
  obtain ⟨u, v2, v3, rfl, hu0, hu1, hn⟩ := hI
  repeat' walk_at "ev"
  refine law_gcd_ok u m (by omega) ?_
  repeat' walk_at "ev"
  · rename_i h
    refine q u t4 r4 ?_ hu1 h e2 (by omega) e4
    rcases Int.lt_or_le 0 u with z | z
    · omega
    · have : u = 0 := by omega
      subst this
      rw [gcdI_comm, gcdI_zero] at h
      omega
  · rename_i h
    have hne1 : u ≠ 1 := fun e => by subst e; exact h (gcdI_one m)
    rcases Int.lt_or_le (u + 1) m with z | z
    · have hz : (u + 1) % m = u + 1 := Int.emod_eq_of_lt (by omega) z
      refine ⟨_, ?_, u + 1, v2, v3, by rw [hz], by omega, by omega, rfl⟩
      subst hn
      by_cases h2 : u ≤ 1
      · have : u = 0 := by omega
        subst this
        rw [if_pos (by decide), if_pos (by decide)]
        decide
      · rw [if_neg h2, if_neg (by omega)]; omega
    · have hz : (u + 1) % m = 0 := by rw [show u + 1 = m by omega]; exact Int.emod_self
      refine ⟨_, ?_, 0, v2, v3, by rw [hz], by omega, by omega, rfl⟩
      subst hn
      have h2 : ¬ u ≤ 1 := by omega
      rw [if_neg h2, if_pos (by decide)]; omega

end Gm
namespace Gm
open PySem PySem.Spec PyProof.Rows L2 DL
noncomputable def g__law_map : GS := sSeq (sSet 2 (eCallN 2 m__law_pick [] (aCons (eVar 0) (aCons (eKeep (eCallN 1 m__law_divisors [] (aCons (eKeep (eVar 1)) (aNil)))) (aNil)))))
  (sRet (eOfL gTupD (aCons (eKeep (eCallN 2 m__law_unit [] (aCons (eVar 0) (aCons (eKeep (eVar 1)) (aNil))))) (aCons (eKeep (eBin gMod (eBin gMul (eVar 2) (eCallN 2 m__law_draw [] (aCons (eVar 0) (aCons (eKeep (eVar 1)) (aNil))))) (eVar 1))) (aNil)))))
noncomputable def m__law_map : MF := runD 3 g__law_map
abbrev mapD (a b : Int) : D := .node .tup [.leaf (.int a), .leaf (.int b)]
theorem map_ok (ns : List Int) (t r m : Int) (ht : 0 ≤ t ∧ t < 10000000000000000000000000000) (hr : 0 ≤ r) (hm : 2 ≤ m ∧ m ≤ 1000000000) {Q : Cell → List Cell → Prop} {X : Exc → List Cell → Prop}
    (q : ∀ a b t' r' : Int, 1 ≤ a → a < m → gcdI a m = 1 → 0 ≤ b → b < m → 0 ≤ t' → t' ≤ t + 6 → 0 ≤ r' → Q (.sh (mapD a b)) [penC ns t' r', .sh (.leaf (.int m))]) :
    evM m__law_map [penC ns t r, .sh (.leaf (.int m))] Q X := by
  refine evDef _ (by rfl) ?_
  unfold g__law_map
  repeat' walk_at "ev"
  refine divisors_ok m (by omega) fun ds hne hdl hds => ?_
  repeat' walk_at "ev"
  refine pick_ok ns t r _ (by omega) hr (by rw [List.length_map]; exact List.length_pos_iff.mpr hne) (by rw [List.length_map]; omega) fun d t1 r1 a1 a2 a3 a4 => ?_
  obtain ⟨share, rfl, hs⟩ := int_mem a1
  have hsb := hds share hs
  repeat' walk_at "ev"
  refine unit_ok ns t1 r1 m (by omega) a4 hm fun u t2 r2 b1 b2 b3 b4 b5 b6 => ?_
  repeat' walk_at "ev"
  refine draw_ok ns t2 r2 m (by omega) b6 (by omega) fun d1 t3 r3 c1 c2 c3 c4 c5 => ?_
  have hx := mod_lt (a := share * d1) (b := m) (by omega)
  repeat' walk_at "ev"
  exact q u _ t3 r3 b1 b2 b3 hx.1 hx.2 c3 (by omega) c5

end Gm
namespace Gm
open PySem PySem.Spec PyProof.Rows L2 DL
noncomputable def g__law_pen : GS := sRet (eDisp [Sum.inr "cells", Sum.inr "turn", Sum.inr "rest"] [eBI gList (aCons (eSlice (eVar 0) oNone (oSome (eC (.int 63)))) (aNil)), eC (.int 0), eC (.int 0)])
noncomputable def m__law_pen : MF := runD 1 g__law_pen
theorem pen_ok (ns : List Int) (hl : ns.length ≤ 63) {Q : Cell → List Cell → Prop} {X : Exc → List Cell → Prop}
    (q : Q (penC ns 0 0) [.sh (scriptD ns)]) : evM m__law_pen [.sh (scriptD ns)] Q X := by
  refine evDef _ (by rfl) ?_
  unfold g__law_pen
  refine evRet (evDisp ?_)
  unfold aKeeps aKeeps aKeeps aKeeps
  have e : DL.cutD (intsD ns) none (some 63) = intsD ns := by
    unfold DL.cutD
    rw [show HT.sIx (intsD ns).length 0 none = 0 from rfl, show HT.sIx (intsD ns).length (intsD ns).length (some 63) = min 63 (intsD ns).length from HT.sIx_nat _ _ 63]
    rw [List.drop_zero, Nat.sub_zero, List.take_of_length_le (by rw [List.length_map]; omega)]
  have cut : ∀ {Γ : Gam} {Q : Cell → Gam → Prop}, Q (.ow .lst (intsD ns)) Γ → evG (gCut none (some 63) (scriptD ns)) Γ Q := fun h => by
    have z : evG (gCut none (some 63) (.node .scr (intsD ns))) _ _ := vCutS (by rw [e]; exact h)
    exact z
  repeat' (first | walk_at "ev" | with_reducible refine cut ?_)
  exact q

end Gm
namespace Gm
open PySem PySem.Spec PyProof.Rows L2 DL
noncomputable def g_unit_inverse : GS := sSeq (sAsg (pTup 4 (pCons (pNm 2) (pCons (pNm 3) (pCons (pNm 4) (pCons (pNm 5) (pNil)))))) (eOfL gTupD (aCons (eKeep (eVar 1)) (aCons (eKeep (eBin gMod (eVar 0) (eVar 1))) (aCons (eKeep (eC (.int 0))) (aCons (eKeep (eC (.int 1))) (aNil)))))))
  (sSeq (sWhile (tOf (eBin gNe (eVar 3) (eC (.int 0)))) (sSeq (sSet 6 (eBin gFdiv (eVar 2) (eVar 3)))
  (sSeq (sPar 2 3 (aCons (eSolid (eVar 3)) (aCons (eSolid (eBin gSub (eVar 2) (eBin gMul (eVar 6) (eVar 3)))) (aNil))))
  (sPar 4 5 (aCons (eSolid (eVar 5)) (aCons (eSolid (eBin gSub (eVar 4) (eBin gMul (eVar 6) (eVar 5)))) (aNil)))))))
  (sRet (eBin gMod (eVar 4) (eVar 1))))
noncomputable def m_unit_inverse : MF := runD 7 g_unit_inverse
theorem unit_inverse_ok (a m : Int) (hm : 1 ≤ m ∧ m ≤ 1000000000000000000000000000000) (hg : gcdI a m = 1) {Q : Cell → List Cell → Prop} {X : Exc → List Cell → Prop}
    (q : 0 ≤ invI a m → invI a m < m → m ∣ a * invI a m - 1 → Q (.sh (.leaf (.int (invI a m)))) [.sh (.leaf (.int a)), .sh (.leaf (.int m))]) : evM m_unit_inverse [.sh (.leaf (.int a)), .sh (.leaf (.int m))] Q X := by
  refine evDef _ (by rfl) ?_
  unfold g_unit_inverse
  repeat' walk_at "ev"
  refine evWhile (fun n Γ => ∃ (old new of f : Int) (x6 : Option Cell), Γ = [some (.sh (.leaf (.int a))), some (.sh (.leaf (.int m))), some (.sh (.leaf (.int old))), some (.sh (.leaf (.int new))), some (.sh (.leaf (.int of))), some (.sh (.leaf (.int f))), x6] ∧ isRf (some x6) = false ∧ EuI a m old new of f ∧ new.toNat = n) (fun n Γ hI => ?_) _ ⟨m, a % m, 0, 1, _, rfl, rfl, EuI.start hm.1, rfl⟩
  obtain ⟨old, new, of, f, x6, rfl, f6, hE, hn⟩ := hI
  have h0 := hE.new0
  have h1 := hE.old0
  have h2 := hE.oldm
  have h3 := hE.lt
  have hb := hE.bound
  by_cases hz : new = 0
  · subst hz
    have hd := hE.done hg hm.1
    have e := inv_eq hd
    have z := q (inv_of hd).1 (inv_of hd).2.1 (inv_of hd).2.2
    rw [← e] at z
    repeat' walk_at "ev"
    exact z
  · have hq : 0 ≤ old / new := Int.ediv_nonneg (by omega) h0
    have hq2 : old / new ≤ old := Int.ediv_le_self _ (by omega)
    have hs := hE.step hz
    repeat' walk_at "ev"
    refine ⟨_, ?_, new, _, f, _, _, rfl, rfl, hs, rfl⟩
    have := hs.lt
    have := hs.new0
    omega

end Gm
namespace Gm
open PySem PySem.Spec PyProof.Rows L2 DL

/-! the units in a residue class, counted by inclusion and exclusion -/
abbrev Row := Int × Int × Int
abbrev rowD (w : Row) : D := .node .tup [.leaf (.int w.1), .leaf (.int w.2.1), .leaf (.int w.2.2)]
def prodI (ps : List Int) : Int := ps.foldr (· * ·) 1
def rowF (w : Row) (t : Int) : Int := if w.2.1 ∣ t - w.1 then w.2.2 else 0
def rowsF (ws : List Row) (t : Int) : Int := (ws.map fun w => rowF w t).sum
structure RowOk (r s : Int) (ps : List Int) (w : Row) : Prop where
  idx : 0 ≤ w.1 ∧ w.1 < w.2.1
  iff : ∀ t, w.2.1 ∣ t - w.1 ↔ w.2.1 ∣ r + s * t
  cop : gcdI s w.2.1 = 1
  free : ∀ q ∈ ps, gcdI w.2.1 q = 1
  small : w.2.1 * prodI ps ≤ 30030
  sg : w.2.2 = 1 ∨ w.2.2 = -1
noncomputable def exclR (r s p : Int) (w : Row) : Row := ((-r * invI s (w.2.1 * p)) % (w.2.1 * p), w.2.1 * p, -w.2.2)
theorem gcd_mul_r {s a b : Int} (hs : 1 ≤ s) (ha : gcdI s a = 1) (hb : gcdI s b = 1) : gcdI s (a * b) = 1 := by
  rw [gcdI_comm] at ha hb ⊢
  exact gcd_mul hs ha hb
theorem cop_dvd {a b z : Int} (h : gcdI a b = 1) (ha : a ∣ z) (hb : b ∣ z) : a * b ∣ z := by
  have hc : Nat.Coprime a.natAbs b.natAbs := by
    unfold gcdI Int.gcd at h
    exact Int.ofNat.inj h
  have := Nat.Coprime.mul_dvd_of_dvd_of_dvd hc (Int.natAbs_dvd_natAbs.mpr ha) (Int.natAbs_dvd_natAbs.mpr hb)
  rw [← Int.natAbs_mul] at this
  exact Int.natAbs_dvd_natAbs.mp this
theorem row_one (r s : Int) (hs : 1 ≤ s) (ps : List Int) (h : prodI ps ≤ 30030) : RowOk r s ps (0, 1, 1) :=
  ⟨by decide, fun t => ⟨fun _ => Int.one_dvd _, fun _ => Int.one_dvd _⟩, by rw [gcdI_comm]; exact gcdI_one s, fun q hq => gcdI_one q, by show 1 * prodI ps ≤ 30030; omega, .inl rfl⟩
theorem row_excl {r s p : Int} {ps : List Int} {w : Row} (hs : 1 ≤ s) (hp : 2 ≤ p) (hsp : gcdI s p = 1) (hpq : ∀ q ∈ ps, 1 ≤ q ∧ gcdI p q = 1) (h : RowOk r s (p :: ps) w) : RowOk r s ps (exclR r s p w) := by
  have hP : 1 ≤ w.2.1 := by have := h.idx; omega
  have hPp : 1 * 1 ≤ w.2.1 * p := Int.mul_le_mul hP (by omega) (by omega) (by omega)
  have hg : gcdI s (w.2.1 * p) = 1 := gcd_mul_r hs h.cop hsp
  obtain ⟨i1, i2, k, hk⟩ := inv_props (a := s) (m := w.2.1 * p) (by omega) hg
  have hm := mod_lt (a := -r * invI s (w.2.1 * p)) (b := w.2.1 * p) (by omega)
  refine ⟨hm, fun t => ?_, hg, fun q hq => gcd_mul (hpq q hq).1 (h.free q (by simp [hq])) (hpq q hq).2, ?_, ?_⟩
  · show w.2.1 * p ∣ t - (-r * invI s (w.2.1 * p)) % (w.2.1 * p) ↔ w.2.1 * p ∣ r + s * t
    obtain ⟨z, hz⟩ := dvd_sub_emod (-r * invI s (w.2.1 * p)) (w.2.1 * p)
    generalize (-r * invI s (w.2.1 * p)) % (w.2.1 * p) = i at *
    generalize invI s (w.2.1 * p) = j at *
    generalize w.2.1 * p = P at *
    constructor
    · rintro ⟨c, hc⟩
      exact ⟨s * c - s * z - r * k, by grind⟩
    · rintro ⟨c, hc⟩
      exact ⟨j * c + z - t * k, by grind⟩
  · have := h.small
    show w.2.1 * p * prodI ps ≤ 30030
    rw [Int.mul_assoc]
    exact this
  · rcases h.sg with e | e
    · exact .inr (by show -w.2.2 = -1; rw [e])
    · exact .inl (by show -w.2.2 = 1; rw [e]; rfl)
theorem row_weak {r s p : Int} {ps : List Int} {w : Row} (hp : 1 ≤ p) (hpr : 0 ≤ prodI ps) (h : RowOk r s (p :: ps) w) : RowOk r s ps w := by
  refine ⟨h.idx, h.iff, h.cop, fun q hq => h.free q (by simp [hq]), ?_, h.sg⟩
  have h1 := h.small
  have e : w.2.1 * prodI (p :: ps) = w.2.1 * prodI ps * p := by
    show w.2.1 * (p * prodI ps) = _
    rw [Int.mul_assoc, Int.mul_comm p]
  rw [e] at h1
  have hP : 0 ≤ w.2.1 * prodI ps := Int.mul_nonneg (by have := h.idx; omega) hpr
  have : w.2.1 * prodI ps * 1 ≤ w.2.1 * prodI ps * p := Int.mul_le_mul_of_nonneg_left hp hP
  omega
theorem rowF_excl {r s p : Int} {ps : List Int} {w : Row} (hs : 1 ≤ s) (hp : 2 ≤ p) (hsp : gcdI s p = 1) (hpq : ∀ q ∈ ps, 1 ≤ q ∧ gcdI p q = 1) (h : RowOk r s (p :: ps) w) (t : Int) : rowF (exclR r s p w) t = if p ∣ r + s * t then -rowF w t else 0 := by
  have hx := (row_excl hs hp hsp hpq h).iff t
  have h0 := h.iff t
  have key : (exclR r s p w).2.1 ∣ t - (exclR r s p w).1 ↔ (w.2.1 ∣ t - w.1 ∧ p ∣ r + s * t) := by
    rw [hx, h0]
    exact ⟨fun d => ⟨Int.dvd_trans ⟨p, rfl⟩ d, Int.dvd_trans ⟨w.2.1, Int.mul_comm _ _⟩ d⟩, fun ⟨d1, d2⟩ => cop_dvd (h.free p (by simp)) d1 d2⟩
  unfold rowF
  by_cases h1 : p ∣ r + s * t
  · rw [if_pos h1]
    by_cases h2 : w.2.1 ∣ t - w.1
    · rw [if_pos h2, if_pos (key.mpr ⟨h2, h1⟩)]
      rfl
    · rw [if_neg h2, if_neg fun z => h2 (key.mp z).1]
      rfl
  · rw [if_neg h1, if_neg fun z => h1 (key.mp z).2]
theorem rowsF_next {r s p : Int} {ps : List Int} (hs : 1 ≤ s) (hp : 2 ≤ p) (hsp : gcdI s p = 1) (hpq : ∀ q ∈ ps, 1 ≤ q ∧ gcdI p q = 1) (t : Int) : ∀ ws : List Row, (∀ w ∈ ws, RowOk r s (p :: ps) w) → rowsF (ws.map (exclR r s p)) t = if p ∣ r + s * t then -rowsF ws t else 0
  | [], _ => by unfold rowsF; simp
  | w :: ws, h => by
    have ih := rowsF_next hs hp hsp hpq t ws fun x hx => h x (by simp [hx])
    have h1 := rowF_excl hs hp hsp hpq (h w (by simp)) t
    unfold rowsF at ih ⊢
    simp only [List.map_cons, List.sum_cons]
    rw [ih, h1]
    split <;> omega
theorem rowsF_app (a b : List Row) (t : Int) : rowsF (a ++ b) t = rowsF a t + rowsF b t := by unfold rowsF; rw [List.map_append, List.sum_append]
def Uf (r s : Int) (dn : List Int) (t : Int) : Int := if dn.any (fun p => decide (p ∣ r + s * t)) then 0 else 1
theorem Uf_iff {r s : Int} {dn : List Int} {t : Int} : Uf r s dn t = 1 ↔ ∀ p ∈ dn, ¬ p ∣ r + s * t := by
  unfold Uf
  split
  · rename_i h
    rw [List.any_eq_true] at h
    obtain ⟨p, hp, hd⟩ := h
    exact ⟨fun z => by omega, fun z => (z p hp (of_decide_eq_true hd)).elim⟩
  · rename_i h
    refine ⟨fun _ p hp hd => h (List.any_eq_true.mpr ⟨p, hp, decide_eq_true hd⟩), fun _ => rfl⟩
theorem Uf_01 (r s : Int) (dn : List Int) (t : Int) : Uf r s dn t = 0 ∨ Uf r s dn t = 1 := by unfold Uf; split <;> simp
theorem Uf_snoc (r s p : Int) (dn : List Int) (t : Int) : Uf r s (dn ++ [p]) t = Uf r s dn t + if p ∣ r + s * t then -Uf r s dn t else 0 := by
  unfold Uf
  rw [List.any_append, List.any_cons, List.any_nil, Bool.or_false]
  cases h : dn.any fun p => decide (p ∣ r + s * t) <;> by_cases h2 : p ∣ r + s * t <;> simp [h2]
/-- the count -/
def cntR (w : Row) (L : Int) : Int := if w.1 < L then w.2.2 * ((L - 1 - w.1) / w.2.1 + 1) else 0
def cntS (ws : List Row) (L : Int) : Int := (ws.map fun w => cntR w L).sum
theorem div_succ {a P : Int} (hP : 0 < P) (ha : 0 ≤ a) : (a + 1) / P = a / P + if P ∣ a + 1 then 1 else 0 := by
  have h1 := Int.mul_ediv_add_emod a P
  have h2 := mod_lt (a := a) hP
  split
  · rename_i h
    obtain ⟨c, hc⟩ := h
    have e : a / P = c - 1 := by
      have h3 : P * (a / P) < P * c := by omega
      have h4 := Int.lt_of_mul_lt_mul_left h3 (by omega)
      have h5 : P * (c - 1) ≤ a := by rw [Int.mul_sub]; omega
      have h6 : P * (c - 1) < P * (a / P + 1) := by rw [Int.mul_add]; omega
      have h7 := Int.lt_of_mul_lt_mul_left h6 (by omega)
      omega
    rw [hc, Int.mul_ediv_cancel_left _ (by omega), e]
    omega
  · rename_i h
    have h3 : a % P + 1 < P := by
      rcases Int.lt_or_le (a % P + 1) P with z | z
      · exact z
      · exact (h ⟨a / P + 1, by rw [Int.mul_add]; omega⟩).elim
    have e : a + 1 = (a % P + 1) + P * (a / P) := by omega
    rw [Int.add_zero]
    conv => lhs; rw [e]
    rw [Int.add_mul_ediv_left _ _ (by omega), Int.ediv_eq_zero_of_lt (by omega) h3, Int.zero_add]
theorem cntR_succ {w : Row} (h : 0 ≤ w.1 ∧ w.1 < w.2.1) {L : Int} (hL : 0 ≤ L) : cntR w (L + 1) = cntR w L + rowF w L := by
  unfold cntR rowF
  rcases Int.lt_trichotomy w.1 L with z | z | z
  · rw [if_pos (by omega), if_pos z, show L + 1 - 1 - w.1 = (L - 1 - w.1) + 1 by omega, div_succ (by omega) (by omega), show L - 1 - w.1 + 1 = L - w.1 by omega]
    split
    · simp only [Int.mul_add, Int.mul_one]
    · simp
  · rw [if_pos (by omega), if_neg (by omega), z, show L + 1 - 1 - L = 0 by omega, Int.sub_self, if_pos (Int.dvd_zero _), Int.zero_ediv]
    omega
  · rw [if_neg (by omega), if_neg (by omega), if_neg fun d => ?_]
    · omega
    · obtain ⟨c, hc⟩ := d
      have h1 : c < 0 := by
        rcases Int.lt_or_le c 0 with q | q
        · exact q
        · have := Int.mul_nonneg (show 0 ≤ w.2.1 by omega) q
          omega
      have h2 : w.2.1 * c ≤ w.2.1 * (-1) := Int.mul_le_mul_of_nonneg_left (by omega) (by omega)
      omega
theorem cntS_succ : ∀ {ws : List Row}, (∀ w ∈ ws, 0 ≤ w.1 ∧ w.1 < w.2.1) → ∀ {L : Int}, 0 ≤ L → cntS ws (L + 1) = cntS ws L + rowsF ws L
  | [], _, L, hL => by unfold cntS rowsF; simp
  | w :: ws, h, L, hL => by
    have ih := cntS_succ (ws := ws) (fun x hx => h x (by simp [hx])) hL
    have h1 := cntR_succ (h w (by simp)) hL
    unfold cntS rowsF at ih ⊢
    simp only [List.map_cons, List.sum_cons]
    rw [ih, h1]
    omega
theorem cntS_zero : ∀ {ws : List Row}, (∀ w ∈ ws, 0 ≤ w.1 ∧ w.1 < w.2.1) → cntS ws 0 = 0
  | [], _ => rfl
  | w :: ws, h => by
    have ih := cntS_zero (ws := ws) fun x hx => h x (by simp [hx])
    unfold cntS at ih ⊢
    simp only [List.map_cons, List.sum_cons]
    rw [ih]
    unfold cntR
    rw [if_neg (by have := h w (by simp); omega)]
    rfl
/-- the sieve is done -/
structure SieveOk (r s : Int) (dn : List Int) (ws : List Row) : Prop where
  rows : ∀ w ∈ ws, 0 ≤ w.1 ∧ w.1 < w.2.1 ∧ w.2.1 ≤ 30030 ∧ (w.2.2 = 1 ∨ w.2.2 = -1)
  sum : ∀ t, rowsF ws t = Uf r s dn t
  len : ws.length ≤ 64
/-- there is a unit in the class -/
theorem prod_dvd : ∀ {l : List Int} {p : Int}, p ∈ l → p ∣ prodI l
  | x :: l, p, h => by
    rcases List.mem_cons.mp h with rfl | h
    · exact ⟨prodI l, rfl⟩
    · exact Int.dvd_trans (prod_dvd h) ⟨x, Int.mul_comm _ _⟩
theorem prod_cop {p : Int} (hp : 1 ≤ p) : ∀ {l : List Int}, (∀ q ∈ l, gcdI q p = 1) → gcdI (prodI l) p = 1
  | [], _ => gcdI_one p
  | x :: l, h => gcd_mul hp (h x (by simp)) (prod_cop hp fun q hq => h q (by simp [hq]))
theorem prs_cop : ∀ p ∈ prs, ∀ q ∈ prs, p ≠ q → gcdI p q = 1 := by decide
theorem cop_prime {u p : Int} (hp : p ∈ prs) (h : ¬ p ∣ u) : gcdI u p = 1 := by
  have := cop_prs hp h
  unfold gcdI
  rw [this]
  rfl
theorem not_dvd_of_cop {u p : Int} (hp : 2 ≤ p) (h : gcdI u p = 1) : ¬ p ∣ u := fun d => by
  have h1 : gcdI u p = p := by
    unfold gcdI
    rw [Int.gcd_eq_natAbs_right d]
    omega
  omega
theorem unit_ex {r s m : Int} {dn : List Int} (hs : 1 ≤ s) (hsm : s ∣ m) (hm : 1 ≤ m) (hd : ∀ p ∈ dn, p ∈ prs ∧ p ∣ m ∧ ¬ p ∣ s) : ∃ t : Nat, (t : Int) < m / s ∧ Uf r s dn t = 1 := by
  have hH : 1 ≤ m / s := by
    obtain ⟨c, hc⟩ := hsm
    rw [hc, Int.mul_ediv_cancel_left _ (by omega)]
    rcases Int.lt_or_le 0 c with z | z
    · omega
    · have := Int.mul_nonpos_of_nonneg_of_nonpos (show 0 ≤ s by omega) z
      omega
  have hsH : s * (m / s) = m := Int.mul_ediv_cancel' hsm
  let T := prodI (dn.filter fun p => decide (¬ p ∣ r))
  have hT : ∀ p ∈ dn, ¬ p ∣ r + s * T := fun p hp hdv => by
    obtain ⟨h1, h2, h3⟩ := hd p hp
    have hb := prs_b h1
    by_cases hr : p ∣ r
    · have hc1 := cop_prime h1 h3
      have hc2 : gcdI T p = 1 := prod_cop (by omega) fun q hq => by
        obtain ⟨hq1, hq2⟩ := List.mem_filter.mp hq
        have hq3 : ¬ q ∣ r := of_decide_eq_true hq2
        exact prs_cop q (hd q hq1).1 p h1 fun e => hq3 (e ▸ hr)
      refine not_dvd_of_cop hb.1 (gcd_mul (by omega) hc1 hc2) ?_
      obtain ⟨x, hx⟩ := hr
      obtain ⟨y, hy⟩ := hdv
      exact ⟨y - x, by rw [Int.mul_sub]; omega⟩
    · refine hr ?_
      obtain ⟨x, hx⟩ := prod_dvd (List.mem_filter.mpr ⟨hp, decide_eq_true hr⟩ : p ∈ dn.filter fun p => decide (¬ p ∣ r))
      obtain ⟨y, hy⟩ := hdv
      have hx' : T = p * x := hx
      exact ⟨y - s * x, by rw [Int.mul_sub, hx'] at *; grind⟩
  have hm2 := mod_lt (a := T) (b := m / s) (by omega)
  refine ⟨(T % (m / s)).toNat, by omega, ?_⟩
  rw [Uf_iff, show (((T % (m / s)).toNat : Nat) : Int) = T % (m / s) by omega]
  intro p hp hdv
  refine hT p hp ?_
  obtain ⟨h1, ⟨c, hc⟩, h3⟩ := hd p hp
  have e := Int.mul_ediv_add_emod T (m / s)
  obtain ⟨y, hy⟩ := hdv
  generalize T % (m / s) = u at *
  generalize T / (m / s) = v at *
  refine ⟨y + c * v, ?_⟩
  have e2 : r + s * T = (r + s * u) + (s * (m / s)) * v := by rw [← e]; grind
  rw [e2, hsH, hy, hc]
  grind
theorem gcd_of_primes {c m : Int} (hs : Smooth m) (h : ∀ p ∈ prs, p ∣ m → ¬ p ∣ c) : gcdI c m = 1 := by
  have hm := hs.pos
  refine smooth_one hs (gcdI c m) (gcdI_pos (by omega)) (gcdI_dvd_right c m) fun p hp hd => ?_
  exact h p hp (Int.dvd_trans hd (gcdI_dvd_right c m)) (Int.dvd_trans hd (gcdI_dvd_left c m))

end Gm
namespace Gm
open PySem PySem.Spec PyProof.Rows L2 DL
noncomputable def g_Units_excluded (C_Units : Addr) : GS := sSeq (sAsg (pTup 3 (pCons (pNm 3) (pCons (pNm 4) (pCons (pNm 5) (pNil))))) (eVar 2))
  (sSeq (sSet 4 (eBin gMul (eVar 4) (eVar 1)))
  (sRet (eOfL gTupD (aCons (eKeep (eBin gMod (eBin gMul (eUn gNeg (eUn (gFld C_Units "residue") (eVar 0))) (eCallN 2 m_unit_inverse [] (aCons (eKeep (eUn (gFld C_Units "stride") (eVar 0))) (aCons (eKeep (eVar 4)) (aNil))))) (eVar 4))) (aCons (eKeep (eVar 4)) (aCons (eKeep (eUn gNeg (eVar 5))) (aNil)))))))
noncomputable def m_Units_excluded (C_Units : Addr) : MF := runD 6 (g_Units_excluded C_Units)
abbrev uTag (C : Addr) : Tag := .ins C ["m", "stride", "residue", "sieve"]
abbrev uFs (m s r : Int) (ws : List Row) : List D := [.leaf (.int m), .leaf (.int s), .leaf (.int r), .node .lst (ws.map rowD)]
theorem excluded_ok (C : Addr) (m s r p : Int) (ws : List Row) (w : Row) (hs : 1 ≤ s ∧ s ≤ 1000000000) (hr : 0 ≤ r ∧ r < s) (hp : 2 ≤ p ∧ p ≤ 13) (hP : 1 ≤ w.2.1 ∧ w.2.1 ≤ 30030) (hg : gcdI s (w.2.1 * p) = 1) {Q : Cell → List Cell → Prop} {X : Exc → List Cell → Prop}
    (q : Q (.sh (rowD (exclR r s p w))) [.ow (uTag C) (uFs m s r ws), .sh (.leaf (.int p)), .sh (rowD w)]) :
    evM (m_Units_excluded C) [.ow (uTag C) (uFs m s r ws), .sh (.leaf (.int p)), .sh (rowD w)] Q X := by
  have hPp : 1 * 1 ≤ w.2.1 * p := Int.mul_le_mul (by omega) (by omega) (by omega) (by omega)
  have hPp2 : w.2.1 * p ≤ 30030 * 13 := Int.mul_le_mul hP.2 hp.2 (by omega) (by omega)
  refine evDef _ (by rfl) ?_
  unfold g_Units_excluded
  repeat' walk_at "ev"
  refine unit_inverse_ok s (w.2.1 * p) (by omega) hg fun i1 i2 i3 => ?_
  have hb : r * invI s (w.2.1 * p) ≤ 1000000000 * 1000000 := Int.mul_le_mul (by omega) (by omega) (by omega) (by omega)
  have hb0 : 0 ≤ r * invI s (w.2.1 * p) := Int.mul_nonneg hr.1 i1
  have hb2 : -r * invI s (w.2.1 * p) = -(r * invI s (w.2.1 * p)) := Int.neg_mul _ _
  repeat' walk_at "ev"
  exact q

end Gm
namespace Gm
open PySem PySem.Spec PyProof.Rows L2 DL
noncomputable def g_Units_count_below (C_Units : Addr) : GS := sSeq (sSet 2 (eLc (iSeq (eUn (gFld C_Units "sieve") (eVar 0))) (pNm 3) (tOf (eBin gLt (eBin gIx (eVar 3) (eC (.int 0))) (eVar 1))) (eVar 3) [3]))
  (sRet (eBI gSum (aCons (eLc (iSeq (eVar 2)) (pTup 3 (pCons (pNm 4) (pCons (pNm 5) (pCons (pNm 6) (pNil))))) (tYesD) (eBin gMul (eVar 6) (eBin gAdd (eBin gFdiv (eBin gSub (eBin gSub (eVar 1) (eC (.int 1))) (eVar 4)) (eVar 5)) (eC (.int 1)))) [4, 5, 6]) (aNil))))
noncomputable def m_Units_count_below (C_Units : Addr) : MF := runD 7 (g_Units_count_below C_Units)
theorem intsOf_map {α : Type} (g : α → Int) : ∀ l : List α, intsOf (l.map fun x => D.leaf (.int (g x))) = some (l.map g)
  | [] => rfl
  | x :: l => by
    rw [List.map_cons, List.map_cons]
    unfold intsOf
    rw [intsOf_map g l]
    rfl
theorem cntS_filter (ws : List Row) (L : Int) : ((ws.filter fun w => decide (w.1 < L)).map fun w => w.2.2 * ((L - 1 - w.1) / w.2.1 + 1)).sum = cntS ws L := by
  unfold cntS cntR
  induction ws with
  | nil => rfl
  | cons w ws ih =>
    rw [List.filter_cons, List.map_cons, List.sum_cons]
    by_cases h : w.1 < L
    · rw [if_pos (decide_eq_true h), if_pos h, List.map_cons, List.sum_cons, ih]
    · rw [if_neg (by simpa using h), if_neg h, ih, Int.zero_add]
theorem count_below_ok (C : Addr) (m s r L : Int) (dn : List Int) (ws : List Row) (hL : 0 ≤ L ∧ L ≤ 1000000000000) (hS : SieveOk r s dn ws) {Q : Cell → List Cell → Prop} {X : Exc → List Cell → Prop}
    (q : Q (.sh (.leaf (.int (cntS ws L)))) [.sh (.node (uTag C) (uFs m s r ws)), .sh (.leaf (.int L))]) :
    evM (m_Units_count_below C) [.sh (.node (uTag C) (uFs m s r ws)), .sh (.leaf (.int L))] Q X := by
  have hlen := hS.len
  refine evDef _ (by rfl) ?_
  unfold g_Units_count_below
  repeat' walk_at "ev"
  refine evLc_inv (fun ds Γ acc => ∃ (xs done : List Row), ds = xs.map rowD ∧ done ++ xs = ws ∧ acc = (done.filter fun w => decide (w.1 < L)).map rowD ∧ Γ = [some (.sh (.node (uTag C) (uFs m s r ws))), some (.sh (.leaf (.int L))), none, none, none, none, none]) _ ⟨ws, [], rfl, rfl, rfl, rfl⟩ (fun d rr Γ acc hI => ?_) fun Γ acc hI => ?_
  · obtain ⟨xs, done, e3, e4, rfl, rfl⟩ := hI
    obtain ⟨w, xs', rfl⟩ : ∃ p ps', xs = p :: ps' := by
      cases xs with
      | nil => cases e3
      | cons p ps' => exact ⟨p, ps', rfl⟩
    cases e3
    have hdl : ((done.filter fun w => decide (w.1 < L)).map rowD).length ≤ 64 := by
      have h1 := congrArg List.length e4
      have h2 := List.length_filter_le (fun w : Row => decide (w.1 < L)) done
      rw [List.length_map]
      simp at h1
      omega
    repeat' walk_at "ev"
    · rename_i h
      exact ⟨by omega, xs', done ++ [w], rfl, by rw [List.append_assoc]; exact e4, by rw [List.filter_append, List.map_append, List.filter_cons, if_pos (decide_eq_true h)]; rfl, rfl⟩
    · rename_i h
      exact ⟨xs', done ++ [w], rfl, by rw [List.append_assoc]; exact e4, by rw [List.filter_append, List.filter_cons, if_neg (by simpa using h), List.filter_nil, List.append_nil], rfl⟩
  · obtain ⟨xs, done, e3, e4, rfl, rfl⟩ := hI
    have : xs = [] := by cases xs with
      | nil => rfl
      | cons p ps' => cases e3
    subst this
    rw [List.append_nil] at e4
    subst e4
    have hfl := List.length_filter_le (fun w : Row => decide (w.1 < L)) done
    have hrow : ∀ w ∈ (done.filter fun w => decide (w.1 < L)), w.1 < L ∧ 0 ≤ w.1 ∧ w.1 < w.2.1 ∧ w.2.1 ≤ 30030 ∧ (w.2.2 = 1 ∨ w.2.2 = -1) := fun w hw => by
      obtain ⟨h1, h2⟩ := List.mem_filter.mp hw
      exact ⟨of_decide_eq_true h2, hS.rows w h1⟩
    rw [← cntS_filter] at q
    generalize hF : (done.filter fun w => decide (w.1 < L)) = F at *
    repeat' walk_at "ev"
    refine evLc_inv (fun ds Γ acc => ∃ (xs dn2 : List Row), ds = xs.map rowD ∧ dn2 ++ xs = F ∧ acc = dn2.map (fun w => D.leaf (.int (w.2.2 * ((L - 1 - w.1) / w.2.1 + 1)))) ∧ Γ = [some (.sh (.node (uTag C) (uFs m s r done))), some (.sh (.leaf (.int L))), some (.sh (.node .lst (F.map rowD))), none, none, none, none]) _ ⟨F, [], rfl, rfl, rfl, rfl⟩ (fun d rr Γ acc hI => ?_) fun Γ acc hI => ?_
    · obtain ⟨xs, dn2, e5, e6, rfl, rfl⟩ := hI
      obtain ⟨w, xs', rfl⟩ : ∃ p ps', xs = p :: ps' := by
        cases xs with
        | nil => cases e5
        | cons p ps' => exact ⟨p, ps', rfl⟩
      cases e5
      obtain ⟨h1, h2, h3, h4, h5⟩ := hrow w (by rw [← e6]; simp)
      have hdl : dn2.length ≤ 64 := by have := congrArg List.length e6; simp at this; omega
      have hq1 : 0 ≤ (L - 1 - w.1) / w.2.1 := Int.ediv_nonneg (by omega) (by omega)
      have hq2 : (L - 1 - w.1) / w.2.1 ≤ L - 1 - w.1 := Int.ediv_le_self _ (by omega)
      have hq3 : w.2.2 * ((L - 1 - w.1) / w.2.1 + 1) = ((L - 1 - w.1) / w.2.1 + 1) ∨ w.2.2 * ((L - 1 - w.1) / w.2.1 + 1) = -((L - 1 - w.1) / w.2.1 + 1) := by
        rcases h5 with e | e
        · left; rw [e, Int.one_mul]
        · right; rw [e, Int.neg_mul, Int.one_mul]
      repeat' walk_at "ev"
      exact ⟨by simp; omega, xs', dn2 ++ [w], rfl, by rw [List.append_assoc]; exact e6, by simp, rfl⟩
    · obtain ⟨xs, dn2, e5, e6, rfl, rfl⟩ := hI
      have : xs = [] := by cases xs with
        | nil => rfl
        | cons p ps' => cases e5
      subst this
      rw [List.append_nil] at e6
      subst e6
      repeat' walk_at "ev"
      refine vSum (intsOf_map _ _) ?_
      repeat' walk_at "ev"
      exact q

end Gm
namespace Gm
open PySem PySem.Spec PyProof.Rows L2 DL

def facs (m : Int) : List Int := prs.filter fun p => decide (m % p = 0)

end Gm
namespace Gm
open PySem PySem.Spec PyProof.Rows L2 DL
noncomputable def g_prime_factors : GS := sRet (eBI gTuple (aCons (eLc (iSeq (eD d_PRIMES)) (pNm 1) (tOf (eBin gEq (eBin gMod (eVar 0) (eVar 1)) (eC (.int 0)))) (eVar 1) [1]) (aNil)))
noncomputable def m_prime_factors : MF := runD 2 g_prime_factors
theorem prime_factors_ok (m : Int) {Q : Cell → List Cell → Prop} {X : Exc → List Cell → Prop}
    (q : Q (.sh (.node .tup (intsD (facs m)))) [.sh (.leaf (.int m))]) : evM m_prime_factors [.sh (.leaf (.int m))] Q X := by
  refine evDef _ (by rfl) ?_
  unfold g_prime_factors
  repeat' walk_at "ev"
  refine evLc_inv (fun ds Γ acc => ∃ ps done : List Int, ds = intsD ps ∧ acc = intsD done ∧ Γ = [some (.sh (.leaf (.int m))), none] ∧ (∀ p ∈ ps, 2 ≤ p) ∧ done ++ ps.filter (fun p => decide (m % p = 0)) = facs m ∧ done.length + ps.length ≤ 6) _ ⟨prs, [], rfl, rfl, rfl, by decide, rfl, by decide⟩ (fun d r Γ acc hI => ?_) fun Γ acc hI => ?_
  · obtain ⟨ps, done, e1, rfl, rfl, e2, e3, e4⟩ := hI
    obtain ⟨p, ps', rfl⟩ : ∃ p ps', ps = p :: ps' := by
      cases ps with
      | nil => cases e1
      | cons p ps' => exact ⟨p, ps', rfl⟩
    cases e1
    have hp := e2 p (by simp)
    rw [List.length_cons] at e4
    repeat' walk_at "ev"
    · rename_i hd
      refine ⟨by simp; omega, ps', done ++ [p], rfl, intsD_snoc done p, rfl, fun x hx => e2 x (by simp [hx]), ?_, by simp; omega⟩
      rw [← e3, List.filter_cons, if_pos (decide_eq_true hd), List.append_assoc]
      rfl
    · rename_i hd
      refine ⟨ps', done, rfl, rfl, rfl, fun x hx => e2 x (by simp [hx]), ?_, by omega⟩
      rw [← e3, List.filter_cons, if_neg (by simpa using hd)]
  · obtain ⟨ps, done, e1, rfl, rfl, e2, e3, e4⟩ := hI
    have : ps = [] := by cases ps with
      | nil => rfl
      | cons p ps' => cases e1
    subst this
    rw [List.filter_nil, List.append_nil] at e3
    subst e3
    repeat' walk_at "ev"
    exact q

end Gm
namespace Gm
open PySem PySem.Spec PyProof.Rows L2 DL

end Gm
namespace Gm
open PySem PySem.Spec PyProof.Rows L2 DL
noncomputable def g_Units_init (C_Units : Addr) : GS := sSeq (sFld 0 C_Units "m" (eVar 1))
  (sSeq (sFld 0 C_Units "stride" (eVar 3))
  (sSeq (sFld 0 C_Units "residue" (eBin gMod (eVar 2) (eVar 3)))
  (sSeq (sFld 0 C_Units "sieve" (eOfL gLstD (aCons (eKeep (eOfL gTupD (aCons (eKeep (eC (.int 0))) (aCons (eKeep (eC (.int 1))) (aCons (eKeep (eC (.int 1))) (aNil)))))) (aNil))))
  (sFor (iSeq (eCallN 1 m_prime_factors [] (aCons (eKeep (eVar 1)) (aNil)))) (pNm 4) (sIf (tOf (eBin gNe (eBin gMod (eVar 3) (eVar 4)) (eC (.int 0)))) (sFld 0 C_Units "sieve" (eBin gAdd (eUn (gFld C_Units "sieve") (eVar 0)) (eLc (iSeq (eUn (gFld C_Units "sieve") (eVar 0))) (pNm 5) (tYesD) (eMethN C_Units "excluded" 3 (m_Units_excluded C_Units) [] (eVar 0) (aCons (eKeep (eVar 4)) (aCons (eKeep (eVar 5)) (aNil)))) [5]))) (sNil))))))
noncomputable def m_Units_init (C_Units : Addr) : MF := runD 6 (g_Units_init C_Units)
theorem prod_filter {P : Int → Bool} : ∀ {l : List Int}, (∀ x ∈ l, 1 ≤ x) → 1 ≤ prodI (l.filter P) ∧ prodI (l.filter P) ≤ prodI l
  | [], _ => ⟨Int.le_refl 1, Int.le_refl 1⟩
  | x :: l, h => by
    obtain ⟨h1, h2⟩ := prod_filter (P := P) (l := l) fun y hy => h y (by simp [hy])
    have hx := h x (by simp)
    rw [List.filter_cons]
    have h3 : 1 * prodI l ≤ x * prodI l := Int.mul_le_mul_of_nonneg_right hx (by omega)
    have e : prodI (x :: l) = x * prodI l := rfl
    rw [e]
    split
    · have e2 : prodI (x :: l.filter P) = x * prodI (l.filter P) := rfl
      have h4 : x * prodI (l.filter P) ≤ x * prodI l := Int.mul_le_mul_of_nonneg_left h2 (by omega)
      have h5 : 1 * 1 ≤ x * prodI (l.filter P) := Int.mul_le_mul hx h1 (by omega) (by omega)
      rw [e2]
      omega
    · omega
def dnL (m s : Int) : List Int := (facs m).filter fun p => !decide (s % p = 0)
theorem dn_ok {m s p : Int} (h : p ∈ dnL m s) : p ∈ prs ∧ p ∣ m ∧ ¬ p ∣ s := by
  obtain ⟨h1, h2⟩ := List.mem_filter.mp h
  obtain ⟨h3, h4⟩ := List.mem_filter.mp h1
  refine ⟨h3, Int.dvd_of_emod_eq_zero (of_decide_eq_true h4), fun d => ?_⟩
  rw [Int.emod_eq_zero_of_dvd d] at h2
  simp at h2
theorem units_init_ok (C : Addr) (m r0 s : Int) (hm : 1 ≤ m ∧ m ≤ 1000000000) (hs : 1 ≤ s ∧ s ≤ 1000000000) (hr : sm r0) {Q : Cell → List Cell → Prop} {X : Exc → List Cell → Prop}
    (q : ∀ ws : List Row, SieveOk (r0 % s) s (dnL m s) ws → Q (.sh (.leaf .non)) [.ow (uTag C) (uFs m s (r0 % s) ws), .sh (.leaf (.int m)), .sh (.leaf (.int r0)), .sh (.leaf (.int s))]) :
    evM (m_Units_init C) [.ow (.ins C []) [], .sh (.leaf (.int m)), .sh (.leaf (.int r0)), .sh (.leaf (.int s))] Q X := by
  have hr := mod_lt (a := r0) (b := s) (by omega)
  have hfn : (facs m).Nodup := List.Pairwise.filter _ (by decide)
  have hfp : ∀ p ∈ facs m, p ∈ prs := fun p hp => (List.mem_filter.mp hp).1
  have hfl : (facs m).length ≤ 6 := List.length_filter_le _ _
  have hprod : prodI (facs m) ≤ 30030 := (prod_filter (P := fun p => decide (m % p = 0)) (l := prs) (by decide)).2
  refine evDef _ (by rfl) ?_
  unfold g_Units_init
  repeat' walk_at "ev"
  refine prime_factors_ok m ?_
  repeat' walk_at "ev"
  refine evFor_inv (fun ds Γ => ∃ (rest dn : List Int) (ws : List Row) (x4 : Option Cell), ds = intsD rest ∧ Γ = [some (.rf (uTag C) (uFs m s (r0 % s) ws)), some (.sh (.leaf (.int m))), some (.sh (.leaf (.int r0))), some (.sh (.leaf (.int s))), x4, none] ∧ isRf (some x4) = false ∧ rest.Nodup ∧ (∀ p ∈ rest, p ∈ prs) ∧ dn ++ rest.filter (fun p => !decide (s % p = 0)) = dnL m s ∧ (∀ w ∈ ws, RowOk (r0 % s) s rest w) ∧ (∀ t, rowsF ws t = Uf (r0 % s) s dn t) ∧ ws.length * 2 ^ rest.length ≤ 64) _ ⟨facs m, [], [(0, 1, 1)], none, rfl, rfl, rfl, hfn, hfp, rfl, fun w hw => ?_, fun t => ?_, ?_⟩ (fun d r Γ hI => ?_) fun Γ hI => ?_
  · rw [List.mem_singleton] at hw
    subst hw
    exact row_one _ s hs.1 _ hprod
  · unfold rowsF rowF Uf
    simp
  · have : 2 ^ (facs m).length ≤ 2 ^ 6 := Nat.pow_le_pow_right (by decide) hfl
    rw [List.length_singleton]
    omega
  · obtain ⟨rest, dn, ws, x4, e1, rfl, f4, hnd, hpr, hdn, hrow, hsum, hlen⟩ := hI
    obtain ⟨p, ps', rfl⟩ : ∃ p ps', rest = p :: ps' := by
      cases rest with
      | nil => cases e1
      | cons p ps' => exact ⟨p, ps', rfl⟩
    cases e1
    have hpp := hpr p (by simp)
    have hp := prs_b hpp
    have hpr' : ∀ q ∈ ps', q ∈ prs := fun q hq => hpr q (by simp [hq])
    obtain ⟨hnp, hnd'⟩ := List.nodup_cons.mp hnd
    have hpq : ∀ q ∈ ps', 1 ≤ q ∧ gcdI p q = 1 := fun q hq => ⟨by have := prs_b (hpr' q hq); omega, prs_cop p hpp q (hpr' q hq) fun e => hnp (e ▸ hq)⟩
    have hprn : ∀ l : List Int, (∀ q ∈ l, q ∈ prs) → 0 ≤ prodI l := fun l => by
      induction l with
      | nil => intro _; decide
      | cons x l ih =>
        intro h
        exact Int.mul_nonneg (by have := prs_b (h x (by simp)); omega) (ih fun q hq => h q (by simp [hq]))
    rw [List.length_cons, Nat.pow_succ] at hlen
    have hwl : ws.length ≤ 64 := by
      have := Nat.mul_le_mul_left ws.length (show 1 ≤ 2 ^ ps'.length * 2 from Nat.mul_pos (Nat.pow_pos (by decide)) (by decide))
      omega
    have hwl2 : ws.length * 2 ^ ps'.length ≤ 64 := by
      have : ws.length * (2 ^ ps'.length * 2) = ws.length * 2 ^ ps'.length * 2 := by rw [Nat.mul_assoc]
      omega
    repeat' walk_at "ev"
    · rename_i hz
      refine ⟨ps', dn, ws, _, rfl, rfl, rfl, hnd', hpr', ?_, fun w hw => row_weak (by omega) (hprn ps' hpr') (hrow w hw), hsum, hwl2⟩
      rw [← hdn, List.filter_cons, if_neg (by simp [hz])]
    · rename_i hnz
      have hns : ¬ p ∣ s := fun d => hnz (Int.emod_eq_zero_of_dvd d)
      have hsp := cop_prime hpp hns
      have hwD : (ws.map rowD).length = ws.length := List.length_map _
      refine evLc_inv (fun ds Γ acc => ∃ (xs done : List Row), ds = xs.map rowD ∧ done ++ xs = ws ∧ acc = (done.map (exclR (r0 % s) s p)).map rowD ∧ Γ = [some (.rf (uTag C) (uFs m s (r0 % s) ws)), some (.sh (.leaf (.int m))), some (.sh (.leaf (.int r0))), some (.sh (.leaf (.int s))), some (.sh (.leaf (.int p))), none]) _ ⟨ws, [], rfl, rfl, rfl, rfl⟩ (fun d r Γ acc hI => ?_) fun Γ acc hI => ?_
      · obtain ⟨xs, done, e3, e4, rfl, rfl⟩ := hI
        obtain ⟨w, xs', rfl⟩ : ∃ p ps', xs = p :: ps' := by
          cases xs with
          | nil => cases e3
          | cons p ps' => exact ⟨p, ps', rfl⟩
        cases e3
        have hw := hrow w (by rw [← e4]; simp)
        have hwi := hw.idx
        have hws : w.2.1 ≤ 30030 := by
          have h1 := hw.small
          have h2 : 1 ≤ prodI (p :: ps') := by
            have h3 : ∀ l : List Int, (∀ q ∈ l, q ∈ prs) → 1 ≤ prodI l := fun l => by
              induction l with
              | nil => intro _; decide
              | cons x l ih =>
                intro h
                have h5 := ih fun q hq => h q (by simp [hq])
                have h6 := prs_b (h x (by simp))
                have : 1 * 1 ≤ x * prodI l := Int.mul_le_mul (by omega) h5 (by omega) (by omega)
                show 1 ≤ x * prodI l
                omega
            exact h3 _ hpr
          have h4 : w.2.1 * 1 ≤ w.2.1 * prodI (p :: ps') := Int.mul_le_mul_of_nonneg_left h2 (by omega)
          omega
        have hdl : done.length ≤ 64 := by have := congrArg List.length e4; simp at this; omega
        repeat' walk_at "ev"
        refine excluded_ok C m s (r0 % s) p ws w hs hr hp ⟨by omega, hws⟩ (gcd_mul_r hs.1 hw.cop hsp) ?_
        repeat' walk_at "ev"
        exact ⟨by simp; omega, xs', done ++ [w], rfl, by rw [List.append_assoc]; exact e4, by simp, rfl⟩
      · obtain ⟨xs, done, e3, e4, rfl, rfl⟩ := hI
        have : xs = [] := by cases xs with
          | nil => rfl
          | cons p ps' => cases e3
        subst this
        rw [List.append_nil] at e4
        subst e4
        have hwD2 : ((done.map (exclR (r0 % s) s p)).map rowD).length = done.length := by simp
        repeat' walk_at "ev"
        refine ⟨ps', dn ++ [p], done ++ done.map (exclR (r0 % s) s p), _, rfl, (by rw [show (uFs m s (r0 % s) (done ++ done.map (exclR (r0 % s) s p))) = [.leaf (.int m), .leaf (.int s), .leaf (.int (r0 % s)), .node .lst (done.map rowD ++ (done.map (exclR (r0 % s) s p)).map rowD)] from by unfold uFs; rw [List.map_append]]; rfl), rfl, hnd', hpr', ?_, fun w hw => ?_, fun t => ?_, ?_⟩
        · rw [← hdn, List.filter_cons, if_pos (by simp [hnz]), List.append_assoc]
          rfl
        · rcases List.mem_append.mp hw with h | h
          · exact row_weak (by omega) (hprn ps' hpr') (hrow w h)
          · obtain ⟨v, hv, rfl⟩ := List.mem_map.mp h
            exact row_excl hs.1 hp.1 hsp hpq (hrow v hv)
        · rw [rowsF_app, rowsF_next hs.1 hp.1 hsp hpq t done hrow, hsum, Uf_snoc]
        · rw [List.length_append, List.length_map]
          have : (done.length + done.length) * 2 ^ ps'.length = done.length * (2 ^ ps'.length * 2) := by
            rw [Nat.mul_comm (2 ^ ps'.length) 2, ← Nat.mul_assoc, Nat.mul_two]
          omega
  · obtain ⟨rest, dn, ws, x4, e1, rfl, f4, hnd, hpr, hdn, hrow, hsum, hlen⟩ := hI
    have : rest = [] := by cases rest with
      | nil => rfl
      | cons p ps' => cases e1
    subst this
    rw [List.filter_nil, List.append_nil] at hdn
    subst hdn
    repeat' walk_at "ev"
    refine q ws ⟨fun w hw => ?_, hsum, by simpa using hlen⟩
    have h := hrow w hw
    have hi := h.idx
    have := h.small
    rw [show prodI [] = 1 from rfl] at this
    exact ⟨hi.1, hi.2, by omega, h.sg⟩

end Gm
namespace Gm
open PySem PySem.Spec PyProof.Rows L2 DL

/-! counting the units of a class: sums, places, the product -/
def sumN (f : Nat → Int) : Nat → Int
  | 0 => 0
  | n + 1 => sumN f n + f n
theorem sumN_ext {f g : Nat → Int} : ∀ n : Nat, (∀ i, i < n → f i = g i) → sumN f n = sumN g n
  | 0, _ => rfl
  | n + 1, h => by
    unfold sumN
    rw [sumN_ext n fun i hi => h i (by omega), h n (by omega)]
theorem sumN_plus (f g : Nat → Int) : ∀ n : Nat, sumN (fun i => f i + g i) n = sumN f n + sumN g n
  | 0 => rfl
  | n + 1 => by
    unfold sumN
    rw [sumN_plus f g n]
    omega
theorem sumN_zero : ∀ n : Nat, sumN (fun _ => 0) n = 0
  | 0 => rfl
  | n + 1 => by unfold sumN; rw [sumN_zero n]; rfl
theorem sumN_app (f : Nat → Int) (a : Nat) : ∀ b : Nat, sumN f (a + b) = sumN f a + sumN (fun i => f (a + i)) b
  | 0 => by show sumN f a = sumN f a + 0; omega
  | b + 1 => by
    show sumN f (a + b) + f (a + b) = sumN f a + (sumN (fun i => f (a + i)) b + f (a + b))
    rw [sumN_app f a b]
    omega
theorem sumN_mul (f : Nat → Int) (p : Nat) : ∀ N : Nat, sumN f (p * N) = sumN (fun i => sumN (fun u => f (i + p * u)) N) p
  | 0 => by
    rw [Nat.mul_zero]
    show 0 = sumN (fun _ => 0) p
    rw [sumN_zero]
  | N + 1 => by
    rw [Nat.mul_succ, sumN_app, sumN_mul f p N]
    have e : (fun i => sumN (fun u => f (i + p * u)) (N + 1)) = fun i => sumN (fun u => f (i + p * u)) N + f (p * N + i) := by
      funext i
      show _ + f (i + p * N) = _
      rw [Nat.add_comm i (p * N)]
    rw [e, sumN_plus]
theorem sumN_one (K : Int) (i0 : Nat) : ∀ n : Nat, sumN (fun i => if i = i0 then 0 else K) n = (if i0 < n then (n : Int) - 1 else n) * K
  | 0 => by simp [sumN]
  | n + 1 => by
    show sumN (fun i => if i = i0 then 0 else K) n + (if n = i0 then 0 else K) = _
    rw [sumN_one K i0 n]
    by_cases h : n = i0
    · rw [if_pos h, if_neg (by omega), if_pos (by omega), show ((n + 1 : Nat) : Int) - 1 = n by omega]
      omega
    · rw [if_neg h]
      by_cases h2 : i0 < n
      · rw [if_pos h2, if_pos (by omega), show ((n + 1 : Nat) : Int) - 1 = ((n : Int) - 1) + 1 by omega, Int.add_mul]
        omega
      · rw [if_neg h2, if_neg (by omega), show ((n + 1 : Nat) : Int) = (n : Int) + 1 by omega, Int.add_mul]
        omega
def cU (r s : Int) (dn : List Int) (n : Nat) : Int := sumN (fun t => Uf r s dn t) n
theorem cU_succ (r s : Int) (dn : List Int) (n : Nat) : cU r s dn (n + 1) = cU r s dn n + Uf r s dn n := rfl
theorem SieveOk.cnt {r s : Int} {dn : List Int} {ws : List Row} (h : SieveOk r s dn ws) : ∀ n : Nat, cntS ws n = cU r s dn n
  | 0 => cntS_zero (ws := ws) fun w hw => ⟨(h.rows w hw).1, (h.rows w hw).2.1⟩
  | n + 1 => by
    have h3 := cntS_succ (ws := ws) (fun w hw => ⟨(h.rows w hw).1, (h.rows w hw).2.1⟩) (L := (n : Int)) (by omega)
    rw [h.sum, h.cnt n] at h3
    rw [cU_succ]
    exact h3
theorem cU_bnd (r s : Int) (dn : List Int) : ∀ n : Nat, 0 ≤ cU r s dn n ∧ cU r s dn n ≤ n
  | 0 => ⟨Int.le_refl 0, Int.le_refl 0⟩
  | n + 1 => by
    have h := cU_bnd r s dn n
    rw [cU_succ]
    rcases Uf_01 r s dn n with z | z <;> omega
theorem cU_mono (r s : Int) (dn : List Int) {a : Nat} : ∀ {b : Nat}, a ≤ b → cU r s dn a ≤ cU r s dn b
  | 0, h => by rw [show a = 0 by omega]; exact Int.le_refl _
  | b + 1, h => by
    rcases Nat.lt_or_ge a (b + 1) with z | z
    · have := cU_mono r s dn (show a ≤ b by omega)
      rw [cU_succ]
      rcases Uf_01 r s dn b with y | y <;> omega
    · rw [show a = b + 1 by omega]; exact Int.le_refl _
theorem cU_step {r s : Int} {dn : List Int} {a b : Nat} (h : Uf r s dn a = 1) (hab : a < b) : cU r s dn a + 1 ≤ cU r s dn b := by
  have := cU_mono r s dn (show a + 1 ≤ b by omega)
  rw [cU_succ, h] at this
  exact this
theorem cU_inj {r s : Int} {dn : List Int} {a b : Nat} (ha : Uf r s dn a = 1) (hb : Uf r s dn b = 1) (e : cU r s dn a = cU r s dn b) : a = b := by
  rcases Nat.lt_trichotomy a b with z | z | z
  · have := cU_step ha z; omega
  · exact z
  · have := cU_step hb z; omega
theorem cU_lt {r s : Int} {dn : List Int} {a b : Nat} (h : cU r s dn a < cU r s dn b) : a < b := by
  rcases Nat.lt_or_ge a b with z | z
  · exact z
  · have := cU_mono r s dn z; omega
theorem cU_at {r s : Int} {dn : List Int} {i : Int} (h0 : 0 ≤ i) : ∀ {n : Nat}, i < cU r s dn n → ∃ t : Nat, t < n ∧ Uf r s dn t = 1 ∧ cU r s dn t = i
  | 0, h => by have : cU r s dn 0 = 0 := rfl; omega
  | n + 1, h => by
    rcases Int.lt_or_le i (cU r s dn n) with z | z
    · obtain ⟨t, h1, h2⟩ := cU_at h0 z
      exact ⟨t, by omega, h2⟩
    · rw [cU_succ] at h
      rcases Uf_01 r s dn n with y | y
      · omega
      · exact ⟨n, by omega, y, by omega⟩
theorem Uf_cons (r s p : Int) (dn : List Int) (t : Int) : Uf r s (p :: dn) t = if p ∣ r + s * t then 0 else Uf r s dn t := by
  unfold Uf
  rw [List.any_cons]
  by_cases h : p ∣ r + s * t
  · rw [if_pos h, decide_eq_true h, Bool.true_or, if_pos rfl]
  · rw [if_neg h, decide_eq_false h, Bool.false_or]
theorem Uf_shift (r s a p : Int) (dn : List Int) (u : Int) : Uf r s dn (a + p * u) = Uf (r + s * a) (s * p) dn u := by
  unfold Uf
  rw [show r + s * (a + p * u) = (r + s * a) + (s * p) * u by rw [Int.mul_add, Int.mul_assoc]; omega]
def phiI (dn : List Int) : Int := prodI (dn.map (· - 1))
theorem prodI_cons (p : Int) (l : List Int) : prodI (p :: l) = p * prodI l := rfl
theorem prodI_pos : ∀ {l : List Int}, (∀ p ∈ l, 2 ≤ p) → 1 ≤ prodI l
  | [], _ => Int.le_refl 1
  | p :: l, h => by
    have h1 := prodI_pos (l := l) fun q hq => h q (by simp [hq])
    have h2 := h p (by simp)
    have : 1 * 1 ≤ p * prodI l := Int.mul_le_mul (by omega) h1 (by omega) (by omega)
    rw [prodI_cons]
    omega
/-- all units among prod * k numbers in a row of the class -/
theorem cU_full : ∀ (dn : List Int), (∀ p ∈ dn, 2 ≤ p) → dn.Pairwise (fun p q => gcdI p q = 1) → ∀ (s : Int), 1 ≤ s → (∀ p ∈ dn, gcdI s p = 1) → ∀ (r k : Int) (n : Nat), 0 ≤ k → (n : Int) = prodI dn * k → cU r s dn n = phiI dn * k
  | [], _, _, s, hs, _, r, k, n, hk, hn => by
    have e : prodI [] * k = k := Int.one_mul k
    have e2 : phiI [] * k = k := Int.one_mul k
    rw [e] at hn
    rw [e2, ← hn]
    clear hn e e2
    induction n with
    | zero => rfl
    | succ n ih =>
      rw [cU_succ, ih]
      show (n : Int) + 1 = _
      omega
  | p :: qs, h2, hc, s, hs, hsp, r, k, n, hk, hn => by
    obtain ⟨hc1, hc2⟩ := List.pairwise_cons.mp hc
    have hp := h2 p (by simp)
    have hq2 : ∀ q ∈ qs, 2 ≤ q := fun q hq => h2 q (by simp [hq])
    have hP := prodI_pos hq2
    have hPk : 0 ≤ prodI qs * k := Int.mul_nonneg (by omega) hk
    have hg := hsp p (by simp)
    rw [prodI_cons, Int.mul_assoc] at hn
    generalize hN : (prodI qs * k).toNat = N
    have hN2 : (N : Int) = prodI qs * k := by omega
    have hn2 : n = p.toNat * N := by
      have : (n : Int) = ((p.toNat * N : Nat) : Int) := by rw [hn, Int.natCast_mul, hN2, show ((p.toNat : Nat) : Int) = p by omega]
      omega
    obtain ⟨i1, i2, i3⟩ := inv_props (a := s) (m := p) (by omega) hg
    have hi0 := mod_lt (a := -r * invI s p) (b := p) (by omega)
    have hiff : ∀ i : Nat, i < p.toNat → ((p ∣ r + s * (i : Int)) ↔ i = ((-r * invI s p) % p).toNat) := fun i hi => by
      obtain ⟨z, hz⟩ := dvd_sub_emod (-r * invI s p) p
      obtain ⟨w, hw⟩ := i3
      generalize (-r * invI s p) % p = a at *
      generalize invI s p = j at *
      constructor
      · rintro ⟨c, hc⟩
        have hd : p ∣ (i : Int) - a := by
          refine ⟨j * c + z - w * (i : Int), ?_⟩
          have e1 : r * j + s * i * j = p * c * j := by rw [← hc, Int.add_mul]
          grind
        obtain ⟨y, hy⟩ := hd
        have hlt : -p < p * y ∧ p * y < p := by omega
        have hy0 : y = 0 := by
          rcases Int.lt_trichotomy y 0 with q | q | q
          · have := Int.mul_le_mul_of_nonneg_left (show y ≤ -1 by omega) (show 0 ≤ p by omega)
            omega
          · exact q
          · have := Int.mul_le_mul_of_nonneg_left (show 1 ≤ y by omega) (show 0 ≤ p by omega)
            omega
        rw [hy0] at hy
        omega
      · intro e
        have ha : (i : Int) = a := by omega
        rw [ha]
        refine ⟨-r * w - s * z, ?_⟩
        have e1 : a = -r * j - p * z := by omega
        have e2 : s * j = p * w + 1 := by omega
        rw [e1]
        grind
    rw [cU, hn2, sumN_mul]
    have e : ∀ i, i < p.toNat → sumN (fun u => Uf r s (p :: qs) ((i + p.toNat * u : Nat) : Int)) N = if i = ((-r * invI s p) % p).toNat then 0 else phiI qs * k := fun i hi => by
      have hu : ∀ u : Nat, ((i + p.toNat * u : Nat) : Int) = (i : Int) + p * (u : Int) := fun u => by
        rw [Int.natCast_add, Int.natCast_mul, show ((p.toNat : Nat) : Int) = p by omega]
      have hd : ∀ u : Nat, (p ∣ r + s * ((i : Int) + p * (u : Int))) ↔ (p ∣ r + s * (i : Int)) := fun u => by
        have e3 : r + s * ((i : Int) + p * (u : Int)) = (r + s * (i : Int)) + p * (s * u) := by grind
        rw [e3]
        constructor
        · rintro ⟨c, hc⟩; exact ⟨c - s * u, by rw [Int.mul_sub]; omega⟩
        · rintro ⟨c, hc⟩; exact ⟨c + s * u, by rw [Int.mul_add]; omega⟩
      have hie := hiff i hi
      by_cases hz : i = ((-r * invI s p) % p).toNat
      · rw [if_pos hz, sumN_ext (g := fun _ => 0) N fun u _ => ?_, sumN_zero]
        rw [hu, Uf_cons, if_pos ((hd u).mpr (hie.mpr hz))]
      · rw [if_neg hz]
        have hI := cU_full qs hq2 hc2 (s * p) (by have := Int.mul_le_mul hs (show (1 : Int) ≤ p by omega) (by omega) (by omega); omega) (fun q hq => by
          exact gcd_mul (by have := hq2 q hq; omega) (hsp q (by simp [hq])) (hc1 q hq)) (r + s * i) k N hk hN2
        rw [← hI, cU]
        refine sumN_ext N fun u _ => ?_
        rw [hu, Uf_cons, if_neg fun d => hz (hie.mp ((hd u).mp d)), Uf_shift]
    rw [sumN_ext _ e, sumN_one, if_pos (by omega), show ((p.toNat : Nat) : Int) = p by omega]
    show _ = (p - 1) * phiI qs * k
    rw [Int.mul_assoc]
/-- the law's product -/
def ucF (dn : List Int) (n : Int) : Int := dn.foldl (fun f p => f / p * (p - 1)) n
theorem ucF_eq : ∀ (dn : List Int), (∀ p ∈ dn, 2 ≤ p) → ∀ k : Int, ucF dn (prodI dn * k) = phiI dn * k
  | [], _, k => rfl
  | p :: qs, h, k => by
    have hp := h p (by simp)
    show ucF qs (prodI (p :: qs) * k / p * (p - 1)) = _
    have e : prodI (p :: qs) * k / p = prodI qs * k := by
      rw [prodI_cons, Int.mul_assoc, Int.mul_ediv_cancel_left _ (by omega)]
    rw [e, Int.mul_assoc, ucF_eq qs (fun q hq => h q (by simp [hq]))]
    show _ = (p - 1) * phiI qs * k
    grind
theorem prod_dvd_all : ∀ {dn : List Int} {n : Int}, (∀ p ∈ dn, 2 ≤ p) → dn.Pairwise (fun p q => gcdI p q = 1) → (∀ p ∈ dn, p ∣ n) → prodI dn ∣ n
  | [], n, _, _, _ => Int.one_dvd n
  | p :: qs, n, h2, hc, h => by
    obtain ⟨hc1, hc2⟩ := List.pairwise_cons.mp hc
    have hp := h2 p (by simp)
    refine cop_dvd ?_ (h p (by simp)) (prod_dvd_all (fun q hq => h2 q (by simp [hq])) hc2 fun q hq => h q (by simp [hq]))
    rw [gcdI_comm]
    exact prod_cop (by omega) fun q hq => by rw [gcdI_comm]; exact hc1 q hq
theorem dnL_pair (m s : Int) : (dnL m s).Pairwise (fun p q => gcdI p q = 1) := by
  have h : prs.Pairwise (fun p q => gcdI p q = 1) := by decide
  exact (h.filter _).filter _
theorem dvd_cop_mul {p s n : Int} (hc : gcdI s p = 1) (h : p ∣ s * n) : p ∣ n := by
  have h1 : Nat.Coprime p.natAbs s.natAbs := by
    unfold gcdI Int.gcd at hc
    rw [Nat.coprime_comm]
    exact Int.ofNat.inj hc
  have h2 := Int.natAbs_dvd_natAbs.mpr h
  rw [Int.natAbs_mul] at h2
  exact Int.natAbs_dvd_natAbs.mp (h1.dvd_of_dvd_mul_left h2)
theorem cop_part {p s n : Int} (hp : p ∈ prs) (h1 : p ∣ s * n) (h2 : ¬ p ∣ s) : p ∣ n :=
   dvd_cop_mul (cop_prime hp h2) h1
/-- the number of units of a class -/
theorem cU_count {m s : Int} (r : Int) (hm : 1 ≤ m) (hs : 1 ≤ s) (hsm : s ∣ m) : cU r s (dnL m s) (m / s).toNat = ucF (dnL m s) (m / s) := by
  have hsH : s * (m / s) = m := Int.mul_ediv_cancel' hsm
  have hH : 0 ≤ m / s := Int.ediv_nonneg (by omega) (by omega)
  have h2 : ∀ p ∈ dnL m s, 2 ≤ p := fun p hp => (prs_b (dn_ok hp).1).1
  obtain ⟨k, hk⟩ := prod_dvd_all h2 (dnL_pair m s) (n := m / s) fun p hp => by
    obtain ⟨d1, d2, d3⟩ := dn_ok hp
    rw [← hsH] at d2
    exact cop_part d1 d2 d3
  have hP := prodI_pos h2
  have hk0 : 0 ≤ k := by
    rcases Int.lt_or_le k 0 with z | z
    · have := Int.mul_le_mul_of_nonneg_left (show k ≤ -1 by omega) (show 0 ≤ prodI (dnL m s) by omega)
      omega
    · exact z
  rw [cU_full (dnL m s) h2 (dnL_pair m s) s hs (fun p hp => cop_prime (dn_ok hp).1 (dn_ok hp).2.2) r k _ hk0 (by omega), hk, ucF_eq _ h2]
theorem cU_pos {m s r : Int} (hm : 1 ≤ m) (hs : 1 ≤ s) (hsm : s ∣ m) : 0 < cU r s (dnL m s) (m / s).toNat := by
  obtain ⟨t, h1, h2⟩ := unit_ex (r := r) hs hsm hm fun p hp => dn_ok (m := m) (s := s) hp
  have h3 := cU_step h2 (show t < (m / s).toNat by omega)
  have := (cU_bnd r s (dnL m s) t).1
  omega

end Gm
namespace Gm
open PySem PySem.Spec PyProof.Rows L2 DL
noncomputable def g_Units_at (C_Units : Addr) : GS := sSeq (sPar 2 3 (aCons (eSolid (eC (.int 0))) (aCons (eSolid (eBin gFdiv (eUn (gFld C_Units "m") (eVar 0)) (eUn (gFld C_Units "stride") (eVar 0)))) (aNil))))
  (sSeq (sWhile (tOf (eBin gGt (eBin gSub (eVar 3) (eVar 2)) (eC (.int 1)))) (sSeq (sSet 4 (eBin gFdiv (eBin gAdd (eVar 2) (eVar 3)) (eC (.int 2))))
  (sIf (tOf (eBin gLe (eMethN C_Units "count_below" 2 (m_Units_count_below C_Units) [] (eKeep (eVar 0)) (aCons (eKeep (eVar 4)) (aNil))) (eVar 1))) (sSet 2 (eVar 4)) (sSet 3 (eVar 4)))))
  (sRet (eBin gAdd (eUn (gFld C_Units "residue") (eVar 0)) (eBin gMul (eUn (gFld C_Units "stride") (eVar 0)) (eVar 2)))))
noncomputable def m_Units_at (C_Units : Addr) : MF := runD 5 (g_Units_at C_Units)
theorem units_at_ix (C : Addr) (m s r i : Int) (dn : List Int) (ws : List Row) (hm : 1 ≤ m ∧ m ≤ 1000000000) (hs : 1 ≤ s) (hr : 0 ≤ r ∧ r < s) (hsm : s ∣ m) (hS : SieveOk r s dn ws) (hi : 0 ≤ i ∧ i < cU r s dn (m / s).toNat) {Q : Cell → List Cell → Prop} {X : Exc → List Cell → Prop}
    (q : ∀ t : Nat, (t : Int) < m / s → Uf r s dn t = 1 → cU r s dn t = i → Q (.sh (.leaf (.int (r + s * t)))) [.sh (.node (uTag C) (uFs m s r ws)), .sh (.leaf (.int i))]) :
    evM (m_Units_at C) [.sh (.node (uTag C) (uFs m s r ws)), .sh (.leaf (.int i))] Q X := by
  have hsl : s ≤ m := Int.le_of_dvd (by omega) hsm
  have hH : m / s ≤ m := Int.ediv_le_self _ (by omega)
  have hH0 : 0 ≤ m / s := Int.ediv_nonneg (by omega) (by omega)
  have hsH : s * (m / s) = m := Int.mul_ediv_cancel' hsm
  obtain ⟨t, ht1, ht2, ht3⟩ := cU_at hi.1 hi.2
  refine evDef _ (by rfl) ?_
  unfold g_Units_at
  repeat' walk_at "ev"
  generalize hHH : m / s = H at *
  refine evWhile (fun n Γ => ∃ (lo hi : Nat) (x4 : Option Cell), Γ = [some (.sh (.node (uTag C) (uFs m s r ws))), some (.sh (.leaf (.int i))), some (.sh (.leaf (.int (lo : Int)))), some (.sh (.leaf (.int (hi : Int)))), x4] ∧ isRf (some x4) = false ∧ lo < hi ∧ (hi : Int) ≤ H ∧ hi - lo = n ∧ lo ≤ t ∧ t < hi) (fun n Γ hI => ?_) H.toNat ⟨0, H.toNat, none, by rw [show ((H.toNat : Nat) : Int) = H by omega]; rfl, rfl, by omega, by omega, by omega, by omega, ht1⟩
  · obtain ⟨lo, hi2, x4, rfl, f4, h1, h2, h3, h4, h5⟩ := hI
    repeat' walk_at "ev"
    · rename_i hg
      have e : ((lo : Int) + hi2) / 2 = (((lo + hi2) / 2 : Nat) : Int) := by omega
      rw [e]
      refine count_below_ok C m s r _ dn ws (by omega) hS ?_
      rw [hS.cnt]
      repeat' walk_at "ev"
      · rename_i hle
        refine ⟨hi2 - (lo + hi2) / 2, by omega, (lo + hi2) / 2, hi2, _, rfl, rfl, by omega, h2, rfl, ?_, h5⟩
        rcases Nat.lt_or_ge t ((lo + hi2) / 2) with z | z
        · have := cU_step ht2 z
          omega
        · exact z
      · rename_i hle
        refine ⟨(lo + hi2) / 2 - lo, by omega, lo, (lo + hi2) / 2, _, rfl, rfl, by omega, by omega, rfl, h4, ?_⟩
        rcases Nat.lt_or_ge t ((lo + hi2) / 2) with z | z
        · exact z
        · have := cU_mono r s dn z
          omega
    · rename_i hg
      have htl : t = lo := by omega
      subst htl
      have hb : s * (t : Int) ≤ s * H := Int.mul_le_mul_of_nonneg_left (by omega) (by omega)
      have hb0 : 0 ≤ s * (t : Int) := Int.mul_nonneg (by omega) (by omega)
      repeat' walk_at "ev"
      exact q t (by omega) ht2 ht3

end Gm
namespace Gm
open PySem PySem.Spec PyProof.Rows L2 DL
noncomputable def g_Units_count (C_Units : Addr) : GS := sRet (eMethN C_Units "count_below" 2 (m_Units_count_below C_Units) [] (eKeep (eVar 0)) (aCons (eKeep (eBin gFdiv (eUn (gFld C_Units "m") (eVar 0)) (eUn (gFld C_Units "stride") (eVar 0)))) (aNil)))
noncomputable def m_Units_count (C_Units : Addr) : MF := runD 1 (g_Units_count C_Units)
theorem units_count_ok (C : Addr) (m s r : Int) (dn : List Int) (ws : List Row) (hm : 1 ≤ m ∧ m ≤ 1000000000) (hs : 1 ≤ s ∧ s ≤ 1000000000) (hS : SieveOk r s dn ws) {Q : Cell → List Cell → Prop} {X : Exc → List Cell → Prop}
    (q : Q (.sh (.leaf (.int (cU r s dn (m / s).toNat)))) [.sh (.node (uTag C) (uFs m s r ws))]) :
    evM (m_Units_count C) [.sh (.node (uTag C) (uFs m s r ws))] Q X := by
  have hH : m / s ≤ m := Int.ediv_le_self _ (by omega)
  have hH0 : 0 ≤ m / s := Int.ediv_nonneg (by omega) (by omega)
  refine evDef _ (by rfl) ?_
  unfold g_Units_count
  repeat' walk_at "ev"
  refine count_below_ok C m s r (m / s) dn ws (by omega) hS ?_
  have e := hS.cnt (m / s).toNat
  rw [show (((m / s).toNat : Nat) : Int) = m / s by omega] at e
  rw [e]
  repeat' walk_at "ev"
  exact q

end Gm
namespace Gm
open PySem PySem.Spec PyProof.Rows L2 DL
noncomputable def g_gcd : GS := sSeq (sPar 0 1 (aCons (eSolid (eBI gAbs (aCons (eVar 0) (aNil)))) (aCons (eSolid (eBI gAbs (aCons (eVar 1) (aNil)))) (aNil))))
  (sSeq (sWhile (tOf (eBin gNe (eVar 1) (eC (.int 0)))) (sPar 0 1 (aCons (eSolid (eVar 1)) (aCons (eSolid (eBin gMod (eVar 0) (eVar 1))) (aNil)))))
  (sRet (eVar 0)))
noncomputable def m_gcd : MF := runD 2 g_gcd
theorem gcd_ok (a b : Int) {Q : Cell → List Cell → Prop} {X : Exc → List Cell → Prop}
    (q : Q (.sh (.leaf (.int (gcdI a b)))) [.sh (.leaf (.int a)), .sh (.leaf (.int b))]) : evM m_gcd [.sh (.leaf (.int a)), .sh (.leaf (.int b))] Q X := by
  refine evDef _ (by rfl) ?_
  unfold g_gcd
  repeat' (first | with_reducible refine vAbsN ?_ | walk_at "ev")
  refine evWhile (fun n Γ => ∃ x y : Int, Γ = [some (.sh (.leaf (.int x))), some (.sh (.leaf (.int y)))] ∧ 0 ≤ x ∧ 0 ≤ y ∧ y.toNat = n ∧ gcdI x y = gcdI a b) (fun n Γ hI => ?_) b.natAbs ⟨a.natAbs, b.natAbs, rfl, by omega, by omega, by omega, rfl⟩
  obtain ⟨x, y, rfl, hx, hy, rfl, hg⟩ := hI
  repeat' walk_at "ev"
  · rename_i h
    subst h
    rw [gcdI_zero] at hg
    rw [← hg, show ((x.natAbs : Nat) : Int) = x by omega] at q
    exact q
  · rename_i h
    have h1 := mod_lt (a := x) (b := y) (by omega)
    exact ⟨(x % y).toNat, by omega, y, x % y, rfl, hy, h1.1, rfl, by rw [gcdI_step, hg]⟩

end Gm
namespace Gm
open PySem PySem.Spec PyProof.Rows L2 DL
noncomputable def g_solution : GS := sSeq (sSet 3 (eCallN 2 m_gcd [] (aCons (eKeep (eVar 1)) (aCons (eKeep (eVar 0)) (aNil)))))
  (sSeq (sIf (tOf (eBin gNe (eBin gMod (eVar 2) (eVar 3)) (eC (.int 0)))) (sRet (eC .non)) (sNil))
  (sSeq (sSet 4 (eBin gFdiv (eVar 0) (eVar 3)))
  (sRet (eOfL gTupD (aCons (eKeep (eBin gMod (eBin gMul (eBin gFdiv (eVar 2) (eVar 3)) (eCallN 2 m_unit_inverse [] (aCons (eKeep (eBin gFdiv (eVar 1) (eVar 3))) (aCons (eKeep (eVar 4)) (aNil))))) (eVar 4))) (aCons (eKeep (eVar 4)) (aNil)))))))
noncomputable def m_solution : MF := runD 5 g_solution
theorem gcdI_le {a m : Int} (hm : 1 ≤ m) : 0 < gcdI a m ∧ gcdI a m ≤ m := ⟨gcdI_pos (by omega), Int.le_of_dvd (by omega) (gcdI_dvd_right a m)⟩
theorem solution_ok (m F0 target : Int) (hm : 1 ≤ m ∧ m ≤ 1000000000000000000000000000000) (hf : sm F0) (ht : sm target) {Q : Cell → List Cell → Prop} {X : Exc → List Cell → Prop}
    (qn : target % gcdI F0 m ≠ 0 → Q (.sh (.leaf .non)) [.sh (.leaf (.int m)), .sh (.leaf (.int F0)), .sh (.leaf (.int target))])
    (qs : ∀ F s t r : Int, gcdI F0 m * F = F0 → gcdI F0 m * s = m → target = gcdI F0 m * t → 0 < s → s ≤ m → s ∣ F * r - 1 → Q (.sh (mpD ((t * r) % s) s)) [.sh (.leaf (.int m)), .sh (.leaf (.int F0)), .sh (.leaf (.int target))]) :
    evM m_solution [.sh (.leaf (.int m)), .sh (.leaf (.int F0)), .sh (.leaf (.int target))] Q X := by
  unfold sm at hf ht
  have hg := gcdI_le (a := F0) hm.1
  have e1 : gcdI F0 m * (F0 / gcdI F0 m) = F0 := Int.mul_ediv_cancel' (gcdI_dvd_left F0 m)
  have e2 : gcdI F0 m * (m / gcdI F0 m) = m := Int.mul_ediv_cancel' (gcdI_dvd_right F0 m)
  have hs : 0 < m / gcdI F0 m := by
    rcases Int.lt_or_le 0 (m / gcdI F0 m) with z | z
    · exact z
    · have : gcdI F0 m * (m / gcdI F0 m) ≤ 0 := Int.mul_nonpos_of_nonneg_of_nonpos (by omega) z
      omega
  have hsm : m / gcdI F0 m ≤ m := Int.ediv_le_self _ (by omega)
  have hgg : gcdI (F0 / gcdI F0 m) (m / gcdI F0 m) = 1 := by
    have := Int.gcd_ediv_gcd_ediv_gcd (i := F0) (j := m) (by have := hg.1; unfold gcdI at this; omega)
    exact congrArg Int.ofNat this
  have ht2 : sm (target / gcdI F0 m) := by
    have := Int.mul_ediv_add_emod target (gcdI F0 m)
    have h3 := mod_lt (a := target) hg.1
    unfold sm
    rcases Int.lt_or_le (target / gcdI F0 m) 0 with z | z
    · have h5 : gcdI F0 m * (target / gcdI F0 m + 1) ≤ 1 * (target / gcdI F0 m + 1) := Int.mul_le_mul_of_nonpos_right (by omega) (by omega)
      rw [Int.mul_add] at h5
      omega
    · have : 1 * (target / gcdI F0 m) ≤ gcdI F0 m * (target / gcdI F0 m) := Int.mul_le_mul_of_nonneg_right (by omega) z
      omega
  unfold sm at ht2
  refine evDef _ (by rfl) ?_
  unfold g_solution
  repeat' walk_at "ev"
  refine gcd_ok F0 m ?_
  repeat' walk_at "ev"
  · rename_i h
    have e3 : target = gcdI F0 m * (target / gcdI F0 m) := by have := Int.mul_ediv_add_emod target (gcdI F0 m); omega
    refine unit_inverse_ok _ _ (by omega) hgg fun i1 i2 i3 => ?_
    repeat' walk_at "ev"
    exact qs _ _ _ _ e1 e2 e3 hs hsm i3
  · rename_i h
    exact qn h

end Gm
namespace Gm
open PySem PySem.Spec PyProof.Rows L2 DL
def lcmI (a b : Int) : Int := a / gcdI a b * b
theorem lcmI_nat (a b : Nat) : lcmI (a : Int) (b : Int) = ((Nat.lcm a b : Nat) : Int) := by
  unfold lcmI gcdI Nat.lcm
  rw [Int.gcd_natCast_natCast]
  have h := Nat.div_mul_right_comm (Nat.gcd_dvd_left a b) b
  rw [← h, Int.natCast_mul, Int.natCast_ediv]

end Gm
namespace Gm
open PySem PySem.Spec PyProof.Rows L2 DL

/-! points of a map: the divisor that they force, the maps through them -/
abbrev ptsD (l : List (Int × Int)) : List D := l.map pD
theorem lcmI_dvd_iff {a b z : Int} (ha : 1 ≤ a) (hb : 1 ≤ b) : lcmI a b ∣ z ↔ a ∣ z ∧ b ∣ z := by
  obtain ⟨x, rfl⟩ := Int.eq_ofNat_of_zero_le (show 0 ≤ a by omega)
  obtain ⟨y, rfl⟩ := Int.eq_ofNat_of_zero_le (show 0 ≤ b by omega)
  rw [lcmI_nat, Int.ofNat_dvd_left, Int.ofNat_dvd_left, Int.ofNat_dvd_left]
  exact ⟨fun h => ⟨Nat.dvd_trans (Nat.dvd_lcm_left x y) h, Nat.dvd_trans (Nat.dvd_lcm_right x y) h⟩, fun h => Nat.lcm_dvd h.1 h.2⟩
theorem lcmI_pos {a b : Int} (ha : 1 ≤ a) (hb : 1 ≤ b) : 1 ≤ lcmI a b := by
  obtain ⟨x, rfl⟩ := Int.eq_ofNat_of_zero_le (show 0 ≤ a by omega)
  obtain ⟨y, rfl⟩ := Int.eq_ofNat_of_zero_le (show 0 ≤ b by omega)
  rw [lcmI_nat]
  have := Nat.lcm_pos (show 0 < x by omega) (show 0 < y by omega)
  omega
def prt (m x : Int) : Int := m / gcdI x m
theorem prt_parts {m : Int} (hm : 1 ≤ m) (x : Int) : 1 ≤ gcdI x m ∧ prt m x * gcdI x m = m ∧ gcdI x m * (x / gcdI x m) = x ∧ 1 ≤ prt m x ∧ prt m x ≤ m ∧ gcdI (x / gcdI x m) (prt m x) = 1 := by
  have hg := gcdI_le (a := x) hm
  have e1 : gcdI x m * (m / gcdI x m) = m := Int.mul_ediv_cancel' (gcdI_dvd_right x m)
  have e2 : gcdI x m * (x / gcdI x m) = x := Int.mul_ediv_cancel' (gcdI_dvd_left x m)
  have e3 : gcdI (x / gcdI x m) (m / gcdI x m) = 1 := by
    have := Int.gcd_ediv_gcd_ediv_gcd (i := x) (j := m) (by have := hg.1; unfold gcdI at this; omega)
    exact congrArg Int.ofNat this
  unfold prt
  refine ⟨by omega, by rw [Int.mul_comm]; exact e1, e2, ?_, Int.ediv_le_self _ (by omega), e3⟩
  rcases Int.lt_or_le 0 (m / gcdI x m) with z | z
  · omega
  · have : gcdI x m * (m / gcdI x m) ≤ 0 := Int.mul_nonpos_of_nonneg_of_nonpos (by omega) z
    omega
theorem prt_dvd {m : Int} (hm : 1 ≤ m) (x z : Int) : prt m x ∣ z ↔ m ∣ z * x := by
  obtain ⟨g1, e1, e2, p1, p2, hc⟩ := prt_parts hm x
  generalize prt m x = n at *
  generalize gcdI x m = g at *
  generalize x / g = w at *
  subst e2
  constructor
  · rintro ⟨c, rfl⟩
    exact ⟨c * w, by rw [← e1]; grind⟩
  · rintro ⟨c, hc2⟩
    rw [← e1] at hc2
    have e3 : z * w = n * c := by
      have : g * (z * w) = g * (n * c) := by grind
      exact Int.eq_of_mul_eq_mul_left (by omega) this
    have h3 : n ∣ w * z := ⟨c, by rw [Int.mul_comm]; exact e3⟩
    exact dvd_cop_mul hc h3
def stp (m x0 : Int) (l : List (Int × Int)) (s : Int) : Int := l.foldl (fun s p => lcmI s (prt m (p.1 - x0))) s
theorem stp_spec {m : Int} (hm : 1 ≤ m) (x0 : Int) : ∀ (l : List (Int × Int)) (s : Int), 1 ≤ s → s ∣ m → 1 ≤ stp m x0 l s ∧ stp m x0 l s ∣ m ∧ ∀ z, stp m x0 l s ∣ z ↔ s ∣ z ∧ ∀ p ∈ l, m ∣ z * (p.1 - x0)
  | [], s, h1, h2 => ⟨h1, h2, fun z => ⟨fun h => ⟨h, fun p hp => by cases hp⟩, fun h => h.1⟩⟩
  | p :: l, s, h1, h2 => by
    obtain ⟨g1, e1, e2, p1, p2, hc⟩ := prt_parts hm (p.1 - x0)
    obtain ⟨i1, i2, i3⟩ := stp_spec hm x0 l (lcmI s (prt m (p.1 - x0))) (lcmI_pos h1 p1) ((lcmI_dvd_iff h1 p1).mpr ⟨h2, ⟨_, e1.symm⟩⟩)
    refine ⟨i1, i2, fun z => ?_⟩
    refine (i3 z).trans ?_
    rw [lcmI_dvd_iff h1 p1, prt_dvd hm]
    constructor
    · rintro ⟨⟨a, b⟩, c⟩
      refine ⟨a, fun q hq => ?_⟩
      rcases List.mem_cons.mp hq with rfl | hq
      · exact b
      · exact c q hq
    · rintro ⟨a, b⟩
      exact ⟨⟨a, b p (by simp)⟩, fun q hq => b q (by simp [hq])⟩
/-- the divisor that points force -/
def stpL (m : Int) (l : List (Int × Int)) : Int := stp m (l.headD (0, 0)).1 l 1
theorem stpL_spec {m : Int} (hm : 1 ≤ m) (l : List (Int × Int)) : 1 ≤ stpL m l ∧ stpL m l ∣ m ∧ stpL m l ≤ m ∧ ∀ z, stpL m l ∣ z ↔ ∀ p ∈ l, ∀ q ∈ l, m ∣ z * (p.1 - q.1) := by
  obtain ⟨h1, h2, h3⟩ := stp_spec hm (l.headD (0, 0)).1 l 1 (by omega) (Int.one_dvd m)
  refine ⟨h1, h2, Int.le_of_dvd (by omega) h2, fun z => ?_⟩
  refine (h3 z).trans ⟨fun ⟨_, h⟩ p hp q hq => ?_, fun h => ⟨Int.one_dvd z, fun p hp => ?_⟩⟩
  · obtain ⟨c, hc⟩ := h p hp
    obtain ⟨d, hd⟩ := h q hq
    refine ⟨c - d, ?_⟩
    rw [Int.mul_sub m, ← hc, ← hd]
    grind
  · cases l with
    | nil => cases hp
    | cons a l => exact h p hp a (by simp)
theorem dvd_of_emod {x y m : Int} (h : x % m = y % m) : m ∣ x - y := by
  have h1 := Int.mul_ediv_add_emod x m
  have h2 := Int.mul_ediv_add_emod y m
  exact ⟨x / m - y / m, by rw [Int.mul_sub]; omega⟩
/-- points of a map -/
def onM (m : Int) (f : Int × Int) (l : List (Int × Int)) : Prop := ∀ p ∈ l, (0 ≤ p.1 ∧ p.1 < m) ∧ p.2 = apM m f p.1
theorem onM.step {m : Int} {f g : Int × Int} {l : List (Int × Int)} (hm : 1 ≤ m) (hf : onM m f l) (hg : onM m g l) : stpL m l ∣ g.1 - f.1 := by
  refine ((stpL_spec hm l).2.2.2 _).mpr fun p hp q hq => ?_
  have h1 : (f.1 * p.1 + f.2) % m = (g.1 * p.1 + g.2) % m := (hf p hp).2.symm.trans (hg p hp).2
  have h2 : (f.1 * q.1 + f.2) % m = (g.1 * q.1 + g.2) % m := (hf q hq).2.symm.trans (hg q hq).2
  obtain ⟨c, hc⟩ := dvd_of_emod h1.symm
  obtain ⟨d, hd⟩ := dvd_of_emod h2.symm
  refine ⟨c - d, ?_⟩
  rw [Int.mul_sub m, ← hc, ← hd]
  grind
/-- the map with a multiplier through the first point -/
def thr (m : Int) (l : List (Int × Int)) (a : Int) : Int × Int := (a, ((l.headD (0, 0)).2 - a * (l.headD (0, 0)).1) % m)
theorem ap_pnt {m : Int} (hm : 1 ≤ m) {f : Int × Int} {p : Int × Int} (h : p.2 = apM m f p.1) : m ∣ p.2 - (f.1 * p.1 + f.2) := by
  obtain ⟨c, hc⟩ := dvd_sub_emod (f.1 * p.1 + f.2) m
  have h' : p.2 = (f.1 * p.1 + f.2) % m := h
  exact ⟨-c, by rw [h', Int.mul_neg]; omega⟩
theorem thr_eq {m : Int} (hm : 1 ≤ m) {g : Int × Int} {l : List (Int × Int)} (hne : l ≠ []) (hr : redM m g) (hg : onM m g l) : g = thr m l g.1 := by
  obtain ⟨q, l', rfl⟩ : ∃ q l', l = q :: l' := by
    cases l with
    | nil => exact (hne rfl).elim
    | cons q l' => exact ⟨q, l', rfl⟩
  obtain ⟨c1, c2⟩ := hg q (by simp)
  obtain ⟨v, hv⟩ := ap_pnt hm c2
  have e : g.2 = (q.2 - g.1 * q.1) % m := by
    have : (q.2 - g.1 * q.1) % m = g.2 % m := emod_of_dvd ⟨v, by omega⟩
    rw [this, Int.emod_eq_of_lt hr.2.1 hr.2.2]
  show (g.1, g.2) = (g.1, _)
  rw [e]
  rfl
/-- units of the class -/
theorem unit_iff {m s r : Int} (hs : Smooth m) (h1 : 1 ≤ s) (hsm : s ∣ m) (hr : gcdI r s = 1) (t : Int) : Uf r s (dnL m s) t = 1 ↔ gcdI (r + s * t) m = 1 := by
  rw [Uf_iff]
  constructor
  · intro h
    refine gcd_of_primes hs fun p hp hpm hd => ?_
    have hb := prs_b hp
    by_cases hps : p ∣ s
    · have hd2 : p ∣ r := by
        obtain ⟨x, hx⟩ := hd
        obtain ⟨y, hy⟩ := hps
        exact ⟨x - y * t, by rw [Int.mul_sub, ← hx, hy, Int.mul_assoc]; omega⟩
      have h3 : p ∣ gcdI r s := Int.dvd_coe_gcd hd2 hps
      rw [hr] at h3
      have := Int.le_of_dvd (by omega) h3
      omega
    · refine h p ?_ hd
      refine List.mem_filter.mpr ⟨List.mem_filter.mpr ⟨hp, decide_eq_true (Int.emod_eq_zero_of_dvd hpm)⟩, ?_⟩
      have : ¬ s % p = 0 := fun e => hps (Int.dvd_of_emod_eq_zero e)
      rw [decide_eq_false this]
      rfl
  · intro h p hp hd
    obtain ⟨d1, d2, d3⟩ := dn_ok hp
    have hb := prs_b d1
    have h3 : p ∣ gcdI (r + s * t) m := Int.dvd_coe_gcd hd d2
    rw [h] at h3
    have := Int.le_of_dvd (by omega) h3
    omega
theorem gcd_cls {a m s : Int} (hg : gcdI a m = 1) (hs1 : 1 ≤ s) (hsm : s ∣ m) : gcdI (a % s) s = 1 := by
  rw [gcd_mod]
  have h1 := gcdI_pos (a := a) (b := s) (by omega)
  have h2 : gcdI a s ∣ gcdI a m := Int.dvd_coe_gcd (gcdI_dvd_left a s) (Int.dvd_trans (gcdI_dvd_right a s) hsm)
  rw [hg] at h2
  have := Int.le_of_dvd (by omega) h2
  omega
/-! the maps through points by their index -/
def clsR (m : Int) (f : Int × Int) (l : List (Int × Int)) : Int := f.1 % stpL m l
def uAt (m : Int) (f : Int × Int) (l : List (Int × Int)) (t : Int) : Int := Uf (clsR m f l) (stpL m l) (dnL m (stpL m l)) t
def cAt (m : Int) (f : Int × Int) (l : List (Int × Int)) (t : Nat) : Int := cU (clsR m f l) (stpL m l) (dnL m (stpL m l)) t
def nU (m : Int) (f : Int × Int) (l : List (Int × Int)) : Int := cAt m f l (m / stpL m l).toNat
def isAt (m : Int) (f : Int × Int) (l : List (Int × Int)) (i : Int) (g : Int × Int) : Prop :=
  ∃ t : Nat, (t : Int) < m / stpL m l ∧ uAt m f l t = 1 ∧ cAt m f l t = i ∧ g = thr m l (clsR m f l + stpL m l * t)
theorem clsR_lt {m : Int} (hm : 1 ≤ m) (f : Int × Int) (l : List (Int × Int)) : 0 ≤ clsR m f l ∧ clsR m f l < stpL m l := mod_lt (by have := (stpL_spec hm l).1; omega)
theorem clsR_eq {m : Int} (hm : 1 ≤ m) {f g : Int × Int} {l : List (Int × Int)} (hf : onM m f l) (hg : onM m g l) : clsR m f l = clsR m g l := emod_of_dvd (hg.step hm hf)
theorem cls_div {m : Int} (hm : 1 ≤ m) (f : Int × Int) (l : List (Int × Int)) (t : Nat) : (clsR m f l + stpL m l * (t : Int)) / stpL m l = t := by
  have hr := clsR_lt hm f l
  have s1 := (stpL_spec hm l).1
  rw [Int.add_mul_ediv_left _ _ (by omega), Int.ediv_eq_zero_of_lt hr.1 hr.2]
  omega
theorem uAt_iff {m : Int} (hs : Smooth m) (hm : 1 ≤ m) {f : Int × Int} (hf : uniM m f) (l : List (Int × Int)) (t : Int) : uAt m f l t = 1 ↔ gcdI (clsR m f l + stpL m l * t) m = 1 := by
  obtain ⟨s1, s2, s3, s4⟩ := stpL_spec hm l
  exact unit_iff hs s1 s2 (gcd_cls hf.2 s1 s2) t
theorem isAt.uniq {m : Int} {f g g' : Int × Int} {l : List (Int × Int)} {i : Int} (h : isAt m f l i g) (h' : isAt m f l i g') : g = g' := by
  obtain ⟨t, h1, h2, h3, rfl⟩ := h
  obtain ⟨t', h1', h2', h3', rfl⟩ := h'
  rw [cU_inj h2 h2' (h3.trans h3'.symm)]
theorem isAt.mono {m : Int} (hm : 1 ≤ m) {f g g' : Int × Int} {l : List (Int × Int)} {i j : Int} (h : isAt m f l i g) (h' : isAt m f l j g') (hij : i < j) : g.1 < g'.1 := by
  obtain ⟨t, h1, h2, h3, rfl⟩ := h
  obtain ⟨t', h1', h2', h3', rfl⟩ := h'
  have s1 := (stpL_spec hm l).1
  have ht : t < t' := cU_lt (r := clsR m f l) (s := stpL m l) (dn := dnL m (stpL m l)) (by unfold cAt at h3 h3'; omega)
  show clsR m f l + stpL m l * t < clsR m f l + stpL m l * t'
  have := Int.mul_lt_mul_of_pos_left (show (t : Int) < t' by omega) (show 0 < stpL m l by omega)
  omega
theorem isAt.ex {m : Int} {f : Int × Int} {l : List (Int × Int)} {i : Int} (h0 : 0 ≤ i) (h : i < nU m f l) : ∃ g, isAt m f l i g := by
  obtain ⟨t, h1, h2, h3⟩ := cU_at h0 h
  exact ⟨_, t, by omega, h2, h3, rfl⟩
def idxU (m : Int) (f : Int × Int) (l : List (Int × Int)) (g : Int × Int) : Int := cAt m f l (g.1 / stpL m l).toNat
theorem isAt.idx {m : Int} (hm : 1 ≤ m) {f g : Int × Int} {l : List (Int × Int)} {i : Int} (h : isAt m f l i g) : idxU m f l g = i := by
  obtain ⟨t, h1, h2, h3, rfl⟩ := h
  unfold idxU
  show cAt m f l ((clsR m f l + stpL m l * t) / stpL m l).toNat = i
  rw [cls_div hm]
  exact h3
theorem isAt.of {m : Int} (hs : Smooth m) (hm : 1 ≤ m) {f g : Int × Int} (hf : uniM m f) {l : List (Int × Int)} (hne : l ≠ []) (hl : onM m f l) (hg : uniM m g) (hgl : onM m g l) : isAt m f l (idxU m f l g) g := by
  obtain ⟨s1, s2, s3, s4⟩ := stpL_spec hm l
  have hsH : stpL m l * (m / stpL m l) = m := Int.mul_ediv_cancel' s2
  have e : g.1 = clsR m f l + stpL m l * (g.1 / stpL m l) := by
    rw [clsR_eq hm hl hgl]
    have := Int.mul_ediv_add_emod g.1 (stpL m l)
    unfold clsR
    omega
  have h0 : 0 ≤ g.1 / stpL m l := Int.ediv_nonneg hg.1.1.1 (by omega)
  have h1 : g.1 / stpL m l < m / stpL m l := by
    rcases Int.lt_or_le (g.1 / stpL m l) (m / stpL m l) with z | z
    · exact z
    · have := Int.mul_le_mul_of_nonneg_left z (show 0 ≤ stpL m l by omega)
      have := clsR_lt hm f l
      have := hg.1.1.2
      omega
  have e2 : (((g.1 / stpL m l).toNat : Nat) : Int) = g.1 / stpL m l := by omega
  refine ⟨(g.1 / stpL m l).toNat, by omega, ?_, rfl, ?_⟩
  · rw [uAt_iff hs hm hf, e2, ← e]
    exact hg.2
  · rw [e2, ← e]
    exact thr_eq hm hne hg.1 hgl
end Gm
namespace Gm
open PySem PySem.Spec PyProof.Rows L2 DL

/-! the maps that commute with a map, by their index -/
def comM (m : Int) (f g : Int × Int) : Prop := cmpM m f g = cmpM m g f
theorem comM_iff {m : Int} (f g : Int × Int) : comM m f g ↔ m ∣ (g.1 - 1) * f.2 - (f.1 - 1) * g.2 := by
  unfold comM cmpM
  constructor
  · intro h
    have h2 := congrArg Prod.snd h
    obtain ⟨c, hc⟩ := dvd_of_emod (x := g.1 * f.2 + g.2) (y := f.1 * g.2 + f.2) h2
    exact ⟨c, by rw [← hc, Int.sub_mul, Int.sub_mul]; omega⟩
  · rintro ⟨c, hc⟩
    have h2 : (g.1 * f.2 + g.2) % m = (f.1 * g.2 + f.2) % m := emod_of_dvd ⟨c, by rw [← hc, Int.sub_mul, Int.sub_mul]; omega⟩
    rw [h2, Int.mul_comm f.1 g.1]
def cmN (m : Int) (f : Int × Int) : Int := gcdI (f.1 - 1) m
def cmS (m : Int) (f : Int × Int) : Int := cmN m f / gcdI f.2 (cmN m f)
def cmK (m : Int) (f : Int × Int) : Int := m / cmN m f
theorem cmN_spec {m : Int} (hm : 1 ≤ m) (f : Int × Int) : 1 ≤ cmN m f ∧ cmN m f ≤ m ∧ cmN m f ∣ f.1 - 1 ∧ cmN m f ∣ m ∧ cmN m f * cmK m f = m ∧ 1 ≤ cmK m f ∧ cmK m f ≤ m := by
  have h := gcdI_le (a := f.1 - 1) hm
  have e : gcdI (f.1 - 1) m * (m / gcdI (f.1 - 1) m) = m := Int.mul_ediv_cancel' (gcdI_dvd_right _ m)
  refine ⟨by unfold cmN; omega, h.2, gcdI_dvd_left _ _, gcdI_dvd_right _ _, e, ?_, Int.ediv_le_self _ (by omega)⟩
  unfold cmK cmN
  rcases Int.lt_or_le 0 (m / gcdI (f.1 - 1) m) with z | z
  · omega
  · have : gcdI (f.1 - 1) m * (m / gcdI (f.1 - 1) m) ≤ 0 := Int.mul_nonpos_of_nonneg_of_nonpos (by omega) z
    omega
theorem cmS_spec {m : Int} (hm : 1 ≤ m) (f : Int × Int) : 1 ≤ cmS m f ∧ cmS m f ∣ m ∧ cmS m f ≤ m ∧ ∀ z, cmS m f ∣ z ↔ cmN m f ∣ z * f.2 := by
  obtain ⟨n1, n2, n3, n4, n5, n6, n7⟩ := cmN_spec hm f
  obtain ⟨g1, e1, e2, p1, p2, hc⟩ := prt_parts n1 f.2
  have hS : cmS m f = prt (cmN m f) f.2 := rfl
  have hd : cmS m f ∣ m := Int.dvd_trans ⟨_, by rw [hS]; exact e1.symm⟩ n4
  refine ⟨by rw [hS]; exact p1, hd, Int.le_of_dvd (by omega) hd, fun z => ?_⟩
  rw [hS]
  exact prt_dvd n1 f.2 z
theorem comM.cls {m : Int} (hm : 1 ≤ m) {f g : Int × Int} (h : comM m f g) : cmS m f ∣ g.1 - 1 := by
  obtain ⟨n1, n2, n3, n4, n5, n6, n7⟩ := cmN_spec hm f
  refine ((cmS_spec hm f).2.2.2 _).mpr ?_
  have h1 := Int.dvd_trans n4 ((comM_iff f g).mp h)
  have h2 : cmN m f ∣ (f.1 - 1) * g.2 := Int.dvd_trans n3 ⟨g.2, rfl⟩
  have := Int.dvd_add h1 h2
  rwa [Int.sub_add_cancel] at this
def cmR (m : Int) (f : Int × Int) : Int := 1 % cmS m f
def cmC (m : Int) (f : Int × Int) (t : Nat) : Int := cU (cmR m f) (cmS m f) (dnL m (cmS m f)) t
def cmU (m : Int) (f : Int × Int) : Int := cmC m f (m / cmS m f).toNat
def idC (m : Int) (f g : Int × Int) : Int := cmC m f (g.1 / cmS m f).toNat * cmN m f + g.2 / cmK m f
theorem cmR_lt {m : Int} (hm : 1 ≤ m) (f : Int × Int) : 0 ≤ cmR m f ∧ cmR m f < cmS m f := mod_lt (by have := (cmS_spec hm f).1; omega)
theorem cmR_cop {m : Int} (hm : 1 ≤ m) (f : Int × Int) : gcdI (cmR m f) (cmS m f) = 1 := by unfold cmR; rw [gcd_mod]; exact gcdI_one _
/-- a unit of the class as residue and place -/
theorem com_split {m : Int} (hs : Smooth m) (hm : 2 ≤ m) {f g : Int × Int} (hg : uniM m g) (h : comM m f g) :
    g.1 = cmR m f + cmS m f * ((g.1 / cmS m f).toNat : Int) ∧ ((g.1 / cmS m f).toNat : Int) < m / cmS m f ∧ Uf (cmR m f) (cmS m f) (dnL m (cmS m f)) (g.1 / cmS m f).toNat = 1 := by
  obtain ⟨s1, s2, s3, s4⟩ := cmS_spec (m := m) (by omega) f
  have hr := cmR_lt (m := m) (by omega) f
  have hsH : cmS m f * (m / cmS m f) = m := Int.mul_ediv_cancel' s2
  have h0 : 0 ≤ g.1 / cmS m f := Int.ediv_nonneg hg.1.1.1 (by omega)
  have e2 : (((g.1 / cmS m f).toNat : Nat) : Int) = g.1 / cmS m f := by omega
  have e : g.1 = cmR m f + cmS m f * (g.1 / cmS m f) := by
    have h1 := Int.mul_ediv_add_emod g.1 (cmS m f)
    have h2 : g.1 % cmS m f = 1 % cmS m f := emod_of_dvd (h.cls (by omega))
    unfold cmR
    omega
  rw [e2]
  refine ⟨e, ?_, ?_⟩
  · rcases Int.lt_or_le (g.1 / cmS m f) (m / cmS m f) with z | z
    · exact z
    · have := Int.mul_le_mul_of_nonneg_left z (show 0 ≤ cmS m f by omega)
      have := hg.1.1.2
      omega
  · rw [unit_iff hs s1 s2 (cmR_cop (by omega) f), ← e]
    exact hg.2
/-- the place in the last number -/
theorem com_low {m : Int} (hm : 2 ≤ m) {f g : Int × Int} (hg : redM m g) : 0 ≤ g.2 / cmK m f ∧ g.2 / cmK m f < cmN m f := by
  obtain ⟨n1, n2, n3, n4, n5, n6, n7⟩ := cmN_spec (m := m) (by omega) f
  have h0 : 0 ≤ g.2 / cmK m f := Int.ediv_nonneg hg.2.1 (by omega)
  refine ⟨h0, ?_⟩
  rcases Int.lt_or_le (g.2 / cmK m f) (cmN m f) with z | z
  · exact z
  · have h1 := Int.mul_le_mul_of_nonneg_right z (show 0 ≤ cmK m f by omega)
    have h2 := Int.mul_ediv_add_emod g.2 (cmK m f)
    have h3 := mod_lt (a := g.2) (b := cmK m f) (by omega)
    have := hg.2.2
    rw [Int.mul_comm (g.2 / cmK m f)] at h1
    omega
theorem pair_inj {n a b k l : Int} (hk : 0 ≤ k ∧ k < n) (hl : 0 ≤ l ∧ l < n) (e : a * n + k = b * n + l) : a = b ∧ k = l := by
  have h : a = b := by
    rcases Int.lt_trichotomy a b with z | z | z
    · have := Int.mul_le_mul_of_nonneg_right (show a + 1 ≤ b by omega) (show 0 ≤ n by omega)
      rw [Int.add_mul] at this
      omega
    · exact z
    · have := Int.mul_le_mul_of_nonneg_right (show b + 1 ≤ a by omega) (show 0 ≤ n by omega)
      rw [Int.add_mul] at this
      omega
  subst h
  exact ⟨rfl, by omega⟩
theorem pair_lt {n a b k l : Int} (hk : 0 ≤ k ∧ k < n) (hl : 0 ≤ l ∧ l < n) (e : a * n + k < b * n + l) : a < b ∨ (a = b ∧ k < l) := by
  rcases Int.lt_trichotomy a b with z | z | z
  · exact .inl z
  · subst z; exact .inr ⟨rfl, by omega⟩
  · have := Int.mul_le_mul_of_nonneg_right (show b + 1 ≤ a by omega) (show 0 ≤ n by omega)
    rw [Int.add_mul] at this
    omega
/-- two commuting maps with one multiplier -/
theorem com_same {m : Int} (hm : 2 ≤ m) {f g h : Int × Int} (hg : comM m f g) (hh : comM m f h) (e : g.1 = h.1) : cmK m f ∣ g.2 - h.2 := by
  obtain ⟨n1, n2, n3, n4, n5, n6, n7⟩ := cmN_spec (m := m) (by omega) f
  obtain ⟨x, hx⟩ := (comM_iff f g).mp hg
  obtain ⟨y, hy⟩ := (comM_iff f h).mp hh
  have h1 : m ∣ (g.2 - h.2) * (f.1 - 1) := ⟨y - x, by
    rw [Int.mul_sub m, ← hx, ← hy, e]
    grind⟩
  have := (prt_dvd (m := m) (by omega) (f.1 - 1) (g.2 - h.2)).mpr h1
  exact this
theorem idC_inj {m : Int} (hs : Smooth m) (hm : 2 ≤ m) {f g h : Int × Int} (hg : uniM m g) (hh : uniM m h) (cg : comM m f g) (ch : comM m f h) (e : idC m f g = idC m f h) : g = h := by
  obtain ⟨n1, n2, n3, n4, n5, n6, n7⟩ := cmN_spec (m := m) (by omega) f
  obtain ⟨e1, e2⟩ := pair_inj (com_low hm (f := f) hg.1) (com_low hm (f := f) hh.1) e
  obtain ⟨a1, a2, a3⟩ := com_split hs hm hg cg
  obtain ⟨b1, b2, b3⟩ := com_split hs hm hh ch
  have ht := cU_inj a3 b3 e1
  have h1 : g.1 = h.1 := by rw [a1, b1, ht]
  obtain ⟨z, hz⟩ := com_same hm cg ch h1
  have q1 := Int.mul_ediv_add_emod g.2 (cmK m f)
  have q2 := Int.mul_ediv_add_emod h.2 (cmK m f)
  have r1 := mod_lt (a := g.2) (b := cmK m f) (by omega)
  have r2 := mod_lt (a := h.2) (b := cmK m f) (by omega)
  rw [e2] at q1
  have hm2 : g.2 % cmK m f = h.2 % cmK m f := emod_of_dvd ⟨z, hz⟩
  exact Prod.ext h1 (by omega)
theorem idC_mono {m : Int} (hs : Smooth m) (hm : 2 ≤ m) {f g h : Int × Int} (hg : uniM m g) (hh : uniM m h) (cg : comM m f g) (ch : comM m f h) (e : idC m f g < idC m f h) : g.1 < h.1 ∨ (g.1 = h.1 ∧ g.2 < h.2) := by
  obtain ⟨n1, n2, n3, n4, n5, n6, n7⟩ := cmN_spec (m := m) (by omega) f
  obtain ⟨a1, a2, a3⟩ := com_split hs hm hg cg
  obtain ⟨b1, b2, b3⟩ := com_split hs hm hh ch
  have s1 := (cmS_spec (m := m) (by omega) f).1
  rcases pair_lt (com_low hm (f := f) hg.1) (com_low hm (f := f) hh.1) e with z | ⟨z, z2⟩
  · have ht := cU_lt z
    left
    rw [a1, b1]
    have := Int.mul_lt_mul_of_pos_left (show (((g.1 / cmS m f).toNat : Nat) : Int) < ((h.1 / cmS m f).toNat : Nat) by omega) (show 0 < cmS m f by omega)
    omega
  · have ht := cU_inj a3 b3 z
    refine .inr ⟨by rw [a1, b1, ht], ?_⟩
    rcases Int.lt_or_le g.2 h.2 with y | y
    · exact y
    · have := Int.ediv_le_ediv (show 0 < cmK m f by omega) y
      omega
theorem idC_bnd {m : Int} (hs : Smooth m) (hm : 2 ≤ m) {f g : Int × Int} (hg : uniM m g) (cg : comM m f g) : 0 ≤ idC m f g ∧ idC m f g < cmU m f * cmN m f := by
  obtain ⟨n1, n2, n3, n4, n5, n6, n7⟩ := cmN_spec (m := m) (by omega) f
  obtain ⟨a1, a2, a3⟩ := com_split hs hm hg cg
  have hl := com_low hm (f := f) hg.1
  have h0 := (cU_bnd (cmR m f) (cmS m f) (dnL m (cmS m f)) (g.1 / cmS m f).toNat).1
  have h1 := cU_step a3 (show (g.1 / cmS m f).toNat < (m / cmS m f).toNat by omega)
  have h2 := Int.mul_le_mul_of_nonneg_right h1 (show 0 ≤ cmN m f by omega)
  have h3 := Int.mul_nonneg h0 (show 0 ≤ cmN m f by omega)
  rw [Int.add_mul] at h2
  unfold idC cmU cmC
  omega
theorem com_alg {n F s tt r z w k : Int} (e : F * r = s * w + 1) : n * tt - (n * F) * (tt * r - s * z + s * k) = (n * s) * (-(tt * w) + F * z - F * k) := by
  grind
/-- the map at an index -/
theorem com_at {m : Int} (hs : Smooth m) (hm : 2 ≤ m) {f : Int × Int} {i F s tt r : Int} {t : Nat} (ht : (t : Int) < m / cmS m f) (hu : Uf (cmR m f) (cmS m f) (dnL m (cmS m f)) t = 1) (hc : cmC m f t = i / cmN m f)
    (h1 : cmN m f * F = f.1 - 1) (h2 : cmN m f * s = m) (h3 : (cmR m f + cmS m f * t - 1) * f.2 = cmN m f * tt) (h4 : 0 < s) (h6 : s ∣ F * r - 1) :
    let g := (cmR m f + cmS m f * (t : Int), (tt * r) % s + s * (i % cmN m f))
    uniM m g ∧ comM m f g ∧ idC m f g = i ∧ 0 ≤ g.1 ∧ g.1 < m := by
  obtain ⟨n1, n2, n3, n4, n5, n6, n7⟩ := cmN_spec (m := m) (by omega) f
  obtain ⟨s1, s2, s3, s4⟩ := cmS_spec (m := m) (by omega) f
  have hr := cmR_lt (m := m) (by omega) f
  have hsH : cmS m f * (m / cmS m f) = m := Int.mul_ediv_cancel' s2
  have hb : cmS m f * (t : Int) ≤ cmS m f * (m / cmS m f - 1) := Int.mul_le_mul_of_nonneg_left (by omega) (by omega)
  have hb0 : 0 ≤ cmS m f * (t : Int) := Int.mul_nonneg (by omega) (by omega)
  rw [Int.mul_sub, hsH] at hb
  have hk := mod_lt (a := i) (b := cmN m f) (by omega)
  have hst := mod_lt (a := tt * r) (b := s) h4
  have hsk : s = cmK m f := Int.eq_of_mul_eq_mul_left (show cmN m f ≠ 0 by omega) (h2.trans n5.symm)
  have hsk2 : s * (i % cmN m f) ≤ s * (cmN m f - 1) := Int.mul_le_mul_of_nonneg_left (by omega) (by omega)
  have hsk3 : 0 ≤ s * (i % cmN m f) := Int.mul_nonneg (by omega) (by omega)
  rw [Int.mul_sub, Int.mul_comm s (cmN m f), h2] at hsk2
  have hdiv : ((tt * r) % s + s * (i % cmN m f)) / s = i % cmN m f := by
    rw [Int.add_mul_ediv_left _ _ (by omega), Int.ediv_eq_zero_of_lt hst.1 hst.2]
    omega
  have hdc : (cmR m f + cmS m f * (t : Int)) / cmS m f = t := by
    rw [Int.add_mul_ediv_left _ _ (by omega), Int.ediv_eq_zero_of_lt hr.1 hr.2]
    omega
  refine ⟨⟨⟨⟨by omega, by omega⟩, by omega, by show _ < m; omega⟩, ?_⟩, ?_, ?_, by omega, by show cmR m f + cmS m f * (t : Int) < m; omega⟩
  · exact (unit_iff hs s1 s2 (cmR_cop (by omega) f) t).mp hu
  · rw [comM_iff]
    obtain ⟨z, hz⟩ := dvd_sub_emod (tt * r) s
    obtain ⟨w, hw⟩ := h6
    show m ∣ (cmR m f + cmS m f * (t : Int) - 1) * f.2 - (f.1 - 1) * ((tt * r) % s + s * (i % cmN m f))
    rw [h3]
    have e1 : (tt * r) % s = tt * r - s * z := by omega
    have e2 : F * r = s * w + 1 := by omega
    rw [e1]
    rw [← h1]
    have := com_alg (n := cmN m f) (tt := tt) (z := z) (k := i % cmN m f) e2
    rw [h2] at this
    exact ⟨_, this⟩
  · show cmC m f ((cmR m f + cmS m f * (t : Int)) / cmS m f).toNat * cmN m f + ((tt * r) % s + s * (i % cmN m f)) / cmK m f = i
    rw [hdc, ← hsk, hdiv, show ((t : Int)).toNat = t by omega, hc, Int.mul_comm]
    exact Int.mul_ediv_add_emod i (cmN m f)
theorem cmU_bnd {m : Int} (hm : 1 ≤ m) (f : Int × Int) : 1 ≤ cmU m f ∧ cmU m f ≤ m ∧ cmU m f = ucF (dnL m (cmS m f)) (m / cmS m f) := by
  obtain ⟨s1, s2, s3, s4⟩ := cmS_spec hm f
  have h1 := cU_pos (r := cmR m f) hm s1 s2
  have h2 := (cU_bnd (cmR m f) (cmS m f) (dnL m (cmS m f)) (m / cmS m f).toNat).2
  have h3 : m / cmS m f ≤ m := Int.ediv_le_self _ (by omega)
  have h4 : 0 ≤ m / cmS m f := Int.ediv_nonneg (by omega) (by omega)
  have h5 := cU_count (cmR m f) hm s1 s2
  unfold cmU cmC
  exact ⟨by omega, by omega, h5⟩
/-! maps that commute -/
theorem comM.mul {m : Int} {f g h : Int × Int} (hg : comM m f g) (hh : comM m f h) : comM m f (cmpM m g h) := by
  unfold comM at *
  rw [← cmp_assoc, hg, cmp_assoc, hh, cmp_assoc]
theorem comM.one {m : Int} (hm : 2 ≤ m) {f : Int × Int} (hf : uniM m f) : comM m f (1, 0) := by
  unfold comM
  have h1 := pwI_comm hm hf 1 0
  rw [pwI_one hf.1, pwI_zero] at h1
  exact h1
theorem comM.inv {m : Int} (hm : 2 ≤ m) {f g : Int × Int} (hf : uniM m f) (hg : uniM m g) (h : comM m f g) : comM m f (invM m g) := by
  unfold comM at *
  have hi := inv_uni hm hg
  have h1 : cmpM m g (cmpM m (invM m g) f) = cmpM m g (cmpM m f (invM m g)) := by
    rw [← cmp_assoc, cmp_inv_r hm hg, ← cmp_assoc, ← h, cmp_assoc, cmp_inv_r hm hg]
    have h2 := pwI_comm hm hf 0 1
    rw [pwI_one hf.1, pwI_zero] at h2
    exact h2
  exact (cmp_cancel_l hm hg (cmp_red (by omega) _ _) (cmp_red (by omega) _ _) h1).symm

end Gm
namespace Gm
open PySem PySem.Spec PyProof.Rows L2 DL
noncomputable def g_commuting_units (C_Units : Addr) : GS := sSeq (sSet 2 (eCallN 2 m_gcd [] (aCons (eKeep (eBin gSub (eBin gIx (eVar 1) (eC (.int 0))) (eC (.int 1)))) (aCons (eKeep (eVar 0)) (aNil)))))
  (sRet (eMake C_Units 4 (m_Units_init C_Units) [] (aCons (eKeep (eVar 0)) (aCons (eKeep (eC (.int 1))) (aCons (eKeep (eBin gFdiv (eVar 2) (eCallN 2 m_gcd [] (aCons (eKeep (eBin gIx (eVar 1) (eC (.int 1)))) (aCons (eKeep (eVar 2)) (aNil)))))) (aNil))))))
noncomputable def m_commuting_units (C_Units : Addr) : MF := runD 3 (g_commuting_units C_Units)
theorem commuting_units_ok (C : Addr) (m : Int) (f : Int × Int) (hm : 2 ≤ m ∧ m ≤ 1000000000) (hf : redM m f) {Q : Cell → List Cell → Prop} {X : Exc → List Cell → Prop}
    (q : ∀ ws : List Row, SieveOk (cmR m f) (cmS m f) (dnL m (cmS m f)) ws → Q (.ow (uTag C) (uFs m (cmS m f) (cmR m f) ws)) [.sh (.leaf (.int m)), .sh (pD f)]) :
    evM (m_commuting_units C) [.sh (.leaf (.int m)), .sh (pD f)] Q X := by
  obtain ⟨n1, n2, n3, n4, n5, n6, n7⟩ := cmN_spec (m := m) (by omega) f
  obtain ⟨s1, s2, s3, s4⟩ := cmS_spec (m := m) (by omega) f
  have hg := gcdI_le (a := f.2) (m := cmN m f) (by omega)
  have e1 : gcdI (f.1 - 1) m = cmN m f := rfl
  have e2 : cmN m f / gcdI f.2 (cmN m f) = cmS m f := rfl
  refine evDef _ (by rfl) ?_
  unfold g_commuting_units
  repeat' walk_at "ev"
  refine gcd_ok (f.1 - 1) m ?_
  rw [e1]
  repeat' walk_at "ev"
  refine gcd_ok f.2 (cmN m f) ?_
  repeat' walk_at "ev"
  rw [e2]
  refine units_init_ok C m 1 (cmS m f) (by omega) (by omega) (by unfold sm; omega) fun ws hW => ?_
  repeat' walk_at "ev"
  exact q ws hW

end Gm
namespace Gm
open PySem PySem.Spec PyProof.Rows L2 DL
noncomputable def g_commuting_count (C_Units : Addr) : GS := sRet (eBin gMul (eMethN C_Units "count" 1 (m_Units_count C_Units) [] (eKeep (eCallN 2 (m_commuting_units C_Units) [] (aCons (eKeep (eVar 0)) (aCons (eKeep (eVar 1)) (aNil))))) aNil) (eCallN 2 m_gcd [] (aCons (eKeep (eBin gSub (eBin gIx (eVar 1) (eC (.int 0))) (eC (.int 1)))) (aCons (eKeep (eVar 0)) (aNil)))))
noncomputable def m_commuting_count (C_Units : Addr) : MF := runD 2 (g_commuting_count C_Units)
theorem commuting_count_ok (C : Addr) (m : Int) (f : Int × Int) (hm : 2 ≤ m ∧ m ≤ 1000000000) (hf : redM m f) {Q : Cell → List Cell → Prop} {X : Exc → List Cell → Prop}
    (q : Q (.sh (.leaf (.int (cmU m f * cmN m f)))) [.sh (.leaf (.int m)), .sh (pD f)]) :
    evM (m_commuting_count C) [.sh (.leaf (.int m)), .sh (pD f)] Q X := by
  obtain ⟨n1, n2, n3, n4, n5, n6, n7⟩ := cmN_spec (m := m) (by omega) f
  obtain ⟨s1, s2, s3, s4⟩ := cmS_spec (m := m) (by omega) f
  have hu := cmU_bnd (m := m) (by omega) f
  have e1 : gcdI (f.1 - 1) m = cmN m f := rfl
  refine evDef _ (by rfl) ?_
  unfold g_commuting_count
  repeat' walk_at "ev"
  refine commuting_units_ok C m f hm hf fun ws hW => ?_
  repeat' walk_at "ev"
  refine units_count_ok C m (cmS m f) _ _ ws (by omega) (by omega) hW ?_
  rw [show cU (cmR m f) (cmS m f) (dnL m (cmS m f)) (m / cmS m f).toNat = cmU m f from rfl]
  repeat' walk_at "ev"
  refine gcd_ok (f.1 - 1) m ?_
  rw [e1]
  repeat' walk_at "ev"
  exact q

end Gm
namespace Gm
open PySem PySem.Spec PyProof.Rows L2 DL
noncomputable def g_commuting_at (C_OutOfRange C_Units : Addr) : GS := sSeq (sIf (tNotD (tOf (eCallN 3 m_is_between [] (aCons (eKeep (eVar 2)) (aCons (eKeep (eC (.int 0))) (aCons (eKeep (eBin gSub (eCallN 2 (m_commuting_count C_Units) [] (aCons (eKeep (eVar 0)) (aCons (eKeep (eVar 1)) (aNil)))) (eC (.int 1)))) (aNil))))))) (sRaise C_OutOfRange ["value"] (aCons (eKeep (eVar 2)) (aNil))) (sNil))
  (sSeq (sSet 3 (eCallN 2 m_gcd [] (aCons (eKeep (eBin gSub (eBin gIx (eVar 1) (eC (.int 0))) (eC (.int 1)))) (aCons (eKeep (eVar 0)) (aNil)))))
  (sSeq (sSet 4 (eMethN C_Units "at" 2 (m_Units_at C_Units) [] (eKeep (eCallN 2 (m_commuting_units C_Units) [] (aCons (eKeep (eVar 0)) (aCons (eKeep (eVar 1)) (aNil))))) (aCons (eKeep (eBin gFdiv (eVar 2) (eVar 3))) (aNil))))
  (sSeq (sAsg (pTup 2 (pCons (pNm 5) (pCons (pNm 6) (pNil)))) (eCallN 3 m_solution [] (aCons (eKeep (eVar 0)) (aCons (eKeep (eBin gSub (eBin gIx (eVar 1) (eC (.int 0))) (eC (.int 1)))) (aCons (eKeep (eBin gMul (eBin gSub (eVar 4) (eC (.int 1))) (eBin gIx (eVar 1) (eC (.int 1))))) (aNil))))))
  (sRet (eOfL gTupD (aCons (eKeep (eVar 4)) (aCons (eKeep (eBin gAdd (eVar 5) (eBin gMul (eVar 6) (eBin gMod (eVar 2) (eVar 3))))) (aNil))))))))
noncomputable def m_commuting_at (C_OutOfRange C_Units : Addr) : MF := runD 7 (g_commuting_at C_OutOfRange C_Units)
theorem commuting_at_ok (CO C : Addr) (m i : Int) (f : Int × Int) (hm : 2 ≤ m ∧ m ≤ 1000000000) (hs : Smooth m) (hf : redM m f) (hi : 0 ≤ i ∧ i < cmU m f * cmN m f) {Q : Cell → List Cell → Prop} {X : Exc → List Cell → Prop}
    (q : ∀ g, uniM m g → comM m f g → idC m f g = i → Q (.sh (pD g)) [.sh (.leaf (.int m)), .sh (pD f), .sh (.leaf (.int i))]) :
    evM (m_commuting_at CO C) [.sh (.leaf (.int m)), .sh (pD f), .sh (.leaf (.int i))] Q X := by
  obtain ⟨n1, n2, n3, n4, n5, n6, n7⟩ := cmN_spec (m := m) (by omega) f
  obtain ⟨s1, s2, s3, s4⟩ := cmS_spec (m := m) (by omega) f
  have hu := cmU_bnd (m := m) (by omega) f
  have hr := cmR_lt (m := m) (by omega) f
  have e1 : gcdI (f.1 - 1) m = cmN m f := rfl
  have hf1 := hf.1
  have hf2 := hf.2
  have hprod : cmU m f * cmN m f ≤ 1000000000 * 1000000000 := Int.mul_le_mul (by omega) (by omega) (by omega) (by omega)
  have hq0 : 0 ≤ i / cmN m f := Int.ediv_nonneg hi.1 (by omega)
  have hq1 := Int.mul_ediv_add_emod i (cmN m f)
  have hq2 := mod_lt (a := i) (b := cmN m f) (by omega)
  have hq3 : i / cmN m f < cmU m f := by
    rcases Int.lt_or_le (i / cmN m f) (cmU m f) with z | z
    · exact z
    · have := Int.mul_le_mul_of_nonneg_right z (show 0 ≤ cmN m f by omega)
      rw [Int.mul_comm (i / cmN m f)] at this
      omega
  refine evDef _ (by rfl) ?_
  unfold g_commuting_at
  repeat' walk_at "ev"
  refine commuting_count_ok C m f hm hf ?_
  repeat' walk_at "ev"
  refine is_between_ok (n := "int") rfl 0 (cmU m f * cmN m f - 1) ?_
  rw [btw_t (by omega)]
  repeat' walk_at "ev"
  refine gcd_ok (f.1 - 1) m ?_
  rw [e1]
  repeat' walk_at "ev"
  refine commuting_units_ok C m f hm hf fun ws hW => ?_
  repeat' walk_at "ev"
  refine units_at_ix C m (cmS m f) (cmR m f) (i / cmN m f) (dnL m (cmS m f)) ws (by omega) s1 hr s2 hW ⟨hq0, hq3⟩ fun t h1 h2 h3 => ?_
  have hsH : cmS m f * (m / cmS m f) = m := Int.mul_ediv_cancel' s2
  have hb : cmS m f * (t : Int) ≤ cmS m f * (m / cmS m f - 1) := Int.mul_le_mul_of_nonneg_left (by omega) (by omega)
  have hb0 : 0 ≤ cmS m f * (t : Int) := Int.mul_nonneg (by omega) (by omega)
  rw [Int.mul_sub, hsH] at hb
  have hcd : cmN m f ∣ (cmR m f + cmS m f * (t : Int) - 1) * f.2 := by
    refine (s4 _).mp ?_
    obtain ⟨z, hz⟩ := dvd_sub_emod 1 (cmS m f)
    exact ⟨t - z, by rw [Int.mul_sub]; unfold cmR; omega⟩
  generalize hc : cmR m f + cmS m f * (t : Int) = c at hcd ⊢
  have hcb : 0 ≤ c ∧ c < m := by omega
  have hp1 : -(1000000000 * 1000000000) ≤ (c - 1) * f.2 ∧ (c - 1) * f.2 ≤ 1000000000 * 1000000000 := by
    rcases Int.lt_or_le 0 c with z | z
    · have h1 := Int.mul_le_mul (show c - 1 ≤ 1000000000 by omega) (show f.2 ≤ 1000000000 by omega) (by omega) (by omega)
      have h2 := Int.mul_nonneg (show 0 ≤ c - 1 by omega) (show 0 ≤ f.2 by omega)
      omega
    · rw [show c = 0 by omega]
      omega
  repeat' walk_at "ev"
  refine solution_ok m (f.1 - 1) ((c - 1) * f.2) (by omega) (by unfold sm; omega) (by unfold sm; omega) (fun h => ?_) fun F s tt r k1 k2 k3 k4 k5 k6 => ?_
  · rw [e1] at h
    exact (h (Int.emod_eq_zero_of_dvd hcd)).elim
  · rw [e1] at k1 k2 k3
    have hat := com_at hs hm.1 h1 h2 h3 k1 k2 (by rw [hc]; exact k3) k4 k6
    rw [hc] at hat
    obtain ⟨w1, w2, w3, w4, w5⟩ := hat
    have hst := mod_lt (a := tt * r) (b := s) k4
    have hsk2 : s * (i % cmN m f) ≤ 1000000000 * 1000000000 := Int.mul_le_mul (by omega) (by omega) (by omega) (by omega)
    have hsk3 : 0 ≤ s * (i % cmN m f) := Int.mul_nonneg (by omega) (by omega)
    have hq := q _ w1 w2 w3
    repeat' walk_at "ev"
    exact hq
end Gm
namespace Gm
open PySem PySem.Spec PyProof.Rows L2 DL
noncomputable def g_Units_index_of (C_Units : Addr) : GS := sRet (eMethN C_Units "count_below" 2 (m_Units_count_below C_Units) [] (eKeep (eVar 0)) (aCons (eKeep (eBin gFdiv (eVar 1) (eUn (gFld C_Units "stride") (eVar 0)))) (aNil)))
noncomputable def m_Units_index_of (C_Units : Addr) : MF := runD 2 (g_Units_index_of C_Units)
theorem units_index_ok (C : Addr) (m s r u : Int) (dn : List Int) (ws : List Row) (hu : 0 ≤ u ∧ u ≤ 1000000000) (hs : 1 ≤ s ∧ s ≤ 1000000000) (hS : SieveOk r s dn ws) {Q : Cell → List Cell → Prop} {X : Exc → List Cell → Prop}
    (q : Q (.sh (.leaf (.int (cU r s dn (u / s).toNat)))) [.sh (.node (uTag C) (uFs m s r ws)), .sh (.leaf (.int u))]) :
    evM (m_Units_index_of C) [.sh (.node (uTag C) (uFs m s r ws)), .sh (.leaf (.int u))] Q X := by
  have hH : u / s ≤ u := Int.ediv_le_self _ (by omega)
  have hH0 : 0 ≤ u / s := Int.ediv_nonneg (by omega) (by omega)
  refine evDef _ (by rfl) ?_
  unfold g_Units_index_of
  repeat' walk_at "ev"
  refine count_below_ok C m s r (u / s) dn ws (by omega) hS ?_
  have e := hS.cnt (u / s).toNat
  rw [show (((u / s).toNat : Nat) : Int) = u / s by omega] at e
  rw [e]
  repeat' walk_at "ev"
  exact q

end Gm
namespace Gm
open PySem PySem.Spec PyProof.Rows L2 DL
noncomputable def g_is_map : GS := sSeq (sIf (tOrD (tNotD (tOf (eBI gIsi (aCons (eVar 1) (aCons (eC (.ty "tuple")) (aNil)))))) (tOf (eBin gNe (eBI gLen (aCons (eVar 1) (aNil))) (eC (.int 2))))) (sRet (eC (.bl false))) (sNil))
  (sSeq (sIf (tNotD (tOf (eBI gAll (aCons (eLc (iSeq (eVar 1)) (pNm 2) (tYesD) (eCallN 3 m_is_between [] (aCons (eKeep (eVar 2)) (aCons (eKeep (eC (.int 0))) (aCons (eKeep (eBin gSub (eVar 0) (eC (.int 1)))) (aNil))))) [2]) (aNil))))) (sRet (eC (.bl false))) (sNil))
  (sRet (eBin gEq (eCallN 2 m_gcd [] (aCons (eKeep (eBin gIx (eVar 1) (eC (.int 0)))) (aCons (eKeep (eVar 0)) (aNil)))) (eC (.int 1)))))
noncomputable def m_is_map : MF := runD 3 g_is_map
theorem is_map_map (m a b : Int) (ha : 0 ≤ a ∧ a < m) (hb : 0 ≤ b ∧ b < m) (hg : gcdI a m = 1) {Q : Cell → List Cell → Prop} {X : Exc → List Cell → Prop}
    (q : Q (.sh (.leaf (.bl true))) [.sh (.leaf (.int m)), .sh (mpD a b)]) : evM m_is_map [.sh (.leaf (.int m)), .sh (mpD a b)] Q X := by
  refine evDef _ (by rfl) ?_
  unfold g_is_map
  repeat' walk_at "ev"
  refine evLcCons ?_
  repeat' walk_at "ev"
  refine is_between_ok (n := "int") rfl 0 (m - 1) ?_
  rw [show btw 0 (m - 1) (.leaf (.int a)) = (decide (0 ≤ a) && decide (a ≤ m - 1)) from rfl, decide_eq_true ha.1, decide_eq_true (show a ≤ m - 1 by omega)]
  repeat' walk_at "ev"
  refine ⟨by decide, evLcCons ?_⟩
  repeat' walk_at "ev"
  refine is_between_ok (n := "int") rfl 0 (m - 1) ?_
  rw [show btw 0 (m - 1) (.leaf (.int b)) = (decide (0 ≤ b) && decide (b ≤ m - 1)) from rfl, decide_eq_true hb.1, decide_eq_true (show b ≤ m - 1 by omega)]
  repeat' walk_at "ev"
  refine ⟨by decide, evLcNil ?_⟩
  repeat' walk_at "ev"
  refine vAll (bs := [true, true]) rfl ?_
  rw [show ([true, true].all id) = true from rfl]
  repeat' walk_at "ev"
  refine gcd_ok a m ?_
  rw [hg]
  repeat' walk_at "ev"
  exact q
theorem is_map_gen (m : Int) {d : D} (h : tyD d) (h2 : ∀ ds, d = .node .tup ds → ∀ e ∈ ds, tyD e) {Q : Cell → List Cell → Prop} {X : Exc → List Cell → Prop}
    (q : Q (.sh (.leaf (.bl (isMapD m d)))) [.sh (.leaf (.int m)), .sh d]) : evM m_is_map [.sh (.leaf (.int m)), .sh d] Q X := by
  obtain ⟨n, hn⟩ := h
  refine evDef _ (by rfl) ?_
  unfold g_is_map
  rcases ty_cases hn with ⟨ds, rfl⟩ | ⟨hc, hno⟩
  · repeat' walk_at "ev"
    · rename_i hl
      have hl' : ds.length = 2 := by omega
      obtain ⟨a, b, rfl⟩ : ∃ a b, ds = [a, b] := by
        match ds, hl' with
        | [a, b], _ => exact ⟨a, b, rfl⟩
      obtain ⟨na, ha⟩ := h2 _ rfl a (by simp)
      obtain ⟨nb, hb⟩ := h2 _ rfl b (by simp)
      have e : isMapD m (.node .tup [a, b]) = (btw 0 (m - 1) a && btw 0 (m - 1) b && uniI m a) := rfl
      rw [e] at q
      refine evLcCons ?_
      repeat' walk_at "ev"
      refine is_between_ok ha 0 (m - 1) ?_
      repeat' walk_at "ev"
      refine ⟨by simp, evLcCons ?_⟩
      repeat' walk_at "ev"
      refine is_between_ok hb 0 (m - 1) ?_
      repeat' walk_at "ev"
      refine ⟨by simp, evLcNil ?_⟩
      repeat' walk_at "ev"
      refine vAll (bs := [btw 0 (m - 1) a, btw 0 (m - 1) b]) rfl ?_
      rw [show [btw 0 (m - 1) a, btw 0 (m - 1) b].all id = (btw 0 (m - 1) a && btw 0 (m - 1) b) by simp [List.all]]
      cases hz : (btw 0 (m - 1) a && btw 0 (m - 1) b) with
      | false =>
        rw [hz, Bool.false_and] at q
        repeat' walk_at "ev"
        exact q
      | true =>
        rw [hz, Bool.true_and] at q
        obtain ⟨i, rfl⟩ : ∃ i, a = .leaf (.int i) := by
          rcases isIntD_cases ha with h | ⟨h, _⟩
          · exact h
          · rw [btw_not 0 (m - 1) h] at hz
            cases hz
        repeat' walk_at "ev"
        refine gcd_ok i m ?_
        repeat' walk_at "ev"
        exact q
    · rename_i hl
      rw [isMapD_not fun a b e => by cases e; exact hl rfl] at q
      exact q
  · rw [isMapD_not fun a b => hno _] at q
    rcases hc with rfl | rfl | rfl | rfl | rfl | rfl
    all_goals
      repeat' (first | walk_at "ev" | with_reducible refine vIsi hn (by with_unfolding_all exact rfl) ?_)
      exact q

end Gm
namespace Gm
open PySem PySem.Spec PyProof.Rows L2 DL
noncomputable def g_commuting_index (C_Units : Addr) : GS := sSeq (sIf (tOrD (tNotD (tOf (eCallN 2 m_is_map [] (aCons (eKeep (eVar 0)) (aCons (eKeep (eVar 2)) (aNil)))))) (tOf (eBin gNe (eCallN 3 m_compose [] (aCons (eKeep (eVar 0)) (aCons (eKeep (eVar 1)) (aCons (eKeep (eVar 2)) (aNil))))) (eCallN 3 m_compose [] (aCons (eKeep (eVar 0)) (aCons (eKeep (eVar 2)) (aCons (eKeep (eVar 1)) (aNil)))))))) (sRet (eC .non)) (sNil))
  (sSeq (sSet 3 (eCallN 2 m_gcd [] (aCons (eKeep (eBin gSub (eBin gIx (eVar 1) (eC (.int 0))) (eC (.int 1)))) (aCons (eKeep (eVar 0)) (aNil)))))
  (sRet (eBin gAdd (eBin gMul (eMethN C_Units "index_of" 2 (m_Units_index_of C_Units) [] (eKeep (eCallN 2 (m_commuting_units C_Units) [] (aCons (eKeep (eVar 0)) (aCons (eKeep (eVar 1)) (aNil))))) (aCons (eKeep (eBin gIx (eVar 2) (eC (.int 0)))) (aNil))) (eVar 3)) (eBin gFdiv (eBin gIx (eVar 2) (eC (.int 1))) (eBin gFdiv (eVar 0) (eVar 3))))))
noncomputable def m_commuting_index (C_Units : Addr) : MF := runD 4 (g_commuting_index C_Units)
theorem commuting_index_ok (C : Addr) (m : Int) (f g : Int × Int) (hm : 2 ≤ m ∧ m ≤ 1000000000) (hs : Smooth m) (hf : redM m f) (hg : uniM m g) (h : comM m f g) {Q : Cell → List Cell → Prop} {X : Exc → List Cell → Prop}
    (q : Q (.sh (.leaf (.int (idC m f g)))) [.sh (.leaf (.int m)), .sh (pD f), .sh (pD g)]) :
    evM (m_commuting_index C) [.sh (.leaf (.int m)), .sh (pD f), .sh (pD g)] Q X := by
  obtain ⟨n1, n2, n3, n4, n5, n6, n7⟩ := cmN_spec (m := m) (by omega) f
  obtain ⟨s1, s2, s3, s4⟩ := cmS_spec (m := m) (by omega) f
  have e1 : gcdI (f.1 - 1) m = cmN m f := rfl
  have e2 : m / cmN m f = cmK m f := rfl
  have hf1 := hf.1
  have hf2 := hf.2
  have hg1 := hg.1.1
  have hg2 := hg.1.2
  refine evDef _ (by rfl) ?_
  unfold g_commuting_index
  repeat' walk_at "ev"
  refine is_map_map m g.1 g.2 hg1 hg2 hg.2 ?_
  repeat' walk_at "ev"
  refine compose_ok m f.1 f.2 g.1 g.2 (by omega) (by unfold sm; omega) (by unfold sm; omega) (by unfold sm; omega) (by unfold sm; omega) ?_
  repeat' walk_at "ev"
  refine compose_ok m g.1 g.2 f.1 f.2 (by omega) (by unfold sm; omega) (by unfold sm; omega) (by unfold sm; omega) (by unfold sm; omega) ?_
  repeat' walk_at "ev"
  refine vNe (eqD_pD (cmpM m f g) (cmpM m g f)) ?_
  rw [decide_eq_true (show cmpM m f g = cmpM m g f from h)]
  have hlow := com_low hm.1 (f := f) hg.1
  have hub := idC_bnd hs hm.1 hg h
  have hu := cmU_bnd (m := m) (by omega) f
  have hcu := (cU_bnd (cmR m f) (cmS m f) (dnL m (cmS m f)) (g.1 / cmS m f).toNat)
  have hdq : 0 ≤ g.1 / cmS m f ∧ g.1 / cmS m f ≤ g.1 := ⟨Int.ediv_nonneg hg1.1 (by omega), Int.ediv_le_self _ hg1.1⟩
  repeat' walk_at "ev"
  refine gcd_ok (f.1 - 1) m ?_
  rw [e1]
  repeat' walk_at "ev"
  refine commuting_units_ok C m f hm hf fun ws hW => ?_
  repeat' walk_at "ev"
  refine units_index_ok C m (cmS m f) _ g.1 _ ws (by omega) (by omega) hW ?_
  repeat' walk_at "ev"
  exact q

end Gm
namespace Gm
open PySem PySem.Spec PyProof.Rows L2 DL

end Gm
namespace Gm
open PySem PySem.Spec PyProof.Rows L2 DL

end Gm
namespace Gm
open PySem PySem.Spec PyProof.Rows L2 DL

/-- N is the order -/
def isOrd (m : Int) (f : Int × Int) (N : Nat) : Prop := 0 < N ∧ ∀ k : Nat, pw m f k = (1, 0) ↔ N ∣ k
theorem isOrd.uniq {m : Int} {f : Int × Int} {n n' : Nat} (h : isOrd m f n) (h' : isOrd m f n') : n = n' :=
  Nat.dvd_antisymm ((h.2 n').mp ((h'.2 n').mpr (Nat.dvd_refl _))) ((h'.2 n).mp ((h.2 n).mpr (Nat.dvd_refl _)))
end Gm
namespace Gm
open PySem PySem.Spec PyProof.Rows L2 DL
end Gm
namespace Gm
open PySem PySem.Spec PyProof.Rows L2 DL
end Gm
namespace Gm
open PySem PySem.Spec PyProof.Rows L2 DL
end Gm
namespace Gm
open PySem PySem.Spec PyProof.Rows L2 DL

theorem law_compose_p {m : Int} {f g : Int × Int} (hm : 2 ≤ m ∧ m ≤ 1000000000000) (hf : redM m f) (hg : redM m g) {Q : Cell → List Cell → Prop} {X : Exc → List Cell → Prop}
    (q : Q (.sh (pD (cmpM m f g))) [.sh (.leaf (.int m)), .sh (pD f), .sh (pD g)]) : evM m__law_compose [.sh (.leaf (.int m)), .sh (pD f), .sh (pD g)] Q X :=
  law_compose_ok m f.1 f.2 g.1 g.2 (by omega) (red_sm hm.2 hf).1 (red_sm hm.2 hf).2 (red_sm hm.2 hg).1 (red_sm hm.2 hg).2 q
theorem law_map_p (ns : List Int) (t r m : Int) (ht : 0 ≤ t ∧ t < 10000000000000000000000000000) (hr : 0 ≤ r) (hm : 2 ≤ m ∧ m ≤ 1000000000) {Q : Cell → List Cell → Prop} {X : Exc → List Cell → Prop}
    (q : ∀ (f : Int × Int) (t' r' : Int), uniM m f → 0 ≤ t' → t' ≤ t + 6 → 0 ≤ r' → Q (.sh (pD f)) [penC ns t' r', .sh (.leaf (.int m))]) :
    evM m__law_map [penC ns t r, .sh (.leaf (.int m))] Q X :=
  map_ok ns t r m ht hr hm fun a b t' r' c1 c2 c3 c4 c5 c6 c7 c8 => q (a, b) t' r' ⟨⟨⟨by omega, c2⟩, c4, c5⟩, c3⟩ c6 c7 c8

end Gm
namespace Gm
open PySem PySem.Spec PyProof.Rows L2 DL
end Gm
namespace Gm
open PySem PySem.Spec PyProof.Rows L2 DL
end Gm
namespace Gm
open PySem PySem.Spec PyProof.Rows L2 DL

end Gm
namespace Gm
open PySem PySem.Spec PyProof.Rows L2 DL
theorem lastI_orb (m : Int) (f : Int × Int) (y : Int) (k : Nat) : lastI (orb m f y (k + 1)) = sq m f y k := by rw [orb_succ, lastI_snoc]
theorem orb_ne (m : Int) (f : Int × Int) (y : Int) (k : Nat) : orb m f y (k + 1) ≠ [] := by rw [orb_succ]; simp
theorem atI_orb {m : Int} {f : Int × Int} {y : Int} {n k : Nat} (h : k < n) : atI (intsD (orb m f y n)) (k : Int) = some (.leaf (.int (sq m f y k))) := by
  refine DL.atI_nat ?_
  unfold intsD
  rw [List.getElem?_map, orb_get h]
  rfl
theorem vIxOrbL {Γ : Gam} {Q : Cell → Gam → Prop} {m : Int} {f : Int × Int} {y : Int} {k : Nat} (q : Q (.sh (.leaf (.int (sq m f y k)))) Γ) : evG (gIx (.node .lst (intsD (orb m f y (k + 1)))) (.leaf (.int (-1)))) Γ Q :=
  vIxLast (orb_ne m f y k) (by rw [lastI_orb]; exact q)
theorem vIxOrb0 {Γ : Gam} {Q : Cell → Gam → Prop} {m : Int} {f : Int × Int} {y : Int} {k : Nat} (q : Q (.sh (.leaf (.int (sq m f y 0)))) Γ) : evG (gIx (.node .lst (intsD (orb m f y (k + 1)))) (.leaf (.int 0))) Γ Q :=
  vIxL (atI_orb (k := 0) (Nat.succ_pos k)) q
local macro_rules | `(tactic| walk_at "evg") => `(tactic| first | with_reducible refine vIxOrbL ?_ | with_reducible refine vIxOrb0 ?_ | fail)
end Gm
namespace Gm
open PySem PySem.Spec PyProof.Rows L2 DL
local macro_rules | `(tactic| walk_at "evg") => `(tactic| first | with_reducible refine vIxOrbL ?_ | fail)
end Gm
namespace Gm
open PySem PySem.Spec PyProof.Rows L2 DL

end Gm
namespace Gm
open PySem PySem.Spec PyProof.Rows L2 DL
def pws (m : Int) (f : Int × Int) (n : Nat) : List (Int × Int) := (List.range n).map (pw m f)
abbrev mapsD (l : List (Int × Int)) : List D := l.map pD
theorem pws_succ (m : Int) (f : Int × Int) (n : Nat) : mapsD (pws m f (n + 1)) = mapsD (pws m f n) ++ [pD (pw m f n)] := by unfold pws; rw [List.range_succ, List.map_append]; simp
theorem vIxPwL {Γ : Gam} {Q : Cell → Gam → Prop} {m : Int} {f : Int × Int} {k : Nat} (q : Q (.sh (pD (pw m f k))) Γ) : evG (gIx (.node .lst (mapsD (pws m f (k + 1)))) (.leaf (.int (-1)))) Γ Q :=
  vIxL (by rw [pws_succ]; exact atI_last) q
theorem vNeM1 {Γ : Gam} {Q : Cell → Gam → Prop} {f : Int × Int} (q : Q (.sh (.leaf (.bl (!decide (f = (1, 0)))))) Γ) : evG (gNe (pD f) (.node .tup [.leaf (.int 1), .leaf (.int 0)])) Γ Q := vNeM (g := (1, 0)) q
local macro_rules | `(tactic| walk_at "evg") => `(tactic| first | with_reducible refine vIxPwL ?_ | with_reducible refine vNeM1 ?_ | fail)
/-! maps in lists -/
abbrev mapP (f : Int × Int) : PyData := .tuple [.int f.1, .int f.2]
theorem toPs_maps : ∀ l : List (Int × Int), toPs (mapsD l) = some (l.map mapP)
  | [] => rfl
  | f :: l => by
    have h := toPs_maps l
    rw [show mapsD (f :: l) = pD f :: mapsD l from rfl, List.map_cons]
    unfold toPs
    rw [h]
    rfl
theorem lay_maps : ∀ l : List (Int × Int), PyData.canLayAll0 (l.map mapP) = true
  | [] => rfl
  | f :: l => by
    have h := lay_maps l
    rw [List.map_cons]
    unfold PyData.canLayAll0
    rw [h]
    rfl
theorem depth_maps : ∀ l : List (Int × Int), PyData.depthAll (l.map mapP) ≤ 1
  | [] => by rw [List.map_nil]; unfold PyData.depthAll; omega
  | f :: l => by
    have h := depth_maps l
    rw [List.map_cons]
    unfold PyData.depthAll
    have : (mapP f).depth = 1 := rfl
    omega
theorem eqv_map (f g : Int × Int) : PyData.eqv (mapP f) (mapP g) = decide (f = g) := by
  have e : PyData.eqv (mapP f) (mapP g) = ((f.1 == g.1) && ((f.2 == g.2) && true)) := by simp only [mapP, PyData.eqv, PyData.eqvAll]
  rw [e]
  by_cases h : f = g
  · subst h; simp
  · rw [decide_eq_false h]
    by_cases h1 : f.1 = g.1
    · have h2 : ¬ f.2 = g.2 := fun h2 => h (Prod.ext h1 h2)
      simp [h2]
    · simp [h1]
theorem any_maps {g : Int × Int} : ∀ l : List (Int × Int), ((l.map mapP).any fun z => PyData.eqv z (mapP g)) = decide (g ∈ l)
  | [] => rfl
  | f :: l => by
    rw [List.map_cons, List.any_cons, any_maps l, eqv_map]
    by_cases e : f = g
    · subst e; simp
    · have : ¬ g = f := fun z => e z.symm
      simp [e, this]
theorem shaped_maps (l : List (Int × Int)) : SeqAt.shaped (.list (l.map mapP)) = true := by
  unfold SeqAt.shaped PyData.canLay0 PyData.depth
  rw [lay_maps]
  have := depth_maps l
  simp only [Bool.true_and]
  exact decide_eq_true (by omega)
theorem toP_maps (l : List (Int × Int)) : toP (.node .lst (mapsD l)) = some (.list (l.map mapP)) := by
  unfold toP
  rw [toPs_maps]
theorem toP_map (g : Int × Int) : toP (pD g) = some (mapP g) := rfl
theorem shaped_map (g : Int × Int) : SeqAt.shaped (mapP g) = true := rfl
theorem inP_maps (g : Int × Int) (l : List (Int × Int)) : inP (pD g) (.node .lst (mapsD l)) = some (decide (g ∈ l)) := by
  unfold inP
  rw [toP_maps, toP_map]
  dsimp only
  rw [shaped_maps, shaped_map, any_maps]
  rfl
theorem ixP_maps {g : Int × Int} : ∀ {l : List (Int × Int)} {j : Nat}, l[j]? = some g → (∀ i, i < j → l[i]? ≠ some g) → ixP (mapP g) (l.map mapP) = some j
  | [], j, h, _ => by simp at h
  | f :: l, 0, h, _ => by
    simp at h
    subst h
    rw [List.map_cons]
    unfold ixP
    rw [eqv_map, decide_eq_true rfl, if_pos rfl]
  | f :: l, j + 1, h, hn => by
    have h0 := hn 0 (Nat.succ_pos j)
    have ih := ixP_maps (g := g) (l := l) (j := j) (by simpa using h) fun i hi => by simpa using hn (i + 1) (by omega)
    rw [List.map_cons]
    unfold ixP
    rw [eqv_map, decide_eq_false (by simpa using h0), if_neg (by simp), ih]
theorem vIndexM {Γ : Gam} {Q : Cell → Gam → Prop} {g : Int × Int} {l : List (Int × Int)} (j : Nat) (h : l[j]? = some g) (hn : ∀ i, i < j → l[i]? ≠ some g) (q : Q (.sh (.leaf (.int (j : Int)))) Γ) : evG (gIndex (.node .lst (mapsD l)) [pD g]) Γ Q := by
  refine ⟨.old (.leaf (.int (j : Int))), ?_, rfl, q⟩
  unfold gIndex
  dsimp only
  rw [toP_maps, toP_map]
  dsimp only
  rw [shaped_maps, shaped_map, ixP_maps h hn]
  rfl
end Gm
namespace Gm
open PySem PySem.Spec PyProof.Rows L2 DL

/-! lists of pairs told by ascending indexes -/
end Gm
namespace Gm
open PySem PySem.Spec PyProof.Rows L2 DL

/-! small moduli: all commuting maps -/
theorem isMapD_iff0 {m : Int} {d : D} : isMapD m d = true ↔ ∃ p : Int × Int, d = pD p ∧ uniM m p := by
  constructor
  · intro h
    unfold isMapD at h
    split at h
    · rename_i a b
      rw [Bool.and_eq_true, Bool.and_eq_true] at h
      obtain ⟨⟨h1, h2⟩, h3⟩ := h
      unfold btw at h1 h2
      split at h1
      · split at h2
        · rename_i i _ k
          rw [Bool.and_eq_true, decide_eq_true_iff, decide_eq_true_iff] at h1 h2
          unfold uniI at h3
          dsimp only at h3
          rw [decide_eq_true_iff] at h3
          exact ⟨(i, k), rfl, ⟨⟨h1.1, by show i < m; omega⟩, h2.1, by show k < m; omega⟩, h3⟩
        · cases h2
      · cases h1
    · cases h
  · rintro ⟨p, rfl, hp⟩
    show (btw 0 (m - 1) (.leaf (.int p.1)) && btw 0 (m - 1) (.leaf (.int p.2)) && uniI m (.leaf (.int p.1))) = true
    have h1 := hp.1.1
    have h2 := hp.1.2
    rw [btw_t (by omega), btw_t (by omega)]
    show decide (gcdI p.1 m = 1) = true
    exact decide_eq_true hp.2
theorem commuting_at_any (CO C : Addr) (m : Int) (f : Int × Int) {v : D} (hm : 2 ≤ m ∧ m ≤ 1000000000) (hf : redM m f) (hv : tyD v) (hb : btw 0 (cmU m f * cmN m f - 1) v = false) {Q : Cell → List Cell → Prop} {X : Exc → List Cell → Prop}
    (q : X ⟨CO, ["value"], [v]⟩ [.sh (.leaf (.int m)), .sh (pD f), .sh v]) :
    evM (m_commuting_at CO C) [.sh (.leaf (.int m)), .sh (pD f), .sh v] Q X := by
  obtain ⟨n, hn⟩ := hv
  refine evDef _ (by rfl) ?_
  unfold g_commuting_at
  repeat' walk_at "ev"
  refine commuting_count_ok C m f hm hf ?_
  repeat' walk_at "ev"
  refine is_between_ok hn 0 (cmU m f * cmN m f - 1) ?_
  rw [hb]
  repeat' walk_at "ev"
  exact q
theorem commuting_index_no (C : Addr) (m : Int) (f : Int × Int) {v : D} (hm : 2 ≤ m ∧ m ≤ 1000000000) (hv : tyD v) (h2 : ∀ ds, v = .node .tup ds → ∀ e ∈ ds, tyD e) (h : isMapD m v = false) {Q : Cell → List Cell → Prop} {X : Exc → List Cell → Prop}
    (q : Q (.sh (.leaf .non)) [.sh (.leaf (.int m)), .sh (pD f), .sh v]) :
    evM (m_commuting_index C) [.sh (.leaf (.int m)), .sh (pD f), .sh v] Q X := by
  refine evDef _ (by rfl) ?_
  unfold g_commuting_index
  repeat' walk_at "ev"
  refine is_map_gen m hv h2 ?_
  rw [h]
  repeat' walk_at "ev"
  exact q
theorem commuting_index_not (C : Addr) (m : Int) (f g : Int × Int) (hm : 2 ≤ m ∧ m ≤ 1000000000) (hf : redM m f) (hg : uniM m g) (h : ¬ comM m f g) {Q : Cell → List Cell → Prop} {X : Exc → List Cell → Prop}
    (q : Q (.sh (.leaf .non)) [.sh (.leaf (.int m)), .sh (pD f), .sh (pD g)]) :
    evM (m_commuting_index C) [.sh (.leaf (.int m)), .sh (pD f), .sh (pD g)] Q X := by
  have hf1 := hf.1
  have hf2 := hf.2
  have hg1 := hg.1.1
  have hg2 := hg.1.2
  refine evDef _ (by rfl) ?_
  unfold g_commuting_index
  repeat' walk_at "ev"
  refine is_map_map m g.1 g.2 hg1 hg2 hg.2 ?_
  repeat' walk_at "ev"
  refine compose_ok m f.1 f.2 g.1 g.2 (by omega) (by unfold sm; omega) (by unfold sm; omega) (by unfold sm; omega) (by unfold sm; omega) ?_
  repeat' walk_at "ev"
  refine compose_ok m g.1 g.2 f.1 f.2 (by omega) (by unfold sm; omega) (by unfold sm; omega) (by unfold sm; omega) (by unfold sm; omega) ?_
  repeat' walk_at "ev"
  refine vNe (eqD_pD (cmpM m f g) (cmpM m g f)) ?_
  rw [decide_eq_false (show ¬ cmpM m f g = cmpM m g f from h)]
  repeat' walk_at "ev"
  exact q
/-- there is a map at each index -/
theorem com_ex {m : Int} (hs : Smooth m) (hm : 2 ≤ m ∧ m ≤ 1000000000) {f : Int × Int} (hf : redM m f) {i : Int} (hi : 0 ≤ i ∧ i < cmU m f * cmN m f) : ∃ g, uniM m g ∧ comM m f g ∧ idC m f g = i := by
  have h := commuting_at_ok 0 0 m i f hm hs hf hi (Q := fun _ _ => ∃ g, uniM m g ∧ comM m f g ∧ idC m f g = i) (X := fun _ _ => False) fun g a b c => ⟨g, a, b, c⟩
  obtain ⟨r, T', _, q⟩ := h
  cases r with
  | val c => exact q
  | exc x => exact q.elim
/-- strictly ascending lists with the same members -/
theorem asc_eq : ∀ {l k : List Int}, l.Pairwise (· < ·) → k.Pairwise (· < ·) → (∀ x, x ∈ l ↔ x ∈ k) → l = k
  | [], [], _, _, _ => rfl
  | [], y :: k, _, _, h => by have := (h y).mpr (by simp); cases this
  | x :: l, [], _, _, h => by have := (h x).mp (by simp); cases this
  | x :: l, y :: k, hl, hk, h => by
    obtain ⟨a1, a2⟩ := List.pairwise_cons.mp hl
    obtain ⟨b1, b2⟩ := List.pairwise_cons.mp hk
    have e : x = y := by
      rcases List.mem_cons.mp ((h x).mp (by simp)) with z | z
      · exact z
      · rcases List.mem_cons.mp ((h y).mpr (by simp)) with z2 | z2
        · exact z2.symm
        · have := b1 x z
          have := a1 y z2
          omega
    subst e
    rw [asc_eq a2 b2 fun z => ?_]
    constructor
    · intro hz
      rcases List.mem_cons.mp ((h z).mp (by simp [hz])) with z2 | z2
      · have := a1 z hz; omega
      · exact z2
    · intro hz
      rcases List.mem_cons.mp ((h z).mpr (by simp [hz])) with z2 | z2
      · have := b1 z hz; omega
      · exact z2
/-- all maps with a unit below k -/
def evL (m : Int) (n k : Nat) : List (Int × Int) := (List.range k).flatMap fun (a : Nat) => if gcdI (a : Int) m = 1 then (List.range n).map fun (b : Nat) => ((a : Int), (b : Int)) else []
theorem evL_succ (m : Int) (n k : Nat) : evL m n (k + 1) = evL m n k ++ if gcdI (k : Int) m = 1 then (List.range n).map fun (b : Nat) => ((k : Int), (b : Int)) else [] := by
  unfold evL
  rw [List.range_succ, List.flatMap_append]
  simp
def lexP (p q : Int × Int) : Prop := p.1 < q.1 ∨ (p.1 = q.1 ∧ p.2 < q.2)
theorem evL_mem {m : Int} {n k : Nat} {p : Int × Int} : p ∈ evL m n k ↔ (0 ≤ p.1 ∧ p.1 < k) ∧ (0 ≤ p.2 ∧ p.2 < n) ∧ gcdI p.1 m = 1 := by
  unfold evL
  rw [List.mem_flatMap]
  constructor
  · rintro ⟨a, ha, h⟩
    have ha' := List.mem_range.mp ha
    split at h
    · rename_i hg
      obtain ⟨b, hb, rfl⟩ := List.mem_map.mp h
      have hb' := List.mem_range.mp hb
      exact ⟨⟨by show (0 : Int) ≤ (a : Int); omega, by show (a : Int) < k; omega⟩, ⟨by show (0 : Int) ≤ (b : Int); omega, by show (b : Int) < n; omega⟩, hg⟩
    · cases h
  · rintro ⟨⟨h1, h2⟩, ⟨h3, h4⟩, h5⟩
    refine ⟨p.1.toNat, List.mem_range.mpr (by omega), ?_⟩
    have e1 : ((p.1.toNat : Nat) : Int) = p.1 := by omega
    rw [e1, if_pos h5]
    exact List.mem_map.mpr ⟨p.2.toNat, List.mem_range.mpr (by omega), Prod.ext rfl (show ((p.2.toNat : Nat) : Int) = p.2 by omega)⟩
theorem evL_lex (m : Int) (n : Nat) : ∀ k : Nat, (evL m n k).Pairwise lexP
  | 0 => (List.Pairwise.nil : ([] : List (Int × Int)).Pairwise lexP)
  | k + 1 => by
    rw [evL_succ]
    refine List.pairwise_append.mpr ⟨evL_lex m n k, ?_, fun p hp q hq => ?_⟩
    · split
      · rw [List.pairwise_map]
        exact List.pairwise_lt_range.imp fun {a b} h => Or.inr ⟨rfl, by show (a : Int) < (b : Int); omega⟩
      · exact .nil
    · have h1 := (evL_mem.mp hp).1
      split at hq
      · obtain ⟨b, _, rfl⟩ := List.mem_map.mp hq
        exact .inl h1.2
      · cases hq
theorem evL_len (m : Int) (n : Nat) : ∀ k : Nat, (evL m n k).length ≤ n * k
  | 0 => (Nat.zero_le _ : ([] : List (Int × Int)).length ≤ n * 0)
  | k + 1 => by
    rw [evL_succ, List.length_append, Nat.mul_succ]
    have := evL_len m n k
    split
    · rw [List.length_map, List.length_range]; omega
    · simp; omega
noncomputable def dueL (m : Int) (f : Int × Int) : List (Int × Int) := (evL m m.toNat m.toNat).filter fun g => decide (cmpM m f g = cmpM m g f)
theorem due_mem {m : Int} (hm : 2 ≤ m) {f g : Int × Int} : g ∈ dueL m f ↔ uniM m g ∧ comM m f g := by
  unfold dueL
  rw [List.mem_filter, evL_mem, decide_eq_true_eq]
  have e : ((m.toNat : Nat) : Int) = m := by omega
  rw [e]
  exact ⟨fun ⟨⟨h1, h2, h3⟩, h4⟩ => ⟨⟨⟨h1, h2⟩, h3⟩, h4⟩, fun ⟨⟨⟨h1, h2⟩, h3⟩, h4⟩ => ⟨⟨h1, h2, h3⟩, h4⟩⟩
theorem due_asc {m : Int} (hs : Smooth m) (hm : 2 ≤ m) {f : Int × Int} : ((dueL m f).map (idC m f)).Pairwise (· < ·) := by
  rw [List.pairwise_map]
  have hp : (dueL m f).Pairwise lexP := (evL_lex m m.toNat m.toNat).sublist List.filter_sublist
  refine hp.imp_of_mem fun {p q} h1 h2 h => ?_
  obtain ⟨u1, c1⟩ := (due_mem hm).mp h1
  obtain ⟨u2, c2⟩ := (due_mem hm).mp h2
  rcases Int.lt_trichotomy (idC m f p) (idC m f q) with z | z | z
  · exact z
  · have e := idC_inj hs hm u1 u2 c1 c2 z
    subst e
    rcases h with h | ⟨_, h⟩ <;> omega
  · rcases idC_mono hs hm u2 u1 c2 c1 z with y | ⟨y1, y2⟩ <;> rcases h with h | ⟨h, h3⟩ <;> omega
theorem due_ids {m : Int} (hs : Smooth m) (hm : 2 ≤ m ∧ m ≤ 1000000000) {f : Int × Int} (hf : redM m f) : (dueL m f).map (idC m f) = rng 0 (cmU m f * cmN m f).toNat := by
  obtain ⟨n1, _⟩ := cmN_spec (m := m) (by omega) f
  have hu := cmU_bnd (m := m) (by omega) f
  have hprod : 0 ≤ cmU m f * cmN m f := Int.mul_nonneg (by omega) (by omega)
  have hr : ∀ (lo : Int) (n : Nat), (rng lo n).Pairwise (· < ·) := by
    intro lo n
    induction n generalizing lo with
    | zero => exact .nil
    | succ n ih => exact List.pairwise_cons.mpr ⟨fun x hx => by have := rng_mem hx; omega, ih (lo + 1)⟩
  have hmr : ∀ {lo x : Int} {n : Nat}, lo ≤ x → x < lo + n → x ∈ rng lo n := by
    intro lo x n
    induction n generalizing lo with
    | zero => intro h1 h2; omega
    | succ n ih =>
      intro h1 h2
      by_cases e : x = lo
      · subst e; exact List.mem_cons_self
      · exact List.mem_cons_of_mem _ (ih (by omega) (by omega))
  refine asc_eq (due_asc hs hm.1) (hr 0 _) fun x => ⟨fun h => ?_, fun h => ?_⟩
  · obtain ⟨g, hg, rfl⟩ := List.mem_map.mp h
    obtain ⟨u, c⟩ := (due_mem hm.1).mp hg
    have := idC_bnd hs hm.1 u c
    exact hmr (by omega) (by omega)
  · have := rng_mem h
    obtain ⟨g, u, c, rfl⟩ := com_ex hs hm hf (i := x) ⟨by omega, by omega⟩
    exact List.mem_map.mpr ⟨g, (due_mem hm.1).mpr ⟨u, c⟩, rfl⟩
theorem due_len {m : Int} (hs : Smooth m) (hm : 2 ≤ m ∧ m ≤ 1000000000) {f : Int × Int} (hf : redM m f) : ((dueL m f).length : Int) = cmU m f * cmN m f := by
  have h := congrArg List.length (due_ids hs hm hf)
  rw [List.length_map, rng_len] at h
  obtain ⟨n1, _⟩ := cmN_spec (m := m) (by omega) f
  have hu := cmU_bnd (m := m) (by omega) f
  have hprod : 0 ≤ cmU m f * cmN m f := Int.mul_nonneg (by omega) (by omega)
  omega
theorem rng_get : ∀ {lo : Int} {n k : Nat}, k < n → (rng lo n)[k]? = some (lo + k)
  | lo, n + 1, 0, _ => by show some lo = _; simp
  | lo, n + 1, k + 1, h => by
    show (rng (lo + 1) n)[k]? = _
    rw [rng_get (by omega)]
    congr 1
    omega
theorem due_at {m : Int} (hs : Smooth m) (hm : 2 ≤ m ∧ m ≤ 1000000000) {f : Int × Int} (hf : redM m f) {k : Nat} (hk : (k : Int) < cmU m f * cmN m f) : ∃ g, (dueL m f)[k]? = some g ∧ uniM m g ∧ comM m f g ∧ idC m f g = k := by
  have hl := due_len hs hm hf
  have hk' : k < (dueL m f).length := by omega
  have e := List.getElem?_eq_getElem hk'
  obtain ⟨u, c⟩ := (due_mem hm.1).mp (List.getElem_mem hk')
  refine ⟨_, e, u, c, ?_⟩
  have h := due_ids hs hm hf
  have h2 : ((dueL m f).map (idC m f))[k]? = some (idC m f (dueL m f)[k]) := by rw [List.getElem?_map, e]; rfl
  rw [h, rng_get (by omega)] at h2
  have := Option.some.inj h2
  omega
theorem due_ix {m : Int} (hs : Smooth m) (hm : 2 ≤ m ∧ m ≤ 1000000000) {f g : Int × Int} (hf : redM m f) (hg : uniM m g) (hc : comM m f g) : ∃ j : Nat, (j : Int) = idC m f g ∧ (dueL m f)[j]? = some g ∧ ∀ i, i < j → (dueL m f)[i]? ≠ some g := by
  have hb := idC_bnd hs hm.1 hg hc
  obtain ⟨g', e, u, c, hi⟩ := due_at hs hm hf (k := (idC m f g).toNat) (by omega)
  have : g' = g := idC_inj hs hm.1 u hg c hc (by rw [hi]; omega)
  subst this
  refine ⟨(idC m f g').toNat, by omega, e, fun i hi2 z => ?_⟩
  obtain ⟨g2, e2, _, _, hi3⟩ := due_at hs hm hf (k := i) (by omega)
  rw [z] at e2
  cases e2
  omega

end Gm
namespace L_affinewalk_k30_commuting_maps
open PySem PySem.Spec PyProof.Rows L2 DL Gm
/-! ### the text -/
def topS (i : Nat) : Stmt := PySem.Challenge.pw_affinewalk_k30_commuting_maps.main.body.getD i (.Pass ⟨0, 0, 0, 0⟩)
abbrev s__law_draw : Stmt := topS 23
abbrev s__law_pick : Stmt := topS 24
abbrev s__law_any_value : Stmt := topS 32
abbrev s__law_caught : Stmt := topS 35
abbrev s__law_compose : Stmt := topS 31
abbrev s__law_gcd : Stmt := topS 26
abbrev s__law_is_integer : Stmt := topS 33
abbrev s__law_is_map : Stmt := topS 34
abbrev s__law_divisors : Stmt := topS 28
abbrev s__law_unit : Stmt := topS 29
abbrev s__law_map : Stmt := topS 30
abbrev s__law_shuffled : Stmt := topS 25
abbrev s__law_modulus : Stmt := topS 27
abbrev s__law_pen : Stmt := topS 22
abbrev s_Units_count_below : Stmt := inClass (topS 15) 2
abbrev s_Units_at : Stmt := inClass (topS 15) 4
abbrev s_Units_count : Stmt := inClass (topS 15) 3
abbrev s_unit_inverse : Stmt := topS 6
abbrev s_Units_excluded : Stmt := inClass (topS 15) 1
abbrev s_prime_factors : Stmt := topS 5
abbrev s_Units_init : Stmt := inClass (topS 15) 0
abbrev s_gcd : Stmt := topS 4
abbrev s_commuting_units : Stmt := topS 17
abbrev s_commuting_count : Stmt := topS 18
abbrev s_is_integer : Stmt := topS 2
abbrev s_is_between : Stmt := topS 3
abbrev s_solution : Stmt := topS 11
abbrev s_commuting_at : Stmt := topS 19
abbrev s_Units_index_of : Stmt := inClass (topS 15) 5
abbrev s_compose : Stmt := topS 9
abbrev s_is_map : Stmt := topS 8
abbrev s_commuting_index : Stmt := topS 20
abbrev s_law : Stmt := topS 36
theorem sc__law_draw : FnScope ["pen", "many", "digit", "turn", "cell", "primes", "prime", "drawn"] ["pen", "many"] (defScope s__law_draw) := ⟨rfl, rfl, rfl, by decide +kernel, rfl, by decide +kernel, by decide +kernel⟩
theorem sc__law_pick : FnScope ["pen", "some"] ["pen", "some"] (defScope s__law_pick) := ⟨rfl, rfl, rfl, by decide +kernel, rfl, by decide +kernel, by decide +kernel⟩
theorem sc__law_any_value : FnScope ["pen", "some"] ["pen"] (defScope s__law_any_value) := ⟨rfl, rfl, rfl, by decide +kernel, rfl, by decide +kernel, by decide +kernel⟩
theorem sc__law_caught : FnScope ["call", "kept", "e"] ["call"] (defScope s__law_caught) := ⟨rfl, rfl, rfl, by decide +kernel, rfl, by decide +kernel, by decide +kernel⟩
theorem sc__law_compose : FnScope ["m", "first", "second"] ["m", "first", "second"] (defScope s__law_compose) := ⟨rfl, rfl, rfl, by decide +kernel, rfl, by decide +kernel, by decide +kernel⟩
theorem sc__law_gcd : FnScope ["one", "other"] ["one", "other"] (defScope s__law_gcd) := ⟨rfl, rfl, rfl, by decide +kernel, rfl, by decide +kernel, by decide +kernel⟩
theorem sc__law_is_integer : FnScope ["value"] ["value"] (defScope s__law_is_integer) := ⟨rfl, rfl, rfl, by decide +kernel, rfl, by decide +kernel, by decide +kernel⟩
theorem sc__law_is_map : FnScope ["m", "value", "one"] ["m", "value"] (defScope s__law_is_map) := ⟨rfl, rfl, rfl, by decide +kernel, rfl, by decide +kernel, by decide +kernel⟩
theorem sc__law_divisors : FnScope ["m", "found", "left", "prime", "powers", "every", "factor", "one"] ["m"] (defScope s__law_divisors) := ⟨rfl, rfl, rfl, by decide +kernel, rfl, by decide +kernel, by decide +kernel⟩
theorem sc__law_unit : FnScope ["pen", "m", "share", "near", "number"] ["pen", "m"] (defScope s__law_unit) := ⟨rfl, rfl, rfl, by decide +kernel, rfl, by decide +kernel, by decide +kernel⟩
theorem sc__law_map : FnScope ["pen", "m", "share"] ["pen", "m"] (defScope s__law_map) := ⟨rfl, rfl, rfl, by decide +kernel, rfl, by decide +kernel, by decide +kernel⟩
theorem sc__law_shuffled : FnScope ["pen", "some", "left", "found"] ["pen", "some"] (defScope s__law_shuffled) := ⟨rfl, rfl, rfl, by decide +kernel, rfl, by decide +kernel, by decide +kernel⟩
theorem sc__law_modulus : FnScope ["pen", "most", "found", "primes", "k", "prime"] ["pen", "most"] (defScope s__law_modulus) := ⟨rfl, rfl, rfl, by decide +kernel, rfl, by decide +kernel, by decide +kernel⟩
theorem sc__law_pen : FnScope ["script"] ["script"] (defScope s__law_pen) := ⟨rfl, rfl, rfl, by decide +kernel, rfl, by decide +kernel, by decide +kernel⟩
theorem sc_Units_count_below : FnScope ["self", "limit", "rows", "row", "index", "product", "sign"] ["self", "limit"] (defScope s_Units_count_below) := ⟨rfl, rfl, rfl, by decide +kernel, rfl, by decide +kernel, by decide +kernel⟩
theorem sc_Units_at : FnScope ["self", "index", "low", "high", "middle"] ["self", "index"] (defScope s_Units_at) := ⟨rfl, rfl, rfl, by decide +kernel, rfl, by decide +kernel, by decide +kernel⟩
theorem sc_Units_count : FnScope ["self"] ["self"] (defScope s_Units_count) := ⟨rfl, rfl, rfl, by decide +kernel, rfl, by decide +kernel, by decide +kernel⟩
theorem sc_unit_inverse : FnScope ["number", "m", "old", "new", "old_factor", "factor", "quotient"] ["number", "m"] (defScope s_unit_inverse) := ⟨rfl, rfl, rfl, by decide +kernel, rfl, by decide +kernel, by decide +kernel⟩
theorem sc_Units_excluded : FnScope ["self", "prime", "row", "index", "product", "sign"] ["self", "prime", "row"] (defScope s_Units_excluded) := ⟨rfl, rfl, rfl, by decide +kernel, rfl, by decide +kernel, by decide +kernel⟩
theorem sc_prime_factors : FnScope ["number", "prime"] ["number"] (defScope s_prime_factors) := ⟨rfl, rfl, rfl, by decide +kernel, rfl, by decide +kernel, by decide +kernel⟩
theorem sc_Units_init : FnScope ["self", "m", "residue", "step", "prime", "row"] ["self", "m", "residue", "step"] (defScope s_Units_init) := ⟨rfl, rfl, rfl, by decide +kernel, rfl, by decide +kernel, by decide +kernel⟩
theorem sc_gcd : FnScope ["first", "second"] ["first", "second"] (defScope s_gcd) := ⟨rfl, rfl, rfl, by decide +kernel, rfl, by decide +kernel, by decide +kernel⟩
theorem sc_commuting_units : FnScope ["m", "f", "common"] ["m", "f"] (defScope s_commuting_units) := ⟨rfl, rfl, rfl, by decide +kernel, rfl, by decide +kernel, by decide +kernel⟩
theorem sc_commuting_count : FnScope ["m", "f"] ["m", "f"] (defScope s_commuting_count) := ⟨rfl, rfl, rfl, by decide +kernel, rfl, by decide +kernel, by decide +kernel⟩
theorem sc_is_integer : FnScope ["value"] ["value"] (defScope s_is_integer) := ⟨rfl, rfl, rfl, by decide +kernel, rfl, by decide +kernel, by decide +kernel⟩
theorem sc_is_between : FnScope ["value", "low", "high"] ["value", "low", "high"] (defScope s_is_between) := ⟨rfl, rfl, rfl, by decide +kernel, rfl, by decide +kernel, by decide +kernel⟩
theorem sc_solution : FnScope ["m", "factor", "target", "common", "step"] ["m", "factor", "target"] (defScope s_solution) := ⟨rfl, rfl, rfl, by decide +kernel, rfl, by decide +kernel, by decide +kernel⟩
theorem sc_commuting_at : FnScope ["m", "f", "index", "common", "c", "start", "step"] ["m", "f", "index"] (defScope s_commuting_at) := ⟨rfl, rfl, rfl, by decide +kernel, rfl, by decide +kernel, by decide +kernel⟩
theorem sc_Units_index_of : FnScope ["self", "unit"] ["self", "unit"] (defScope s_Units_index_of) := ⟨rfl, rfl, rfl, by decide +kernel, rfl, by decide +kernel, by decide +kernel⟩
theorem sc_compose : FnScope ["m", "first", "second"] ["m", "first", "second"] (defScope s_compose) := ⟨rfl, rfl, rfl, by decide +kernel, rfl, by decide +kernel, by decide +kernel⟩
theorem sc_is_map : FnScope ["m", "value", "part"] ["m", "value"] (defScope s_is_map) := ⟨rfl, rfl, rfl, by decide +kernel, rfl, by decide +kernel, by decide +kernel⟩
theorem sc_commuting_index : FnScope ["m", "f", "g", "common"] ["m", "f", "g"] (defScope s_commuting_index) := ⟨rfl, rfl, rfl, by decide +kernel, rfl, by decide +kernel, by decide +kernel⟩
theorem sc_law : FnScope ["script", "pen", "turn", "m", "f", "every", "a", "b", "due", "g", "at", "k", "odd", "values", "value", "expected"] ["script"] (defScope s_law) := ⟨rfl, rfl, rfl, by decide +kernel, rfl, by decide +kernel, by decide +kernel⟩
abbrev s_OutOfRange : Stmt := inClass (topS 13) 0
theorem xa_OutOfRange : XArgs s_OutOfRange ["value"] := ⟨_, [_], [(_, _, _, _)], rfl, rfl, rfl, rfl, rfl⟩
/-! ### the mirrors -/
noncomputable def g_law (C_OutOfRange C_Units : Addr) : GS := sSeq (sSet 1 (eCallN 1 m__law_pen [] (aCons (eKeep (eVar 0)) (aNil))))
  (sSeq (sFor (iOfL gRange1 (aCons (eKeep (eBin gAdd (eC (.int 3)) (eBI gMin2 (aCons (eC (.int 3)) (aCons (eBI gLen (aCons (eVar 0) (aNil))) (aNil)))))) (aNil))) (pNm 2) (sSeq (sSet 3 (eCallN 2 m__law_modulus [] (aCons (eVar 1) (aCons (eKeep (eC (.int 40))) (aNil)))))
  (sSeq (sPar 4 5 (aCons (eSolid (eCallN 2 m__law_map [] (aCons (eVar 1) (aCons (eKeep (eVar 3)) (aNil))))) (aCons (eSolid (eOfL gLstD (aNil))) (aNil))))
  (sSeq (sFor (iOfL gRange1 (aCons (eKeep (eVar 3)) (aNil))) (pNm 6) (sExpr (eMut 5 "list" gExtend (aCons (eKeep (eLc (iOfL gRange1 (aCons (eKeep (eVar 3)) (aNil))) (pNm 7) (tOf (eBin gEq (eCallN 2 m__law_gcd [] (aCons (eKeep (eVar 6)) (aCons (eKeep (eVar 3)) (aNil)))) (eC (.int 1)))) (eOfL gTupD (aCons (eKeep (eVar 6)) (aCons (eKeep (eVar 7)) (aNil)))) [7])) (aNil)))))
  (sSeq (sSet 8 (eLc (iSeq (eVar 5)) (pNm 9) (tOf (eBin gEq (eCallN 3 m__law_compose [] (aCons (eKeep (eVar 3)) (aCons (eKeep (eVar 4)) (aCons (eKeep (eVar 9)) (aNil))))) (eCallN 3 m__law_compose [] (aCons (eKeep (eVar 3)) (aCons (eKeep (eVar 9)) (aCons (eKeep (eVar 4)) (aNil))))))) (eVar 9) [9]))
  (sSeq (sIf (tOf (eBin gNe (eBI gRepr (aCons (eCallN 2 (m_commuting_count C_Units) [] (aCons (eKeep (eVar 3)) (aCons (eKeep (eVar 4)) (aNil)))) (aNil))) (eBI gRepr (aCons (eBI gLen (aCons (eVar 8) (aNil))) (aNil))))) (sRet (eC (.bl false))) (sNil))
  (sSeq (sFor (iSeq (eBin gAdd (eOfL gLstD (aCons (eKeep (eC (.int 0))) (aCons (eKeep (eBin gSub (eBI gLen (aCons (eVar 8) (aNil))) (eC (.int 1)))) (aNil)))) (eLc (iOfL gRange1 (aCons (eKeep (eC (.int 6))) (aNil))) (pNm 11) (tYesD) (eCallN 2 m__law_draw [] (aCons (eVar 1) (aCons (eKeep (eBI gLen (aCons (eVar 8) (aNil)))) (aNil)))) [11]))) (pNm 10) (sIf (tOrD (tOf (eBin gNe (eBI gRepr (aCons (eCallN 3 (m_commuting_at C_OutOfRange C_Units) [] (aCons (eKeep (eVar 3)) (aCons (eKeep (eVar 4)) (aCons (eKeep (eVar 10)) (aNil))))) (aNil))) (eBI gRepr (aCons (eBin gIx (eVar 8) (eVar 10)) (aNil))))) (tOf (eBin gNe (eBI gRepr (aCons (eCallN 3 (m_commuting_index C_Units) [] (aCons (eKeep (eVar 3)) (aCons (eKeep (eVar 4)) (aCons (eKeep (eBin gIx (eVar 8) (eVar 10))) (aNil))))) (aNil))) (eBI gRepr (aCons (eVar 10) (aNil)))))) (sRet (eC (.bl false))) (sNil)))
  (sSeq (sSet 12 (eCallN 2 m__law_pick [] (aCons (eVar 1) (aCons (eKeep (eOfL gLstD (aCons (eKeep (eBI gLen (aCons (eVar 8) (aNil)))) (aCons (eKeep (eUn gNeg (eC (.int 1)))) (aCons (eKeep (eC .non)) (aCons (eKeep (eC (.bl true))) (aCons (eKeep (eC (.str "0"))) (aCons (eKeep (eOfL gTupD (aCons (eKeep (eC (.int 0))) (aNil)))) (aCons (eKeep (eOfL gLstD (aCons (eKeep (eC (.int 0))) (aNil)))) (aCons (eKeep (eBin gPow (eC (.int 10)) (eC (.int 40)))) (aCons (eKeep (eBin gAdd (eBI gLen (aCons (eVar 8) (aNil))) (eC (.int 7)))) (aNil)))))))))))) (aNil)))))
  (sSeq (sIf (tOf (eBin gNe (eLam false true 3 (eCallN 3 (m_commuting_at C_OutOfRange C_Units) [] (aCons (eKeep (eVar 3)) (aCons (eKeep (eVar 4)) (aCons (eKeep (eVar 12)) (aNil))))) C_OutOfRange 2 (sSet 1 (eVar 2)) (sRet (eIf (tOf (eUn (gIsX C_OutOfRange true) (eVar 1))) (eBI gRepr (aCons (eUn (gXf C_OutOfRange "value") (eVar 1)) (aNil))) (eC .non)))) (eBI gRepr (aCons (eVar 12) (aNil))))) (sRet (eC (.bl false))) (sNil))
  (sSeq (sSet 13 (eOfL gLstD (aCons (eKeep (eCallN 2 m__law_pick [] (aCons (eVar 1) (aCons (eKeep (eVar 5)) (aNil))))) (aCons (eKeep (eBI gList (aCons (eVar 4) (aNil)))) (aCons (eKeep (eBin gAdd (eVar 4) (eOfL gTupD (aCons (eKeep (eC (.int 0))) (aNil))))) (aCons (eKeep (eOfL gTupD (aCons (eKeep (eBin gIx (eVar 4) (eC (.int 0)))) (aCons (eKeep (eBin gAdd (eBin gIx (eVar 4) (eC (.int 1))) (eVar 3))) (aNil))))) (aCons (eKeep (eOfL gTupD (aCons (eKeep (eC (.int 0))) (aCons (eKeep (eC (.int 0))) (aNil))))) (aCons (eKeep (eOfL gTupD (aCons (eKeep (eC (.bl true))) (aCons (eKeep (eBin gIx (eVar 4) (eC (.int 1)))) (aNil))))) (aNil)))))))))
  (sFor (iSeq (eBin gAdd (eVar 13) (eOfL gLstD (aCons (eKeep (eCallN 1 m__law_any_value [] (aCons (eVar 1) (aNil)))) (aNil))))) (pNm 14) (sSeq (sSet 15 (eIf (tAndD (tOf (eCallN 2 m__law_is_map_v2 [] (aCons (eKeep (eVar 3)) (aCons (eKeep (eVar 14)) (aNil))))) (tOf (eBin gIn (eVar 14) (eVar 8)))) (eMet "list" gIndex (eVar 8) (aCons (eKeep (eVar 14)) (aNil))) (eC .non)))
  (sIf (tOf (eBin gNe (eBI gRepr (aCons (eCallN 3 (m_commuting_index C_Units) [] (aCons (eKeep (eVar 3)) (aCons (eKeep (eVar 4)) (aCons (eKeep (eVar 14)) (aNil))))) (aNil))) (eBI gRepr (aCons (eVar 15) (aNil))))) (sRet (eC (.bl false))) (sNil))))))))))))))
  (sRet (eC (.bl true))))
noncomputable def m_law (C_OutOfRange C_Units : Addr) : MF := runD 16 (g_law C_OutOfRange C_Units)
/-! ### what stands behind the top -/
structure Tx (K : PySem.W.Frag) (mg : Str → Option Value) (f__law_draw f__law_pick f__law_any_value f__law_caught f__law_compose f__law_gcd f__law_is_integer f__law_is_map f__law_divisors f__law_unit f__law_map f__law_shuffled f__law_modulus f__law_pen f_Units_count_below f_Units_at f_Units_count f_unit_inverse f_Units_excluded f_prime_factors f_Units_init f_gcd f_commuting_units f_commuting_count f_is_integer f_is_between f_solution f_commuting_at f_Units_index_of f_compose f_is_map f_commuting_index f_law C_Units C_OutOfRange : Addr) (fd__law_draw fd__law_pick fd__law_any_value fd__law_caught fd__law_compose fd__law_gcd fd__law_is_integer fd__law_is_map fd__law_divisors fd__law_unit fd__law_map fd__law_shuffled fd__law_modulus fd__law_pen fd_Units_count_below fd_Units_at fd_Units_count fd_unit_inverse fd_Units_excluded fd_prime_factors fd_Units_init fd_gcd fd_commuting_units fd_commuting_count fd_is_integer fd_is_between fd_solution fd_commuting_at fd_Units_index_of fd_compose fd_is_map fd_commuting_index fd_law : FuncData) : Prop where
  F__law_draw : Fun K "_law_draw" "_law_draw" s__law_draw f__law_draw fd__law_draw
  g__law_draw : mg "_law_draw" = some (.ref f__law_draw)
  k__law_draw : PySem.W.keepIn K (.ref f__law_draw) = true
  b__law_draw : Binds K fd__law_draw ["pen", "many"] []
  F__law_pick : Fun K "_law_pick" "_law_pick" s__law_pick f__law_pick fd__law_pick
  g__law_pick : mg "_law_pick" = some (.ref f__law_pick)
  k__law_pick : PySem.W.keepIn K (.ref f__law_pick) = true
  b__law_pick : Binds K fd__law_pick ["pen", "some"] []
  F__law_any_value : Fun K "_law_any_value" "_law_any_value" s__law_any_value f__law_any_value fd__law_any_value
  g__law_any_value : mg "_law_any_value" = some (.ref f__law_any_value)
  k__law_any_value : PySem.W.keepIn K (.ref f__law_any_value) = true
  b__law_any_value : Binds K fd__law_any_value ["pen"] []
  F__law_caught : Fun K "_law_caught" "_law_caught" s__law_caught f__law_caught fd__law_caught
  g__law_caught : mg "_law_caught" = some (.ref f__law_caught)
  k__law_caught : PySem.W.keepIn K (.ref f__law_caught) = true
  b__law_caught : Binds K fd__law_caught ["call"] []
  F__law_compose : Fun K "_law_compose" "_law_compose" s__law_compose f__law_compose fd__law_compose
  g__law_compose : mg "_law_compose" = some (.ref f__law_compose)
  k__law_compose : PySem.W.keepIn K (.ref f__law_compose) = true
  b__law_compose : Binds K fd__law_compose ["m", "first", "second"] []
  F__law_gcd : Fun K "_law_gcd" "_law_gcd" s__law_gcd f__law_gcd fd__law_gcd
  g__law_gcd : mg "_law_gcd" = some (.ref f__law_gcd)
  k__law_gcd : PySem.W.keepIn K (.ref f__law_gcd) = true
  b__law_gcd : Binds K fd__law_gcd ["one", "other"] []
  F__law_is_integer : Fun K "_law_is_integer" "_law_is_integer" s__law_is_integer f__law_is_integer fd__law_is_integer
  g__law_is_integer : mg "_law_is_integer" = some (.ref f__law_is_integer)
  k__law_is_integer : PySem.W.keepIn K (.ref f__law_is_integer) = true
  b__law_is_integer : Binds K fd__law_is_integer ["value"] []
  F__law_is_map : Fun K "_law_is_map" "_law_is_map" s__law_is_map f__law_is_map fd__law_is_map
  g__law_is_map : mg "_law_is_map" = some (.ref f__law_is_map)
  k__law_is_map : PySem.W.keepIn K (.ref f__law_is_map) = true
  b__law_is_map : Binds K fd__law_is_map ["m", "value"] []
  F__law_divisors : Fun K "_law_divisors" "_law_divisors" s__law_divisors f__law_divisors fd__law_divisors
  g__law_divisors : mg "_law_divisors" = some (.ref f__law_divisors)
  k__law_divisors : PySem.W.keepIn K (.ref f__law_divisors) = true
  b__law_divisors : Binds K fd__law_divisors ["m"] []
  F__law_unit : Fun K "_law_unit" "_law_unit" s__law_unit f__law_unit fd__law_unit
  g__law_unit : mg "_law_unit" = some (.ref f__law_unit)
  k__law_unit : PySem.W.keepIn K (.ref f__law_unit) = true
  b__law_unit : Binds K fd__law_unit ["pen", "m"] []
  F__law_map : Fun K "_law_map" "_law_map" s__law_map f__law_map fd__law_map
  g__law_map : mg "_law_map" = some (.ref f__law_map)
  k__law_map : PySem.W.keepIn K (.ref f__law_map) = true
  b__law_map : Binds K fd__law_map ["pen", "m"] []
  F__law_shuffled : Fun K "_law_shuffled" "_law_shuffled" s__law_shuffled f__law_shuffled fd__law_shuffled
  g__law_shuffled : mg "_law_shuffled" = some (.ref f__law_shuffled)
  k__law_shuffled : PySem.W.keepIn K (.ref f__law_shuffled) = true
  b__law_shuffled : Binds K fd__law_shuffled ["pen", "some"] []
  F__law_modulus : Fun K "_law_modulus" "_law_modulus" s__law_modulus f__law_modulus fd__law_modulus
  g__law_modulus : mg "_law_modulus" = some (.ref f__law_modulus)
  k__law_modulus : PySem.W.keepIn K (.ref f__law_modulus) = true
  b__law_modulus : Binds K fd__law_modulus ["pen", "most"] []
  F__law_pen : Fun K "_law_pen" "_law_pen" s__law_pen f__law_pen fd__law_pen
  g__law_pen : mg "_law_pen" = some (.ref f__law_pen)
  k__law_pen : PySem.W.keepIn K (.ref f__law_pen) = true
  b__law_pen : Binds K fd__law_pen ["script"] []
  F_Units_count_below : Fun K "count_below" "Units.count_below" s_Units_count_below f_Units_count_below fd_Units_count_below
  me_Units_count_below : Meth K C_Units "count_below" f_Units_count_below
  b_Units_count_below : Binds K fd_Units_count_below ["self", "limit"] []
  F_Units_at : Fun K "at" "Units.at" s_Units_at f_Units_at fd_Units_at
  me_Units_at : Meth K C_Units "at" f_Units_at
  b_Units_at : Binds K fd_Units_at ["self", "index"] []
  F_Units_count : Fun K "count" "Units.count" s_Units_count f_Units_count fd_Units_count
  me_Units_count : Meth K C_Units "count" f_Units_count
  b_Units_count : Binds K fd_Units_count ["self"] []
  F_unit_inverse : Fun K "unit_inverse" "unit_inverse" s_unit_inverse f_unit_inverse fd_unit_inverse
  g_unit_inverse : mg "unit_inverse" = some (.ref f_unit_inverse)
  k_unit_inverse : PySem.W.keepIn K (.ref f_unit_inverse) = true
  b_unit_inverse : Binds K fd_unit_inverse ["number", "m"] []
  F_Units_excluded : Fun K "excluded" "Units.excluded" s_Units_excluded f_Units_excluded fd_Units_excluded
  me_Units_excluded : Meth K C_Units "excluded" f_Units_excluded
  b_Units_excluded : Binds K fd_Units_excluded ["self", "prime", "row"] []
  F_prime_factors : Fun K "prime_factors" "prime_factors" s_prime_factors f_prime_factors fd_prime_factors
  g_prime_factors : mg "prime_factors" = some (.ref f_prime_factors)
  k_prime_factors : PySem.W.keepIn K (.ref f_prime_factors) = true
  b_prime_factors : Binds K fd_prime_factors ["number"] []
  F_Units_init : Fun K "__init__" "Units.__init__" s_Units_init f_Units_init fd_Units_init
  b_Units_init : Binds K fd_Units_init ["self", "m", "residue", "step"] []
  F_gcd : Fun K "gcd" "gcd" s_gcd f_gcd fd_gcd
  g_gcd : mg "gcd" = some (.ref f_gcd)
  k_gcd : PySem.W.keepIn K (.ref f_gcd) = true
  b_gcd : Binds K fd_gcd ["first", "second"] []
  F_commuting_units : Fun K "commuting_units" "commuting_units" s_commuting_units f_commuting_units fd_commuting_units
  g_commuting_units : mg "commuting_units" = some (.ref f_commuting_units)
  k_commuting_units : PySem.W.keepIn K (.ref f_commuting_units) = true
  b_commuting_units : Binds K fd_commuting_units ["m", "f"] []
  F_commuting_count : Fun K "commuting_count" "commuting_count" s_commuting_count f_commuting_count fd_commuting_count
  g_commuting_count : mg "commuting_count" = some (.ref f_commuting_count)
  k_commuting_count : PySem.W.keepIn K (.ref f_commuting_count) = true
  b_commuting_count : Binds K fd_commuting_count ["m", "f"] []
  F_is_integer : Fun K "is_integer" "is_integer" s_is_integer f_is_integer fd_is_integer
  g_is_integer : mg "is_integer" = some (.ref f_is_integer)
  k_is_integer : PySem.W.keepIn K (.ref f_is_integer) = true
  b_is_integer : Binds K fd_is_integer ["value"] []
  F_is_between : Fun K "is_between" "is_between" s_is_between f_is_between fd_is_between
  g_is_between : mg "is_between" = some (.ref f_is_between)
  k_is_between : PySem.W.keepIn K (.ref f_is_between) = true
  b_is_between : Binds K fd_is_between ["value", "low", "high"] []
  F_solution : Fun K "solution" "solution" s_solution f_solution fd_solution
  g_solution : mg "solution" = some (.ref f_solution)
  k_solution : PySem.W.keepIn K (.ref f_solution) = true
  b_solution : Binds K fd_solution ["m", "factor", "target"] []
  F_commuting_at : Fun K "commuting_at" "commuting_at" s_commuting_at f_commuting_at fd_commuting_at
  g_commuting_at : mg "commuting_at" = some (.ref f_commuting_at)
  k_commuting_at : PySem.W.keepIn K (.ref f_commuting_at) = true
  b_commuting_at : Binds K fd_commuting_at ["m", "f", "index"] []
  F_Units_index_of : Fun K "index_of" "Units.index_of" s_Units_index_of f_Units_index_of fd_Units_index_of
  me_Units_index_of : Meth K C_Units "index_of" f_Units_index_of
  b_Units_index_of : Binds K fd_Units_index_of ["self", "unit"] []
  F_compose : Fun K "compose" "compose" s_compose f_compose fd_compose
  g_compose : mg "compose" = some (.ref f_compose)
  k_compose : PySem.W.keepIn K (.ref f_compose) = true
  b_compose : Binds K fd_compose ["m", "first", "second"] []
  F_is_map : Fun K "is_map" "is_map" s_is_map f_is_map fd_is_map
  g_is_map : mg "is_map" = some (.ref f_is_map)
  k_is_map : PySem.W.keepIn K (.ref f_is_map) = true
  b_is_map : Binds K fd_is_map ["m", "value"] []
  F_commuting_index : Fun K "commuting_index" "commuting_index" s_commuting_index f_commuting_index fd_commuting_index
  g_commuting_index : mg "commuting_index" = some (.ref f_commuting_index)
  k_commuting_index : PySem.W.keepIn K (.ref f_commuting_index) = true
  b_commuting_index : Binds K fd_commuting_index ["m", "f", "g"] []
  F_law : Fun K "law" "law" s_law f_law fd_law
  g_law : mg "law" = some (.ref f_law)
  lt_law : ∃ c P, PySem.W.tabIn K "law" = some (c, P) ∧ fd_law.code = .ref c
  k_law : PySem.W.keepIn K (.ref f_law) = true
  b_law : Binds K fd_law ["script"] []
  g_Units : mg "Units" = some (.ref C_Units)
  cl_Units : Cls K C_Units
  mk_Units : Mk K C_Units f_Units_init
  n_Units_m : NoAttr K C_Units "m"
  n_Units_stride : NoAttr K C_Units "stride"
  n_Units_residue : NoAttr K C_Units "residue"
  n_Units_sieve : NoAttr K C_Units "sieve"
  x_OutOfRange : ∃ fI, PySem.DLX.XTxt K mg "OutOfRange" C_OutOfRange fI "IndexError" "IndexError.__new__" "IndexError.__init__" [.type "IndexError", .type "LookupError", .type "Exception", .type "BaseException", .type "object"] ["value"]
  xi_OutOfRange : XIs K C_OutOfRange
  xk_OutOfRange_IndexError : PySem.W.kitOne K (.ref C_OutOfRange) (.type "IndexError") = some true
  z_IndexError : mg "IndexError" = none
  z_abs : mg "abs" = none
  z_all : mg "all" = none
  z_bool : mg "bool" = none
  z_int : mg "int" = none
  z_isinstance : mg "isinstance" = none
  z_len : mg "len" = none
  z_list : mg "list" = none
  z_min : mg "min" = none
  z_range : mg "range" = none
  z_repr : mg "repr" = none
  z_sorted : mg "sorted" = none
  z_sum : mg "sum" = none
  z_tuple : mg "tuple" = none
  e_PRIMES : ∃ a, mg "PRIMES" = some (.ref a) ∧ Rep K (fun _ => none) (.ref a) d_PRIMES
section
variable {P : Program} {w : World} {K : PySem.W.Frag} {mg : Str → Option Value} {base : Heap} {f__law_draw f__law_pick f__law_any_value f__law_caught f__law_compose f__law_gcd f__law_is_integer f__law_is_map f__law_divisors f__law_unit f__law_map f__law_shuffled f__law_modulus f__law_pen f_Units_count_below f_Units_at f_Units_count f_unit_inverse f_Units_excluded f_prime_factors f_Units_init f_gcd f_commuting_units f_commuting_count f_is_integer f_is_between f_solution f_commuting_at f_Units_index_of f_compose f_is_map f_commuting_index f_law C_Units C_OutOfRange : Addr} {fd__law_draw fd__law_pick fd__law_any_value fd__law_caught fd__law_compose fd__law_gcd fd__law_is_integer fd__law_is_map fd__law_divisors fd__law_unit fd__law_map fd__law_shuffled fd__law_modulus fd__law_pen fd_Units_count_below fd_Units_at fd_Units_count fd_unit_inverse fd_Units_excluded fd_prime_factors fd_Units_init fd_gcd fd_commuting_units fd_commuting_count fd_is_integer fd_is_between fd_solution fd_commuting_at fd_Units_index_of fd_compose fd_is_map fd_commuting_index fd_law : FuncData}
theorem ok__law_draw (T : Tx K mg f__law_draw f__law_pick f__law_any_value f__law_caught f__law_compose f__law_gcd f__law_is_integer f__law_is_map f__law_divisors f__law_unit f__law_map f__law_shuffled f__law_modulus f__law_pen f_Units_count_below f_Units_at f_Units_count f_unit_inverse f_Units_excluded f_prime_factors f_Units_init f_gcd f_commuting_units f_commuting_count f_is_integer f_is_between f_solution f_commuting_at f_Units_index_of f_compose f_is_map f_commuting_index f_law C_Units C_OutOfRange fd__law_draw fd__law_pick fd__law_any_value fd__law_caught fd__law_compose fd__law_gcd fd__law_is_integer fd__law_is_map fd__law_divisors fd__law_unit fd__law_map fd__law_shuffled fd__law_modulus fd__law_pen fd_Units_count_below fd_Units_at fd_Units_count fd_unit_inverse fd_Units_excluded fd_prime_factors fd_Units_init fd_gcd fd_commuting_units fd_commuting_count fd_is_integer fd_is_between fd_solution fd_commuting_at fd_Units_index_of fd_compose fd_is_map fd_commuting_index fd_law) (tbs : TBs K mg base) : FnG P w K mg base 1 f__law_draw fd__law_draw ["pen", "many"] m__law_draw :=
  def_ok T.F__law_draw sc__law_draw (by decide) g__law_draw fun cdv A outer s H E bx => 
    dss_cons (ds_if (dt_cmp op_gt s2Gt (de_dget (de_var 0) (de_const pe_str) bx.room) (de_const pe_int) (nomark _)) (dss_cons (ds_set 2 (de_op op_mod s2Mod (de_dget (de_var 0) (de_const pe_str) bx.room) (de_var 1)) sc__law_draw.nd)
    (dss_cons (ds_store 0 (de_op op_fdivW s2Fdiv (de_dget (de_var 0) (de_const pe_str) bx.room) (de_var 1)) (de_const pe_str) bx.room)
    (dss_one (ds_ret (de_var 2))))) (dss_nil))
    (dss_cons (ds_set 3 (de_dget (de_var 0) (de_const pe_str) bx.room) sc__law_draw.nd)
    (dss_cons (ds_store 0 (de_opT opAdd s2Add (de_var 3) (de_const pe_int)) (de_const pe_str) bx.room)
    (dss_cons (ds_set 4 (de_opT opAdd s2Add (de_op opMul s2Mul (de_const pe_int) (de_var 3)) (de_const pe_int)) sc__law_draw.nd)
    (dss_cons (ds_if (dt_cmp (opNe bx.room) s2Ne (de_dget (de_var 0) (de_const pe_str) bx.room) (de_lst (da_nil)) (nomark _)) (dss_one (ds_set 4 (de_ix opIx s2Ix (de_dget (de_var 0) (de_const pe_str) bx.room) (de_op op_mod s2Mod (de_var 3) (de_callB opLen shLen T.z_len (by decide +kernel) (da_cons (de_dget (de_var 0) (de_const pe_str) bx.room) (da_nil)))) (fun _ _ => rfl)) sc__law_draw.nd)) (dss_nil))
    (dss_cons (ds_if (PW.pt (dw_and (dt_cmp opLt s2Lt (de_var 3) (de_callB opLen shLen T.z_len (by decide +kernel) (da_cons (de_dget (de_var 0) (de_const pe_str) bx.room) (da_nil))) (nomark _)) (dw_and1 (dt_cmp op_ge s2Ge (de_callB call_abs shAbs T.z_abs (by decide +kernel) (da_cons (de_var 4) (da_nil))) (de_op op_pow s2Pow (de_const pe_int) (de_const pe_int)) (nomark _))))) (dss_cons (ds_store 0 (de_op op_fdivW s2Fdiv (de_op op_sub s2Sub (de_callB call_abs shAbs T.z_abs (by decide +kernel) (da_cons (de_var 4) (da_nil))) (de_op op_pow s2Pow (de_const pe_int) (de_const pe_int))) (de_var 1)) (de_const pe_str) bx.room)
    (dss_one (ds_ret (de_op op_mod s2Mod (de_op op_sub s2Sub (de_callB call_abs shAbs T.z_abs (by decide +kernel) (da_cons (de_var 4) (da_nil))) (de_op op_pow s2Pow (de_const pe_int) (de_const pe_int))) (de_var 1))))) (dss_nil))
    (dss_cons (ds_set 5 (de_lst (da_cons (de_keep (de_const pe_int)) (da_cons (de_keep (de_const pe_int)) (da_cons (de_keep (de_const pe_int)) (da_cons (de_keep (de_const pe_int)) (da_cons (de_keep (de_const pe_int)) (da_nil))))))) sc__law_draw.nd)
    (dss_cons (ds_set 6 (de_ix opIx s2Ix (de_var 5) (de_op op_mod s2Mod (de_var 3) (de_const pe_int)) (fun _ _ => rfl)) sc__law_draw.nd)
    (dss_cons (ds_set 7 (de_op op_mod s2Mod (de_opT opAdd s2Add (de_opT opAdd s2Add (de_op opMul s2Mul (de_op op_mod s2Mod (de_var 4) (de_var 6)) (de_const pe_int)) (de_op opMul s2Mul (de_op opMul s2Mul (de_const pe_int) (de_var 3)) (de_var 3))) (de_const pe_int)) (de_var 6)) sc__law_draw.nd)
    (dss_cons (ds_set 7 (de_op op_mod s2Mod (de_op opMul s2Mul (de_var 7) (de_opT opAdd s2Add (de_var 7) (de_const pe_int))) (de_ix opIx s2Ix (de_var 5) (de_op op_mod s2Mod (de_opT opAdd s2Add (de_var 3) (de_const pe_int)) (de_const pe_int)) (fun _ _ => rfl))) sc__law_draw.nd)
    (dss_one (ds_ret (de_op op_mod s2Mod (de_op op_fdivW s2Fdiv (de_op op_mod s2Mod (de_op opMul s2Mul (de_var 7) (de_var 7)) (de_const pe_int)) (de_const pe_int)) (de_var 1)))))))))))))
theorem ok__law_pick (T : Tx K mg f__law_draw f__law_pick f__law_any_value f__law_caught f__law_compose f__law_gcd f__law_is_integer f__law_is_map f__law_divisors f__law_unit f__law_map f__law_shuffled f__law_modulus f__law_pen f_Units_count_below f_Units_at f_Units_count f_unit_inverse f_Units_excluded f_prime_factors f_Units_init f_gcd f_commuting_units f_commuting_count f_is_integer f_is_between f_solution f_commuting_at f_Units_index_of f_compose f_is_map f_commuting_index f_law C_Units C_OutOfRange fd__law_draw fd__law_pick fd__law_any_value fd__law_caught fd__law_compose fd__law_gcd fd__law_is_integer fd__law_is_map fd__law_divisors fd__law_unit fd__law_map fd__law_shuffled fd__law_modulus fd__law_pen fd_Units_count_below fd_Units_at fd_Units_count fd_unit_inverse fd_Units_excluded fd_prime_factors fd_Units_init fd_gcd fd_commuting_units fd_commuting_count fd_is_integer fd_is_between fd_solution fd_commuting_at fd_Units_index_of fd_compose fd_is_map fd_commuting_index fd_law) (tbs : TBs K mg base) : FnG P w K mg base 2 f__law_pick fd__law_pick ["pen", "some"] m__law_pick :=
  def_ok T.F__law_pick sc__law_pick (by decide) g__law_pick fun cdv A outer s H E bx => 
    dss_one (ds_ret (de_ix opIx s2Ix (de_var 1) (de_call (ok__law_draw T tbs) (bx.room.mono (by decide)) bx.tk T.g__law_draw T.k__law_draw T.b__law_draw .nil .nil (da_cons (de_var 0) (da_cons (de_keep (de_callB opLen shLen T.z_len (by decide +kernel) (da_cons (de_var 1) (da_nil)))) (da_nil)))) (fun _ _ => rfl)))
theorem ok__law_any_value (T : Tx K mg f__law_draw f__law_pick f__law_any_value f__law_caught f__law_compose f__law_gcd f__law_is_integer f__law_is_map f__law_divisors f__law_unit f__law_map f__law_shuffled f__law_modulus f__law_pen f_Units_count_below f_Units_at f_Units_count f_unit_inverse f_Units_excluded f_prime_factors f_Units_init f_gcd f_commuting_units f_commuting_count f_is_integer f_is_between f_solution f_commuting_at f_Units_index_of f_compose f_is_map f_commuting_index f_law C_Units C_OutOfRange fd__law_draw fd__law_pick fd__law_any_value fd__law_caught fd__law_compose fd__law_gcd fd__law_is_integer fd__law_is_map fd__law_divisors fd__law_unit fd__law_map fd__law_shuffled fd__law_modulus fd__law_pen fd_Units_count_below fd_Units_at fd_Units_count fd_unit_inverse fd_Units_excluded fd_prime_factors fd_Units_init fd_gcd fd_commuting_units fd_commuting_count fd_is_integer fd_is_between fd_solution fd_commuting_at fd_Units_index_of fd_compose fd_is_map fd_commuting_index fd_law) (tbs : TBs K mg base) : FnG P w K mg base 3 f__law_any_value fd__law_any_value ["pen"] m__law_any_value :=
  def_ok T.F__law_any_value sc__law_any_value (by decide) g__law_any_value fun cdv A outer s H E bx => 
    dss_cons (ds_set 1 (de_lst (da_cons (de_keep (de_const pe_non)) (da_cons (de_keep (de_const pe_bl)) (da_cons (de_keep (de_const pe_bl)) (da_cons (de_keep (de_const pe_int)) (da_cons (de_keep (de_const pe_int)) (da_cons (de_keep (de_un un_neg s1Neg (de_const pe_int))) (da_cons (de_keep (de_op op_pow s2Pow (de_const pe_int) (de_const pe_int))) (da_cons (de_keep (de_const pe_str)) (da_cons (de_keep (de_const pe_str)) (da_cons (de_keep (de_const pe_str)) (da_cons (de_keep (de_tup (da_nil))) (da_cons (de_keep (de_lst (da_nil))) (da_cons (de_keep (de_dict0)) (da_cons (de_keep (de_tup (da_cons (de_keep (de_const pe_int)) (da_nil)))) (da_cons (de_keep (de_lst (da_cons (de_keep (de_const pe_int)) (da_nil)))) (da_cons (de_keep (de_tup (da_cons (de_keep (de_const pe_int)) (da_cons (de_keep (de_tup (da_nil))) (da_nil))))) (da_cons (de_keep (de_tup (da_cons (de_keep (de_const pe_int)) (da_cons (de_keep (de_lst (da_nil))) (da_nil))))) (da_nil))))))))))))))))))) sc__law_any_value.nd)
    (dss_cons (ds_set 1 (de_opT opAdd s2Add (de_var 1) (de_lst (da_cons (de_keep (de_tup (da_cons (de_keep (de_const pe_int)) (da_cons (de_keep (de_tup (da_cons (de_keep (de_const pe_int)) (da_nil)))) (da_nil))))) (da_cons (de_keep (de_tup (da_cons (de_keep (de_const pe_str)) (da_cons (de_keep (de_const pe_int)) (da_cons (de_keep (de_tup (da_cons (de_keep (de_const pe_int)) (da_cons (de_keep (de_tup (da_nil))) (da_nil))))) (da_nil)))))) (da_cons (de_keep (de_tup (da_cons (de_keep (de_const pe_str)) (da_cons (de_keep (de_const pe_int)) (da_cons (de_keep (de_const pe_int)) (da_cons (de_keep (de_tup (da_cons (de_keep (de_const pe_int)) (da_cons (de_keep (de_tup (da_nil))) (da_nil))))) (da_cons (de_keep (de_const pe_int)) (da_nil)))))))) (da_cons (de_keep (de_disp ([Sum.inr "a"]) (Es := [eC (.int 1)]) (pps_cons pe_str (de_keep (de_const pe_int)) (pps_nil)))) (da_cons (de_keep (de_tup (da_cons (de_keep (de_const pe_bl)) (da_cons (de_keep (de_tup (da_nil))) (da_nil))))) (da_cons (de_keep (de_tup (da_cons (de_keep (de_tup (da_nil))) (da_nil)))) (da_cons (de_keep (de_const pe_str)) (da_nil)))))))))) sc__law_any_value.nd)
    (dss_one (ds_ret (de_call (ok__law_pick T tbs) (bx.room.mono (by decide)) bx.tk T.g__law_pick T.k__law_pick T.b__law_pick .nil .nil (da_cons (de_var 0) (da_cons (de_keep (de_var 1)) (da_nil)))))))
theorem ok__law_compose (T : Tx K mg f__law_draw f__law_pick f__law_any_value f__law_caught f__law_compose f__law_gcd f__law_is_integer f__law_is_map f__law_divisors f__law_unit f__law_map f__law_shuffled f__law_modulus f__law_pen f_Units_count_below f_Units_at f_Units_count f_unit_inverse f_Units_excluded f_prime_factors f_Units_init f_gcd f_commuting_units f_commuting_count f_is_integer f_is_between f_solution f_commuting_at f_Units_index_of f_compose f_is_map f_commuting_index f_law C_Units C_OutOfRange fd__law_draw fd__law_pick fd__law_any_value fd__law_caught fd__law_compose fd__law_gcd fd__law_is_integer fd__law_is_map fd__law_divisors fd__law_unit fd__law_map fd__law_shuffled fd__law_modulus fd__law_pen fd_Units_count_below fd_Units_at fd_Units_count fd_unit_inverse fd_Units_excluded fd_prime_factors fd_Units_init fd_gcd fd_commuting_units fd_commuting_count fd_is_integer fd_is_between fd_solution fd_commuting_at fd_Units_index_of fd_compose fd_is_map fd_commuting_index fd_law) (tbs : TBs K mg base) : FnG P w K mg base 1 f__law_compose fd__law_compose ["m", "first", "second"] m__law_compose :=
  def_ok T.F__law_compose sc__law_compose (by decide) g__law_compose fun cdv A outer s H E bx => 
    dss_one (ds_ret (de_tup (da_cons (de_keep (de_op op_mod s2Mod (de_op opMul s2Mul (de_ix opIx s2Ix (de_var 1) (de_const pe_int) (fun _ _ => rfl)) (de_ix opIx s2Ix (de_var 2) (de_const pe_int) (fun _ _ => rfl))) (de_var 0))) (da_cons (de_keep (de_op op_mod s2Mod (de_opT opAdd s2Add (de_op opMul s2Mul (de_ix opIx s2Ix (de_var 2) (de_const pe_int) (fun _ _ => rfl)) (de_ix opIx s2Ix (de_var 1) (de_const pe_int) (fun _ _ => rfl))) (de_ix opIx s2Ix (de_var 2) (de_const pe_int) (fun _ _ => rfl))) (de_var 0))) (da_nil)))))
theorem ok__law_gcd (T : Tx K mg f__law_draw f__law_pick f__law_any_value f__law_caught f__law_compose f__law_gcd f__law_is_integer f__law_is_map f__law_divisors f__law_unit f__law_map f__law_shuffled f__law_modulus f__law_pen f_Units_count_below f_Units_at f_Units_count f_unit_inverse f_Units_excluded f_prime_factors f_Units_init f_gcd f_commuting_units f_commuting_count f_is_integer f_is_between f_solution f_commuting_at f_Units_index_of f_compose f_is_map f_commuting_index f_law C_Units C_OutOfRange fd__law_draw fd__law_pick fd__law_any_value fd__law_caught fd__law_compose fd__law_gcd fd__law_is_integer fd__law_is_map fd__law_divisors fd__law_unit fd__law_map fd__law_shuffled fd__law_modulus fd__law_pen fd_Units_count_below fd_Units_at fd_Units_count fd_unit_inverse fd_Units_excluded fd_prime_factors fd_Units_init fd_gcd fd_commuting_units fd_commuting_count fd_is_integer fd_is_between fd_solution fd_commuting_at fd_Units_index_of fd_compose fd_is_map fd_commuting_index fd_law) (tbs : TBs K mg base) : FnG P w K mg base 1 f__law_gcd fd__law_gcd ["one", "other"] m__law_gcd :=
  def_ok T.F__law_gcd sc__law_gcd (by decide) g__law_gcd fun cdv A outer s H E bx => 
    dss_cons (ds_while (dt_cmp (opNe bx.room) s2Ne (de_var 1) (de_const pe_int) (nomark _)) (dss_one (ds_par 0 1 (da_cons (de_solid (de_var 1)) (da_cons (de_solid (de_op op_mod s2Mod (de_var 0) (de_var 1))) (da_nil))) rfl sc__law_gcd.nd (by rfl))) bx.own)
    (dss_one (ds_ret (de_callB call_abs shAbs T.z_abs (by decide +kernel) (da_cons (de_var 0) (da_nil)))))
theorem ok__law_is_integer (T : Tx K mg f__law_draw f__law_pick f__law_any_value f__law_caught f__law_compose f__law_gcd f__law_is_integer f__law_is_map f__law_divisors f__law_unit f__law_map f__law_shuffled f__law_modulus f__law_pen f_Units_count_below f_Units_at f_Units_count f_unit_inverse f_Units_excluded f_prime_factors f_Units_init f_gcd f_commuting_units f_commuting_count f_is_integer f_is_between f_solution f_commuting_at f_Units_index_of f_compose f_is_map f_commuting_index f_law C_Units C_OutOfRange fd__law_draw fd__law_pick fd__law_any_value fd__law_caught fd__law_compose fd__law_gcd fd__law_is_integer fd__law_is_map fd__law_divisors fd__law_unit fd__law_map fd__law_shuffled fd__law_modulus fd__law_pen fd_Units_count_below fd_Units_at fd_Units_count fd_unit_inverse fd_Units_excluded fd_prime_factors fd_Units_init fd_gcd fd_commuting_units fd_commuting_count fd_is_integer fd_is_between fd_solution fd_commuting_at fd_Units_index_of fd_compose fd_is_map fd_commuting_index fd_law) (tbs : TBs K mg base) : FnG P w K mg base 1 f__law_is_integer fd__law_is_integer ["value"] m__law_is_integer :=
  def_ok T.F__law_is_integer sc__law_is_integer (by decide) g__law_is_integer fun cdv A outer s H E bx => 
    dss_one (ds_ret (de_and (de_callB call_isi shIsi T.z_isinstance (by decide +kernel) (da_cons (de_var 0) (da_cons (de_const (pe_bltn (v := .ty "int") rfl T.z_int (by decide +kernel) rfl)) (da_nil)))) (de_one (de_not (de_callB call_isi shIsi T.z_isinstance (by decide +kernel) (da_cons (de_var 0) (da_cons (de_const (pe_bltn (v := .ty "bool") rfl T.z_bool (by decide +kernel) rfl)) (da_nil))))))))
theorem ok__law_is_map (T : Tx K mg f__law_draw f__law_pick f__law_any_value f__law_caught f__law_compose f__law_gcd f__law_is_integer f__law_is_map f__law_divisors f__law_unit f__law_map f__law_shuffled f__law_modulus f__law_pen f_Units_count_below f_Units_at f_Units_count f_unit_inverse f_Units_excluded f_prime_factors f_Units_init f_gcd f_commuting_units f_commuting_count f_is_integer f_is_between f_solution f_commuting_at f_Units_index_of f_compose f_is_map f_commuting_index f_law C_Units C_OutOfRange fd__law_draw fd__law_pick fd__law_any_value fd__law_caught fd__law_compose fd__law_gcd fd__law_is_integer fd__law_is_map fd__law_divisors fd__law_unit fd__law_map fd__law_shuffled fd__law_modulus fd__law_pen fd_Units_count_below fd_Units_at fd_Units_count fd_unit_inverse fd_Units_excluded fd_prime_factors fd_Units_init fd_gcd fd_commuting_units fd_commuting_count fd_is_integer fd_is_between fd_solution fd_commuting_at fd_Units_index_of fd_compose fd_is_map fd_commuting_index fd_law) (tbs : TBs K mg base) : FnG P w K mg base 2 f__law_is_map fd__law_is_map ["m", "value"] m__law_is_map_v2 :=
  def_ok T.F__law_is_map sc__law_is_map (by decide) g__law_is_map_v2 fun cdv A outer s H E bx => 
    dss_cons (ds_if (PW.pt (dw_or (dt_not (dt_val (de_callB call_isi shIsi T.z_isinstance (by decide +kernel) (da_cons (de_var 1) (da_cons (de_const (pe_bltn (v := .ty "tuple") rfl T.z_tuple (by decide +kernel) rfl)) (da_nil)))))) (dw_or1 (dt_cmp (opNe bx.room) s2Ne (de_callB opLen shLen T.z_len (by decide +kernel) (da_cons (de_var 1) (da_nil))) (de_const pe_int) (nomark _))))) (dss_one (ds_ret (de_const pe_bl))) (dss_nil))
    (dss_cons (ds_if (dt_cmp (opNeE bx.room) s2NeE (de_lc (own := [("one", 2)]) (di_seq (de_var 1)) sc__law_is_map.nd (blkOk_by (own := [("one", 2)]) (N := ["m", "value", "one"]) (sc := defScope s__law_is_map) (by decide +kernel)) (fun _ _ _ _ _ => dg_name 2 sc__law_is_map.nd) (fun _ _ _ _ _ => dts_one (PW.pt (dw_or (dt_not (dt_val (de_call (ok__law_is_integer T tbs) (bx.room.mono (by decide)) takes0 T.g__law_is_integer T.k__law_is_integer T.b__law_is_integer .nil .nil (da_cons (de_keep (de_var 2)) (da_nil))))) (dw_or1 (dt_not (dt_chain op_le opLt s2Le s2Lt (de_const pe_int) (de_var 2) (de_var 0))))))) (fun _ _ _ _ _ => de_var 2)) (de_lst (da_nil)) (nomark _)) (dss_one (ds_ret (de_const pe_bl))) (dss_nil))
    (dss_one (ds_ret (de_cmp (opEq bx.room) s2Eq (de_call (ok__law_gcd T tbs) (bx.room.mono (by decide)) bx.tk T.g__law_gcd T.k__law_gcd T.b__law_gcd .nil .nil (da_cons (de_keep (de_ix opIx s2Ix (de_var 1) (de_const pe_int) (fun _ _ => rfl))) (da_cons (de_keep (de_var 0)) (da_nil)))) (de_const pe_int) (nomark _)))))
theorem ok__law_divisors (T : Tx K mg f__law_draw f__law_pick f__law_any_value f__law_caught f__law_compose f__law_gcd f__law_is_integer f__law_is_map f__law_divisors f__law_unit f__law_map f__law_shuffled f__law_modulus f__law_pen f_Units_count_below f_Units_at f_Units_count f_unit_inverse f_Units_excluded f_prime_factors f_Units_init f_gcd f_commuting_units f_commuting_count f_is_integer f_is_between f_solution f_commuting_at f_Units_index_of f_compose f_is_map f_commuting_index f_law C_Units C_OutOfRange fd__law_draw fd__law_pick fd__law_any_value fd__law_caught fd__law_compose fd__law_gcd fd__law_is_integer fd__law_is_map fd__law_divisors fd__law_unit fd__law_map fd__law_shuffled fd__law_modulus fd__law_pen fd_Units_count_below fd_Units_at fd_Units_count fd_unit_inverse fd_Units_excluded fd_prime_factors fd_Units_init fd_gcd fd_commuting_units fd_commuting_count fd_is_integer fd_is_between fd_solution fd_commuting_at fd_Units_index_of fd_compose fd_is_map fd_commuting_index fd_law) (tbs : TBs K mg base) : FnG P w K mg base 1 f__law_divisors fd__law_divisors ["m"] m__law_divisors :=
  def_ok T.F__law_divisors sc__law_divisors (by decide) g__law_divisors fun cdv A outer s H E bx => 
    dss_cons (ds_par 1 2 (da_cons (de_solid (de_lst (da_cons (de_keep (de_const pe_int)) (da_nil)))) (da_cons (de_solid (de_var 0)) (da_nil))) rfl sc__law_divisors.nd (by rfl))
    (dss_cons (ds_for (di_seq (de_tup (da_cons (de_keep (de_const pe_int)) (da_cons (de_keep (de_const pe_int)) (da_cons (de_keep (de_const pe_int)) (da_cons (de_keep (de_const pe_int)) (da_cons (de_keep (de_const pe_int)) (da_cons (de_keep (de_const pe_int)) (da_nil))))))))) (dg_name 3 sc__law_divisors.nd) (dss_cons (ds_set 4 (de_lst (da_cons (de_keep (de_const pe_int)) (da_nil))) sc__law_divisors.nd)
    (dss_cons (ds_while (dt_cmp (opEq bx.room) s2Eq (de_op op_mod s2Mod (de_var 2) (de_var 3)) (de_const pe_int) (nomark _)) (dss_cons (ds_set 2 (de_op op_fdivW s2Fdiv (de_var 2) (de_var 3)) sc__law_divisors.nd)
    (dss_one (ds_expr (de_mut 4 PySem.F.plainAttrs_list PySem.F.slot_list_append PySem.F.type_list_append mt_append smAppend (da_cons (de_keep (de_op opMul s2Mul (de_ix opIx s2Ix (de_var 4) (de_un un_neg s1Neg (de_const pe_int)) (fun _ _ => rfl)) (de_var 3))) (da_nil)))))) bx.own)
    (dss_cons (ds_set 5 (de_lst (da_nil)) sc__law_divisors.nd)
    (dss_cons (ds_for (di_seq (de_var 4)) (dg_name 6 sc__law_divisors.nd) (dss_one (ds_expr (de_mut 5 PySem.F.plainAttrs_list PySem.F.slot_list_extend PySem.F.type_list_extend mt_extend smExtend (da_cons (de_keep (de_lc (own := [("one", 7)]) (di_seq (de_var 1)) sc__law_divisors.nd (blkOk_by (own := [("one", 7)]) (N := ["m", "found", "left", "prime", "powers", "every", "factor", "one"]) (sc := defScope s__law_divisors) (by decide +kernel)) (fun _ _ _ _ _ => dg_name 7 sc__law_divisors.nd) (fun _ _ _ _ _ => dts_nil) (fun _ _ _ _ _ => de_op opMul s2Mul (de_var 7) (de_var 6)))) (da_nil))))) bx.own)
    (dss_one (ds_set 1 (de_var 5) sc__law_divisors.nd)))))) bx.own)
    (dss_one (ds_ret (de_callB cr_sortedI shSorted T.z_sorted (by decide +kernel) (da_cons (de_var 1) (da_nil))))))
theorem ok__law_unit (T : Tx K mg f__law_draw f__law_pick f__law_any_value f__law_caught f__law_compose f__law_gcd f__law_is_integer f__law_is_map f__law_divisors f__law_unit f__law_map f__law_shuffled f__law_modulus f__law_pen f_Units_count_below f_Units_at f_Units_count f_unit_inverse f_Units_excluded f_prime_factors f_Units_init f_gcd f_commuting_units f_commuting_count f_is_integer f_is_between f_solution f_commuting_at f_Units_index_of f_compose f_is_map f_commuting_index f_law C_Units C_OutOfRange fd__law_draw fd__law_pick fd__law_any_value fd__law_caught fd__law_compose fd__law_gcd fd__law_is_integer fd__law_is_map fd__law_divisors fd__law_unit fd__law_map fd__law_shuffled fd__law_modulus fd__law_pen fd_Units_count_below fd_Units_at fd_Units_count fd_unit_inverse fd_Units_excluded fd_prime_factors fd_Units_init fd_gcd fd_commuting_units fd_commuting_count fd_is_integer fd_is_between fd_solution fd_commuting_at fd_Units_index_of fd_compose fd_is_map fd_commuting_index fd_law) (tbs : TBs K mg base) : FnG P w K mg base 3 f__law_unit fd__law_unit ["pen", "m"] m__law_unit :=
  def_ok T.F__law_unit sc__law_unit (by decide) g__law_unit fun cdv A outer s H E bx => 
    dss_cons (ds_set 2 (de_call (ok__law_pick T tbs) (bx.room.mono (by decide)) bx.tk T.g__law_pick T.k__law_pick T.b__law_pick .nil .nil (da_cons (de_var 0) (da_cons (de_keep (de_call (ok__law_divisors T tbs) (bx.room.mono (by decide)) bx.tk T.g__law_divisors T.k__law_divisors T.b__law_divisors .nil .nil (da_cons (de_keep (de_var 1)) (da_nil)))) (da_nil)))) sc__law_unit.nd)
    (dss_cons (ds_set 3 (de_op opMul s2Mul (de_var 2) (de_call (ok__law_draw T tbs) (bx.room.mono (by decide)) bx.tk T.g__law_draw T.k__law_draw T.b__law_draw .nil .nil (da_cons (de_var 0) (da_cons (de_keep (de_var 1)) (da_nil))))) sc__law_unit.nd)
    (dss_cons (ds_set 4 (de_op op_mod s2Mod (de_call (ok__law_pick T tbs) (bx.room.mono (by decide)) bx.tk T.g__law_pick T.k__law_pick T.b__law_pick .nil .nil (da_cons (de_var 0) (da_cons (de_keep (de_lst (da_cons (de_keep (de_const pe_int)) (da_cons (de_keep (de_op op_sub s2Sub (de_var 1) (de_const pe_int))) (da_cons (de_keep (de_opT opAdd s2Add (de_const pe_int) (de_var 3))) (da_cons (de_keep (de_opT opAdd s2Add (de_op op_sub s2Sub (de_var 1) (de_const pe_int)) (de_var 3))) (da_cons (de_keep (de_call (ok__law_draw T tbs) (bx.room.mono (by decide)) bx.tk T.g__law_draw T.k__law_draw T.b__law_draw .nil .nil (da_cons (de_var 0) (da_cons (de_keep (de_var 1)) (da_nil))))) (da_nil)))))))) (da_nil)))) (de_var 1)) sc__law_unit.nd)
    (dss_cons (ds_while (dt_cmp (opNe bx.room) s2Ne (de_call (ok__law_gcd T tbs) (bx.room.mono (by decide)) bx.tk T.g__law_gcd T.k__law_gcd T.b__law_gcd .nil .nil (da_cons (de_keep (de_var 4)) (da_cons (de_keep (de_var 1)) (da_nil)))) (de_const pe_int) (nomark _)) (dss_one (ds_set 4 (de_op op_mod s2Mod (de_opT opAdd s2Add (de_var 4) (de_const pe_int)) (de_var 1)) sc__law_unit.nd)) bx.own)
    (dss_one (ds_ret (de_var 4))))))
theorem ok__law_map (T : Tx K mg f__law_draw f__law_pick f__law_any_value f__law_caught f__law_compose f__law_gcd f__law_is_integer f__law_is_map f__law_divisors f__law_unit f__law_map f__law_shuffled f__law_modulus f__law_pen f_Units_count_below f_Units_at f_Units_count f_unit_inverse f_Units_excluded f_prime_factors f_Units_init f_gcd f_commuting_units f_commuting_count f_is_integer f_is_between f_solution f_commuting_at f_Units_index_of f_compose f_is_map f_commuting_index f_law C_Units C_OutOfRange fd__law_draw fd__law_pick fd__law_any_value fd__law_caught fd__law_compose fd__law_gcd fd__law_is_integer fd__law_is_map fd__law_divisors fd__law_unit fd__law_map fd__law_shuffled fd__law_modulus fd__law_pen fd_Units_count_below fd_Units_at fd_Units_count fd_unit_inverse fd_Units_excluded fd_prime_factors fd_Units_init fd_gcd fd_commuting_units fd_commuting_count fd_is_integer fd_is_between fd_solution fd_commuting_at fd_Units_index_of fd_compose fd_is_map fd_commuting_index fd_law) (tbs : TBs K mg base) : FnG P w K mg base 4 f__law_map fd__law_map ["pen", "m"] m__law_map :=
  def_ok T.F__law_map sc__law_map (by decide) g__law_map fun cdv A outer s H E bx => 
    dss_cons (ds_set 2 (de_call (ok__law_pick T tbs) (bx.room.mono (by decide)) bx.tk T.g__law_pick T.k__law_pick T.b__law_pick .nil .nil (da_cons (de_var 0) (da_cons (de_keep (de_call (ok__law_divisors T tbs) (bx.room.mono (by decide)) bx.tk T.g__law_divisors T.k__law_divisors T.b__law_divisors .nil .nil (da_cons (de_keep (de_var 1)) (da_nil)))) (da_nil)))) sc__law_map.nd)
    (dss_one (ds_ret (de_tup (da_cons (de_keep (de_call (ok__law_unit T tbs) (bx.room.mono (by decide)) bx.tk T.g__law_unit T.k__law_unit T.b__law_unit .nil .nil (da_cons (de_var 0) (da_cons (de_keep (de_var 1)) (da_nil))))) (da_cons (de_keep (de_op op_mod s2Mod (de_op opMul s2Mul (de_var 2) (de_call (ok__law_draw T tbs) (bx.room.mono (by decide)) bx.tk T.g__law_draw T.k__law_draw T.b__law_draw .nil .nil (da_cons (de_var 0) (da_cons (de_keep (de_var 1)) (da_nil))))) (de_var 1))) (da_nil))))))
theorem ok__law_shuffled (T : Tx K mg f__law_draw f__law_pick f__law_any_value f__law_caught f__law_compose f__law_gcd f__law_is_integer f__law_is_map f__law_divisors f__law_unit f__law_map f__law_shuffled f__law_modulus f__law_pen f_Units_count_below f_Units_at f_Units_count f_unit_inverse f_Units_excluded f_prime_factors f_Units_init f_gcd f_commuting_units f_commuting_count f_is_integer f_is_between f_solution f_commuting_at f_Units_index_of f_compose f_is_map f_commuting_index f_law C_Units C_OutOfRange fd__law_draw fd__law_pick fd__law_any_value fd__law_caught fd__law_compose fd__law_gcd fd__law_is_integer fd__law_is_map fd__law_divisors fd__law_unit fd__law_map fd__law_shuffled fd__law_modulus fd__law_pen fd_Units_count_below fd_Units_at fd_Units_count fd_unit_inverse fd_Units_excluded fd_prime_factors fd_Units_init fd_gcd fd_commuting_units fd_commuting_count fd_is_integer fd_is_between fd_solution fd_commuting_at fd_Units_index_of fd_compose fd_is_map fd_commuting_index fd_law) (tbs : TBs K mg base) : FnG P w K mg base 2 f__law_shuffled fd__law_shuffled ["pen", "some"] m__law_shuffled :=
  def_ok T.F__law_shuffled sc__law_shuffled (by decide) g__law_shuffled fun cdv A outer s H E bx => 
    dss_cons (ds_par 2 3 (da_cons (de_solid (de_callTy call_list_of shList T.z_list (by decide +kernel) (da_cons (de_var 1) (da_nil)))) (da_cons (de_solid (de_lst (da_nil))) (da_nil))) rfl sc__law_shuffled.nd (by rfl))
    (dss_cons (ds_while (dt_cmp (opNe bx.room) s2Ne (de_var 2) (de_lst (da_nil)) (nomark _)) (dss_one (ds_expr (de_mut 3 PySem.F.plainAttrs_list PySem.F.slot_list_append PySem.F.type_list_append mt_append smAppend (da_cons (de_keep (de_mut 2 PySem.F.plainAttrs_list PySem.F.slot_list_pop PySem.F.type_list_pop mt_popAt smPopAt (da_cons (de_keep (de_call (ok__law_draw T tbs) (bx.room.mono (by decide)) bx.tk T.g__law_draw T.k__law_draw T.b__law_draw .nil .nil (da_cons (de_var 0) (da_cons (de_keep (de_callB opLen shLen T.z_len (by decide +kernel) (da_cons (de_var 2) (da_nil)))) (da_nil))))) (da_nil)))) (da_nil))))) bx.own)
    (dss_one (ds_ret (de_var 3))))
theorem ok__law_modulus (T : Tx K mg f__law_draw f__law_pick f__law_any_value f__law_caught f__law_compose f__law_gcd f__law_is_integer f__law_is_map f__law_divisors f__law_unit f__law_map f__law_shuffled f__law_modulus f__law_pen f_Units_count_below f_Units_at f_Units_count f_unit_inverse f_Units_excluded f_prime_factors f_Units_init f_gcd f_commuting_units f_commuting_count f_is_integer f_is_between f_solution f_commuting_at f_Units_index_of f_compose f_is_map f_commuting_index f_law C_Units C_OutOfRange fd__law_draw fd__law_pick fd__law_any_value fd__law_caught fd__law_compose fd__law_gcd fd__law_is_integer fd__law_is_map fd__law_divisors fd__law_unit fd__law_map fd__law_shuffled fd__law_modulus fd__law_pen fd_Units_count_below fd_Units_at fd_Units_count fd_unit_inverse fd_Units_excluded fd_prime_factors fd_Units_init fd_gcd fd_commuting_units fd_commuting_count fd_is_integer fd_is_between fd_solution fd_commuting_at fd_Units_index_of fd_compose fd_is_map fd_commuting_index fd_law) (tbs : TBs K mg base) : FnG P w K mg base 3 f__law_modulus fd__law_modulus ["pen", "most"] m__law_modulus :=
  def_ok T.F__law_modulus sc__law_modulus (by decide) g__law_modulus fun cdv A outer s H E bx => 
    dss_cons (ds_par 2 3 (da_cons (de_solid (de_const pe_int)) (da_cons (de_solid (de_opT opAdd s2Add (de_slice (de_call (ok__law_shuffled T tbs) (bx.room.mono (by decide)) bx.tk T.g__law_shuffled T.k__law_shuffled T.b__law_shuffled .nil .nil (da_cons (de_var 0) (da_cons (de_keep (de_lst (da_cons (de_keep (de_const pe_int)) (da_cons (de_keep (de_const pe_int)) (da_cons (de_keep (de_const pe_int)) (da_cons (de_keep (de_const pe_int)) (da_cons (de_keep (de_const pe_int)) (da_cons (de_keep (de_const pe_int)) (da_nil))))))))) (da_nil)))) do_none (do_some (de_opT opAdd s2Add (de_const pe_int) (de_call (ok__law_draw T tbs) (bx.room.mono (by decide)) bx.tk T.g__law_draw T.k__law_draw T.b__law_draw .nil .nil (da_cons (de_var 0) (da_cons (de_keep (de_const pe_int)) (da_nil))))))) (de_lst (da_cons (de_keep (de_const pe_int)) (da_nil))))) (da_nil))) rfl sc__law_modulus.nd (by rfl))
    (dss_cons (ds_for (di_range1 (da_cons (de_keep (de_opT opAdd s2Add (de_const pe_int) (de_call (ok__law_draw T tbs) (bx.room.mono (by decide)) bx.tk T.g__law_draw T.k__law_draw T.b__law_draw .nil .nil (da_cons (de_var 0) (da_cons (de_keep (de_const pe_int)) (da_nil)))))) (da_nil)) T.z_range) (dg_name 4 sc__law_modulus.nd) (dss_cons (ds_set 5 (de_call (ok__law_pick T tbs) (bx.room.mono (by decide)) bx.tk T.g__law_pick T.k__law_pick T.b__law_pick .nil .nil (da_cons (de_var 0) (da_cons (de_keep (de_var 3)) (da_nil)))) sc__law_modulus.nd)
    (dss_one (ds_if (dt_cmp op_le s2Le (de_op opMul s2Mul (de_var 2) (de_var 5)) (de_var 1) (nomark _)) (dss_one (ds_set 2 (de_op opMul s2Mul (de_var 2) (de_var 5)) sc__law_modulus.nd)) (dss_nil)))) bx.own)
    (dss_one (ds_ret (de_if (dt_cmp op_gt s2Gt (de_var 2) (de_const pe_int) (nomark _)) (de_var 2) (de_const pe_int)))))
theorem ok__law_pen (T : Tx K mg f__law_draw f__law_pick f__law_any_value f__law_caught f__law_compose f__law_gcd f__law_is_integer f__law_is_map f__law_divisors f__law_unit f__law_map f__law_shuffled f__law_modulus f__law_pen f_Units_count_below f_Units_at f_Units_count f_unit_inverse f_Units_excluded f_prime_factors f_Units_init f_gcd f_commuting_units f_commuting_count f_is_integer f_is_between f_solution f_commuting_at f_Units_index_of f_compose f_is_map f_commuting_index f_law C_Units C_OutOfRange fd__law_draw fd__law_pick fd__law_any_value fd__law_caught fd__law_compose fd__law_gcd fd__law_is_integer fd__law_is_map fd__law_divisors fd__law_unit fd__law_map fd__law_shuffled fd__law_modulus fd__law_pen fd_Units_count_below fd_Units_at fd_Units_count fd_unit_inverse fd_Units_excluded fd_prime_factors fd_Units_init fd_gcd fd_commuting_units fd_commuting_count fd_is_integer fd_is_between fd_solution fd_commuting_at fd_Units_index_of fd_compose fd_is_map fd_commuting_index fd_law) (tbs : TBs K mg base) : FnG P w K mg base 1 f__law_pen fd__law_pen ["script"] m__law_pen :=
  def_ok T.F__law_pen sc__law_pen (by decide) g__law_pen fun cdv A outer s H E bx => 
    dss_one (ds_ret (de_disp ([Sum.inr "cells", Sum.inr "turn", Sum.inr "rest"]) (Es := [eBI gList (aCons (eSlice (eVar 0) oNone (oSome (eC (.int 63)))) (aNil)), eC (.int 0), eC (.int 0)]) (pps_cons pe_str (de_keep (de_callTy call_list_of shList T.z_list (by decide +kernel) (da_cons (de_slice (de_var 0) do_none (do_some (de_const pe_int))) (da_nil)))) (pps_cons pe_str (de_keep (de_const pe_int)) (pps_cons pe_str (de_keep (de_const pe_int)) (pps_nil))))))
theorem ok_Units_count_below (T : Tx K mg f__law_draw f__law_pick f__law_any_value f__law_caught f__law_compose f__law_gcd f__law_is_integer f__law_is_map f__law_divisors f__law_unit f__law_map f__law_shuffled f__law_modulus f__law_pen f_Units_count_below f_Units_at f_Units_count f_unit_inverse f_Units_excluded f_prime_factors f_Units_init f_gcd f_commuting_units f_commuting_count f_is_integer f_is_between f_solution f_commuting_at f_Units_index_of f_compose f_is_map f_commuting_index f_law C_Units C_OutOfRange fd__law_draw fd__law_pick fd__law_any_value fd__law_caught fd__law_compose fd__law_gcd fd__law_is_integer fd__law_is_map fd__law_divisors fd__law_unit fd__law_map fd__law_shuffled fd__law_modulus fd__law_pen fd_Units_count_below fd_Units_at fd_Units_count fd_unit_inverse fd_Units_excluded fd_prime_factors fd_Units_init fd_gcd fd_commuting_units fd_commuting_count fd_is_integer fd_is_between fd_solution fd_commuting_at fd_Units_index_of fd_compose fd_is_map fd_commuting_index fd_law) (tbs : TBs K mg base) : FnG P w K mg base 1 f_Units_count_below fd_Units_count_below ["self", "limit"] (m_Units_count_below C_Units) :=
  def_ok T.F_Units_count_below sc_Units_count_below (by decide) (g_Units_count_below C_Units) fun cdv A outer s H E bx => 
    dss_cons (ds_setLc 2 (own := [("row", 3)]) (di_seq (de_fld T.cl_Units T.n_Units_sieve (de_var 0))) sc_Units_count_below.nd (blkOk_by (own := [("row", 3)]) (N := ["self", "limit", "rows", "row", "index", "product", "sign"]) (sc := defScope s_Units_count_below) (by decide +kernel)) (sw_true rfl rfl rfl (by decide +kernel)) (fun _ _ _ _ _ => dg_name 3 sc_Units_count_below.nd) (fun _ _ _ _ _ => dts_one (dt_cmp opLt s2Lt (de_ix opIx s2Ix (de_var 3) (de_const pe_int) (fun _ _ => rfl)) (de_var 1) (nomark _))) (fun _ _ _ _ _ => de_var 3))
    (dss_one (ds_ret (de_callB (cr_sum rfl) shSum T.z_sum (by decide +kernel) (da_cons (de_lc (own := [("index", 4), ("product", 5), ("sign", 6)]) (di_seq (de_var 2)) sc_Units_count_below.nd (blkOk_by (own := [("index", 4), ("product", 5), ("sign", 6)]) (N := ["self", "limit", "rows", "row", "index", "product", "sign"]) (sc := defScope s_Units_count_below) (by decide +kernel)) (fun _ _ _ _ _ => dg_tup (n := 3) (dgs_cons (dg_name 4 sc_Units_count_below.nd) (dgs_cons (dg_name 5 sc_Units_count_below.nd) (dgs_cons (dg_name 6 sc_Units_count_below.nd) (dgs_nil))))) (fun _ _ _ _ _ => dts_nil) (fun _ _ _ _ _ => de_op opMul s2Mul (de_var 6) (de_opT opAdd s2Add (de_op op_fdivW s2Fdiv (de_op op_sub s2Sub (de_op op_sub s2Sub (de_var 1) (de_const pe_int)) (de_var 4)) (de_var 5)) (de_const pe_int)))) (da_nil)))))
theorem ok_Units_at (T : Tx K mg f__law_draw f__law_pick f__law_any_value f__law_caught f__law_compose f__law_gcd f__law_is_integer f__law_is_map f__law_divisors f__law_unit f__law_map f__law_shuffled f__law_modulus f__law_pen f_Units_count_below f_Units_at f_Units_count f_unit_inverse f_Units_excluded f_prime_factors f_Units_init f_gcd f_commuting_units f_commuting_count f_is_integer f_is_between f_solution f_commuting_at f_Units_index_of f_compose f_is_map f_commuting_index f_law C_Units C_OutOfRange fd__law_draw fd__law_pick fd__law_any_value fd__law_caught fd__law_compose fd__law_gcd fd__law_is_integer fd__law_is_map fd__law_divisors fd__law_unit fd__law_map fd__law_shuffled fd__law_modulus fd__law_pen fd_Units_count_below fd_Units_at fd_Units_count fd_unit_inverse fd_Units_excluded fd_prime_factors fd_Units_init fd_gcd fd_commuting_units fd_commuting_count fd_is_integer fd_is_between fd_solution fd_commuting_at fd_Units_index_of fd_compose fd_is_map fd_commuting_index fd_law) (tbs : TBs K mg base) : FnG P w K mg base 2 f_Units_at fd_Units_at ["self", "index"] (m_Units_at C_Units) :=
  def_ok T.F_Units_at sc_Units_at (by decide) (g_Units_at C_Units) fun cdv A outer s H E bx => 
    dss_cons (ds_par 2 3 (da_cons (de_solid (de_const pe_int)) (da_cons (de_solid (de_op op_fdivW s2Fdiv (de_fld T.cl_Units T.n_Units_m (de_var 0)) (de_fld T.cl_Units T.n_Units_stride (de_var 0)))) (da_nil))) rfl sc_Units_at.nd (by rfl))
    (dss_cons (ds_while (dt_cmp op_gt s2Gt (de_op op_sub s2Sub (de_var 3) (de_var 2)) (de_const pe_int) (nomark _)) (dss_cons (ds_set 4 (de_op op_fdivW s2Fdiv (de_opT opAdd s2Add (de_var 2) (de_var 3)) (de_const pe_int)) sc_Units_at.nd)
    (dss_one (ds_if (dt_cmp op_le s2Le (de_meth (de_keep (de_var 0)) T.cl_Units T.me_Units_count_below (ok_Units_count_below T tbs) (bx.room.mono (by decide)) bx.tk T.b_Units_count_below .nil .nil (da_cons (de_keep (de_var 4)) (da_nil))) (de_var 1) (nomark _)) (dss_one (ds_set 2 (de_var 4) sc_Units_at.nd)) (dss_one (ds_set 3 (de_var 4) sc_Units_at.nd))))) bx.own)
    (dss_one (ds_ret (de_opT opAdd s2Add (de_fld T.cl_Units T.n_Units_residue (de_var 0)) (de_op opMul s2Mul (de_fld T.cl_Units T.n_Units_stride (de_var 0)) (de_var 2))))))
theorem ok_Units_count (T : Tx K mg f__law_draw f__law_pick f__law_any_value f__law_caught f__law_compose f__law_gcd f__law_is_integer f__law_is_map f__law_divisors f__law_unit f__law_map f__law_shuffled f__law_modulus f__law_pen f_Units_count_below f_Units_at f_Units_count f_unit_inverse f_Units_excluded f_prime_factors f_Units_init f_gcd f_commuting_units f_commuting_count f_is_integer f_is_between f_solution f_commuting_at f_Units_index_of f_compose f_is_map f_commuting_index f_law C_Units C_OutOfRange fd__law_draw fd__law_pick fd__law_any_value fd__law_caught fd__law_compose fd__law_gcd fd__law_is_integer fd__law_is_map fd__law_divisors fd__law_unit fd__law_map fd__law_shuffled fd__law_modulus fd__law_pen fd_Units_count_below fd_Units_at fd_Units_count fd_unit_inverse fd_Units_excluded fd_prime_factors fd_Units_init fd_gcd fd_commuting_units fd_commuting_count fd_is_integer fd_is_between fd_solution fd_commuting_at fd_Units_index_of fd_compose fd_is_map fd_commuting_index fd_law) (tbs : TBs K mg base) : FnG P w K mg base 2 f_Units_count fd_Units_count ["self"] (m_Units_count C_Units) :=
  def_ok T.F_Units_count sc_Units_count (by decide) (g_Units_count C_Units) fun cdv A outer s H E bx => 
    dss_one (ds_ret (de_meth (de_keep (de_var 0)) T.cl_Units T.me_Units_count_below (ok_Units_count_below T tbs) (bx.room.mono (by decide)) bx.tk T.b_Units_count_below .nil .nil (da_cons (de_keep (de_op op_fdivW s2Fdiv (de_fld T.cl_Units T.n_Units_m (de_var 0)) (de_fld T.cl_Units T.n_Units_stride (de_var 0)))) (da_nil))))
theorem ok_unit_inverse (T : Tx K mg f__law_draw f__law_pick f__law_any_value f__law_caught f__law_compose f__law_gcd f__law_is_integer f__law_is_map f__law_divisors f__law_unit f__law_map f__law_shuffled f__law_modulus f__law_pen f_Units_count_below f_Units_at f_Units_count f_unit_inverse f_Units_excluded f_prime_factors f_Units_init f_gcd f_commuting_units f_commuting_count f_is_integer f_is_between f_solution f_commuting_at f_Units_index_of f_compose f_is_map f_commuting_index f_law C_Units C_OutOfRange fd__law_draw fd__law_pick fd__law_any_value fd__law_caught fd__law_compose fd__law_gcd fd__law_is_integer fd__law_is_map fd__law_divisors fd__law_unit fd__law_map fd__law_shuffled fd__law_modulus fd__law_pen fd_Units_count_below fd_Units_at fd_Units_count fd_unit_inverse fd_Units_excluded fd_prime_factors fd_Units_init fd_gcd fd_commuting_units fd_commuting_count fd_is_integer fd_is_between fd_solution fd_commuting_at fd_Units_index_of fd_compose fd_is_map fd_commuting_index fd_law) (tbs : TBs K mg base) : FnG P w K mg base 1 f_unit_inverse fd_unit_inverse ["number", "m"] m_unit_inverse :=
  def_ok T.F_unit_inverse sc_unit_inverse (by decide) g_unit_inverse fun cdv A outer s H E bx => 
    dss_cons (ds_asg (de_tup (da_cons (de_keep (de_var 1)) (da_cons (de_keep (de_op op_mod s2Mod (de_var 0) (de_var 1))) (da_cons (de_keep (de_const pe_int)) (da_cons (de_keep (de_const pe_int)) (da_nil)))))) (dg_tup (n := 4) (dgs_cons (dg_name 2 sc_unit_inverse.nd) (dgs_cons (dg_name 3 sc_unit_inverse.nd) (dgs_cons (dg_name 4 sc_unit_inverse.nd) (dgs_cons (dg_name 5 sc_unit_inverse.nd) (dgs_nil)))))))
    (dss_cons (ds_while (dt_cmp (opNe bx.room) s2Ne (de_var 3) (de_const pe_int) (nomark _)) (dss_cons (ds_set 6 (de_op op_fdivW s2Fdiv (de_var 2) (de_var 3)) sc_unit_inverse.nd)
    (dss_cons (ds_par 2 3 (da_cons (de_solid (de_var 3)) (da_cons (de_solid (de_op op_sub s2Sub (de_var 2) (de_op opMul s2Mul (de_var 6) (de_var 3)))) (da_nil))) rfl sc_unit_inverse.nd (by rfl))
    (dss_one (ds_par 4 5 (da_cons (de_solid (de_var 5)) (da_cons (de_solid (de_op op_sub s2Sub (de_var 4) (de_op opMul s2Mul (de_var 6) (de_var 5)))) (da_nil))) rfl sc_unit_inverse.nd (by rfl))))) bx.own)
    (dss_one (ds_ret (de_op op_mod s2Mod (de_var 4) (de_var 1)))))
theorem ok_Units_excluded (T : Tx K mg f__law_draw f__law_pick f__law_any_value f__law_caught f__law_compose f__law_gcd f__law_is_integer f__law_is_map f__law_divisors f__law_unit f__law_map f__law_shuffled f__law_modulus f__law_pen f_Units_count_below f_Units_at f_Units_count f_unit_inverse f_Units_excluded f_prime_factors f_Units_init f_gcd f_commuting_units f_commuting_count f_is_integer f_is_between f_solution f_commuting_at f_Units_index_of f_compose f_is_map f_commuting_index f_law C_Units C_OutOfRange fd__law_draw fd__law_pick fd__law_any_value fd__law_caught fd__law_compose fd__law_gcd fd__law_is_integer fd__law_is_map fd__law_divisors fd__law_unit fd__law_map fd__law_shuffled fd__law_modulus fd__law_pen fd_Units_count_below fd_Units_at fd_Units_count fd_unit_inverse fd_Units_excluded fd_prime_factors fd_Units_init fd_gcd fd_commuting_units fd_commuting_count fd_is_integer fd_is_between fd_solution fd_commuting_at fd_Units_index_of fd_compose fd_is_map fd_commuting_index fd_law) (tbs : TBs K mg base) : FnG P w K mg base 2 f_Units_excluded fd_Units_excluded ["self", "prime", "row"] (m_Units_excluded C_Units) :=
  def_ok T.F_Units_excluded sc_Units_excluded (by decide) (g_Units_excluded C_Units) fun cdv A outer s H E bx => 
    dss_cons (ds_asg (de_var 2) (dg_tup (n := 3) (dgs_cons (dg_name 3 sc_Units_excluded.nd) (dgs_cons (dg_name 4 sc_Units_excluded.nd) (dgs_cons (dg_name 5 sc_Units_excluded.nd) (dgs_nil))))))
    (dss_cons (ds_set 4 (de_op opMul s2Mul (de_var 4) (de_var 1)) sc_Units_excluded.nd)
    (dss_one (ds_ret (de_tup (da_cons (de_keep (de_op op_mod s2Mod (de_op opMul s2Mul (de_un un_neg s1Neg (de_fld T.cl_Units T.n_Units_residue (de_var 0))) (de_call (ok_unit_inverse T tbs) (bx.room.mono (by decide)) bx.tk T.g_unit_inverse T.k_unit_inverse T.b_unit_inverse .nil .nil (da_cons (de_keep (de_fld T.cl_Units T.n_Units_stride (de_var 0))) (da_cons (de_keep (de_var 4)) (da_nil))))) (de_var 4))) (da_cons (de_keep (de_var 4)) (da_cons (de_keep (de_un un_neg s1Neg (de_var 5))) (da_nil))))))))
theorem ok_prime_factors (T : Tx K mg f__law_draw f__law_pick f__law_any_value f__law_caught f__law_compose f__law_gcd f__law_is_integer f__law_is_map f__law_divisors f__law_unit f__law_map f__law_shuffled f__law_modulus f__law_pen f_Units_count_below f_Units_at f_Units_count f_unit_inverse f_Units_excluded f_prime_factors f_Units_init f_gcd f_commuting_units f_commuting_count f_is_integer f_is_between f_solution f_commuting_at f_Units_index_of f_compose f_is_map f_commuting_index f_law C_Units C_OutOfRange fd__law_draw fd__law_pick fd__law_any_value fd__law_caught fd__law_compose fd__law_gcd fd__law_is_integer fd__law_is_map fd__law_divisors fd__law_unit fd__law_map fd__law_shuffled fd__law_modulus fd__law_pen fd_Units_count_below fd_Units_at fd_Units_count fd_unit_inverse fd_Units_excluded fd_prime_factors fd_Units_init fd_gcd fd_commuting_units fd_commuting_count fd_is_integer fd_is_between fd_solution fd_commuting_at fd_Units_index_of fd_compose fd_is_map fd_commuting_index fd_law) (tbs : TBs K mg base) : FnG P w K mg base 1 f_prime_factors fd_prime_factors ["number"] m_prime_factors :=
  def_ok T.F_prime_factors sc_prime_factors (by decide) g_prime_factors fun cdv A outer s H E bx => T.e_PRIMES.elim fun a_PRIMES h_PRIMES => 
    dss_one (ds_ret (de_callTy call_tuple_of shTuple T.z_tuple (by decide +kernel) (da_cons (de_lc (own := [("prime", 1)]) (di_seq (de_glob (pe_glob (v := .ref a_PRIMES) rfl h_PRIMES.1 rfl) h_PRIMES.2)) sc_prime_factors.nd (blkOk_by (own := [("prime", 1)]) (N := ["number", "prime"]) (sc := defScope s_prime_factors) (by decide +kernel)) (fun _ _ _ _ _ => dg_name 1 sc_prime_factors.nd) (fun _ _ _ _ _ => dts_one (dt_cmp (opEq bx.room) s2Eq (de_op op_mod s2Mod (de_var 0) (de_var 1)) (de_const pe_int) (nomark _))) (fun _ _ _ _ _ => de_var 1)) (da_nil))))
theorem ok_Units_init (T : Tx K mg f__law_draw f__law_pick f__law_any_value f__law_caught f__law_compose f__law_gcd f__law_is_integer f__law_is_map f__law_divisors f__law_unit f__law_map f__law_shuffled f__law_modulus f__law_pen f_Units_count_below f_Units_at f_Units_count f_unit_inverse f_Units_excluded f_prime_factors f_Units_init f_gcd f_commuting_units f_commuting_count f_is_integer f_is_between f_solution f_commuting_at f_Units_index_of f_compose f_is_map f_commuting_index f_law C_Units C_OutOfRange fd__law_draw fd__law_pick fd__law_any_value fd__law_caught fd__law_compose fd__law_gcd fd__law_is_integer fd__law_is_map fd__law_divisors fd__law_unit fd__law_map fd__law_shuffled fd__law_modulus fd__law_pen fd_Units_count_below fd_Units_at fd_Units_count fd_unit_inverse fd_Units_excluded fd_prime_factors fd_Units_init fd_gcd fd_commuting_units fd_commuting_count fd_is_integer fd_is_between fd_solution fd_commuting_at fd_Units_index_of fd_compose fd_is_map fd_commuting_index fd_law) (tbs : TBs K mg base) : FnG P w K mg base 3 f_Units_init fd_Units_init ["self", "m", "residue", "step"] (m_Units_init C_Units) :=
  def_ok T.F_Units_init sc_Units_init (by decide) (g_Units_init C_Units) fun cdv A outer s H E bx => 
    dss_cons (ds_fld 0 T.cl_Units T.n_Units_m (de_var 1))
    (dss_cons (ds_fld 0 T.cl_Units T.n_Units_stride (de_var 3))
    (dss_cons (ds_fld 0 T.cl_Units T.n_Units_residue (de_op op_mod s2Mod (de_var 2) (de_var 3)))
    (dss_cons (ds_fld 0 T.cl_Units T.n_Units_sieve (de_lst (da_cons (de_keep (de_tup (da_cons (de_keep (de_const pe_int)) (da_cons (de_keep (de_const pe_int)) (da_cons (de_keep (de_const pe_int)) (da_nil)))))) (da_nil))))
    (dss_one (ds_for (di_seq (de_call (ok_prime_factors T tbs) (bx.room.mono (by decide)) bx.tk T.g_prime_factors T.k_prime_factors T.b_prime_factors .nil .nil (da_cons (de_keep (de_var 1)) (da_nil)))) (dg_name 4 sc_Units_init.nd) (dss_one (ds_if (dt_cmp (opNe bx.room) s2Ne (de_op op_mod s2Mod (de_var 3) (de_var 4)) (de_const pe_int) (nomark _)) (dss_one (ds_fld 0 T.cl_Units T.n_Units_sieve (de_opT opAdd s2Add (de_fld T.cl_Units T.n_Units_sieve (de_var 0)) (de_lc (own := [("row", 5)]) (di_seq (de_fld T.cl_Units T.n_Units_sieve (de_var 0))) sc_Units_init.nd (blkOk_by (own := [("row", 5)]) (N := ["self", "m", "residue", "step", "prime", "row"]) (sc := defScope s_Units_init) (by decide +kernel)) (fun _ _ _ _ _ => dg_name 5 sc_Units_init.nd) (fun _ _ _ _ _ => dts_nil) (fun _ _ _ _ _ => de_meth (de_var 0) T.cl_Units T.me_Units_excluded (ok_Units_excluded T tbs) (bx.room.mono (by decide)) takes0 T.b_Units_excluded .nil .nil (da_cons (de_keep (de_var 4)) (da_cons (de_keep (de_var 5)) (da_nil)))))))) (dss_nil))) bx.own)))))
theorem ok_gcd (T : Tx K mg f__law_draw f__law_pick f__law_any_value f__law_caught f__law_compose f__law_gcd f__law_is_integer f__law_is_map f__law_divisors f__law_unit f__law_map f__law_shuffled f__law_modulus f__law_pen f_Units_count_below f_Units_at f_Units_count f_unit_inverse f_Units_excluded f_prime_factors f_Units_init f_gcd f_commuting_units f_commuting_count f_is_integer f_is_between f_solution f_commuting_at f_Units_index_of f_compose f_is_map f_commuting_index f_law C_Units C_OutOfRange fd__law_draw fd__law_pick fd__law_any_value fd__law_caught fd__law_compose fd__law_gcd fd__law_is_integer fd__law_is_map fd__law_divisors fd__law_unit fd__law_map fd__law_shuffled fd__law_modulus fd__law_pen fd_Units_count_below fd_Units_at fd_Units_count fd_unit_inverse fd_Units_excluded fd_prime_factors fd_Units_init fd_gcd fd_commuting_units fd_commuting_count fd_is_integer fd_is_between fd_solution fd_commuting_at fd_Units_index_of fd_compose fd_is_map fd_commuting_index fd_law) (tbs : TBs K mg base) : FnG P w K mg base 1 f_gcd fd_gcd ["first", "second"] m_gcd :=
  def_ok T.F_gcd sc_gcd (by decide) g_gcd fun cdv A outer s H E bx => 
    dss_cons (ds_par 0 1 (da_cons (de_solid (de_callB call_abs shAbs T.z_abs (by decide +kernel) (da_cons (de_var 0) (da_nil)))) (da_cons (de_solid (de_callB call_abs shAbs T.z_abs (by decide +kernel) (da_cons (de_var 1) (da_nil)))) (da_nil))) rfl sc_gcd.nd (by rfl))
    (dss_cons (ds_while (dt_cmp (opNe bx.room) s2Ne (de_var 1) (de_const pe_int) (nomark _)) (dss_one (ds_par 0 1 (da_cons (de_solid (de_var 1)) (da_cons (de_solid (de_op op_mod s2Mod (de_var 0) (de_var 1))) (da_nil))) rfl sc_gcd.nd (by rfl))) bx.own)
    (dss_one (ds_ret (de_var 0))))
theorem ok_commuting_units (T : Tx K mg f__law_draw f__law_pick f__law_any_value f__law_caught f__law_compose f__law_gcd f__law_is_integer f__law_is_map f__law_divisors f__law_unit f__law_map f__law_shuffled f__law_modulus f__law_pen f_Units_count_below f_Units_at f_Units_count f_unit_inverse f_Units_excluded f_prime_factors f_Units_init f_gcd f_commuting_units f_commuting_count f_is_integer f_is_between f_solution f_commuting_at f_Units_index_of f_compose f_is_map f_commuting_index f_law C_Units C_OutOfRange fd__law_draw fd__law_pick fd__law_any_value fd__law_caught fd__law_compose fd__law_gcd fd__law_is_integer fd__law_is_map fd__law_divisors fd__law_unit fd__law_map fd__law_shuffled fd__law_modulus fd__law_pen fd_Units_count_below fd_Units_at fd_Units_count fd_unit_inverse fd_Units_excluded fd_prime_factors fd_Units_init fd_gcd fd_commuting_units fd_commuting_count fd_is_integer fd_is_between fd_solution fd_commuting_at fd_Units_index_of fd_compose fd_is_map fd_commuting_index fd_law) (tbs : TBs K mg base) : FnG P w K mg base 5 f_commuting_units fd_commuting_units ["m", "f"] (m_commuting_units C_Units) :=
  def_ok T.F_commuting_units sc_commuting_units (by decide) (g_commuting_units C_Units) fun cdv A outer s H E bx => 
    dss_cons (ds_set 2 (de_call (ok_gcd T tbs) (bx.room.mono (by decide)) bx.tk T.g_gcd T.k_gcd T.b_gcd .nil .nil (da_cons (de_keep (de_op op_sub s2Sub (de_ix opIx s2Ix (de_var 1) (de_const pe_int) (fun _ _ => rfl)) (de_const pe_int))) (da_cons (de_keep (de_var 0)) (da_nil)))) sc_commuting_units.nd)
    (dss_one (ds_ret (de_make T.mk_Units (ok_Units_init T tbs) (bx.room.mono (by decide)) bx.tk T.g_Units T.b_Units_init .nil .nil (da_cons (de_keep (de_var 0)) (da_cons (de_keep (de_const pe_int)) (da_cons (de_keep (de_op op_fdivW s2Fdiv (de_var 2) (de_call (ok_gcd T tbs) (bx.room.mono (by decide)) bx.tk T.g_gcd T.k_gcd T.b_gcd .nil .nil (da_cons (de_keep (de_ix opIx s2Ix (de_var 1) (de_const pe_int) (fun _ _ => rfl))) (da_cons (de_keep (de_var 2)) (da_nil)))))) (da_nil)))))))
theorem ok_commuting_count (T : Tx K mg f__law_draw f__law_pick f__law_any_value f__law_caught f__law_compose f__law_gcd f__law_is_integer f__law_is_map f__law_divisors f__law_unit f__law_map f__law_shuffled f__law_modulus f__law_pen f_Units_count_below f_Units_at f_Units_count f_unit_inverse f_Units_excluded f_prime_factors f_Units_init f_gcd f_commuting_units f_commuting_count f_is_integer f_is_between f_solution f_commuting_at f_Units_index_of f_compose f_is_map f_commuting_index f_law C_Units C_OutOfRange fd__law_draw fd__law_pick fd__law_any_value fd__law_caught fd__law_compose fd__law_gcd fd__law_is_integer fd__law_is_map fd__law_divisors fd__law_unit fd__law_map fd__law_shuffled fd__law_modulus fd__law_pen fd_Units_count_below fd_Units_at fd_Units_count fd_unit_inverse fd_Units_excluded fd_prime_factors fd_Units_init fd_gcd fd_commuting_units fd_commuting_count fd_is_integer fd_is_between fd_solution fd_commuting_at fd_Units_index_of fd_compose fd_is_map fd_commuting_index fd_law) (tbs : TBs K mg base) : FnG P w K mg base 6 f_commuting_count fd_commuting_count ["m", "f"] (m_commuting_count C_Units) :=
  def_ok T.F_commuting_count sc_commuting_count (by decide) (g_commuting_count C_Units) fun cdv A outer s H E bx => 
    dss_one (ds_ret (de_op opMul s2Mul (de_meth0 (de_keep (de_call (ok_commuting_units T tbs) (bx.room.mono (by decide)) bx.tk T.g_commuting_units T.k_commuting_units T.b_commuting_units .nil .nil (da_cons (de_keep (de_var 0)) (da_cons (de_keep (de_var 1)) (da_nil))))) T.cl_Units T.me_Units_count (ok_Units_count T tbs) (bx.room.mono (by decide)) bx.tk T.b_Units_count .nil .nil) (de_call (ok_gcd T tbs) (bx.room.mono (by decide)) bx.tk T.g_gcd T.k_gcd T.b_gcd .nil .nil (da_cons (de_keep (de_op op_sub s2Sub (de_ix opIx s2Ix (de_var 1) (de_const pe_int) (fun _ _ => rfl)) (de_const pe_int))) (da_cons (de_keep (de_var 0)) (da_nil))))))
theorem ok_is_integer (T : Tx K mg f__law_draw f__law_pick f__law_any_value f__law_caught f__law_compose f__law_gcd f__law_is_integer f__law_is_map f__law_divisors f__law_unit f__law_map f__law_shuffled f__law_modulus f__law_pen f_Units_count_below f_Units_at f_Units_count f_unit_inverse f_Units_excluded f_prime_factors f_Units_init f_gcd f_commuting_units f_commuting_count f_is_integer f_is_between f_solution f_commuting_at f_Units_index_of f_compose f_is_map f_commuting_index f_law C_Units C_OutOfRange fd__law_draw fd__law_pick fd__law_any_value fd__law_caught fd__law_compose fd__law_gcd fd__law_is_integer fd__law_is_map fd__law_divisors fd__law_unit fd__law_map fd__law_shuffled fd__law_modulus fd__law_pen fd_Units_count_below fd_Units_at fd_Units_count fd_unit_inverse fd_Units_excluded fd_prime_factors fd_Units_init fd_gcd fd_commuting_units fd_commuting_count fd_is_integer fd_is_between fd_solution fd_commuting_at fd_Units_index_of fd_compose fd_is_map fd_commuting_index fd_law) (tbs : TBs K mg base) : FnG P w K mg base 1 f_is_integer fd_is_integer ["value"] m_is_integer :=
  def_ok T.F_is_integer sc_is_integer (by decide) g_is_integer fun cdv A outer s H E bx => 
    dss_one (ds_ret (de_and (de_callB call_isi shIsi T.z_isinstance (by decide +kernel) (da_cons (de_var 0) (da_cons (de_const (pe_bltn (v := .ty "int") rfl T.z_int (by decide +kernel) rfl)) (da_nil)))) (de_one (de_not (de_callB call_isi shIsi T.z_isinstance (by decide +kernel) (da_cons (de_var 0) (da_cons (de_const (pe_bltn (v := .ty "bool") rfl T.z_bool (by decide +kernel) rfl)) (da_nil))))))))
theorem ok_is_between (T : Tx K mg f__law_draw f__law_pick f__law_any_value f__law_caught f__law_compose f__law_gcd f__law_is_integer f__law_is_map f__law_divisors f__law_unit f__law_map f__law_shuffled f__law_modulus f__law_pen f_Units_count_below f_Units_at f_Units_count f_unit_inverse f_Units_excluded f_prime_factors f_Units_init f_gcd f_commuting_units f_commuting_count f_is_integer f_is_between f_solution f_commuting_at f_Units_index_of f_compose f_is_map f_commuting_index f_law C_Units C_OutOfRange fd__law_draw fd__law_pick fd__law_any_value fd__law_caught fd__law_compose fd__law_gcd fd__law_is_integer fd__law_is_map fd__law_divisors fd__law_unit fd__law_map fd__law_shuffled fd__law_modulus fd__law_pen fd_Units_count_below fd_Units_at fd_Units_count fd_unit_inverse fd_Units_excluded fd_prime_factors fd_Units_init fd_gcd fd_commuting_units fd_commuting_count fd_is_integer fd_is_between fd_solution fd_commuting_at fd_Units_index_of fd_compose fd_is_map fd_commuting_index fd_law) (tbs : TBs K mg base) : FnG P w K mg base 2 f_is_between fd_is_between ["value", "low", "high"] m_is_between :=
  def_ok T.F_is_between sc_is_between (by decide) g_is_between fun cdv A outer s H E bx => 
    dss_one (ds_ret (de_and (de_call (ok_is_integer T tbs) (bx.room.mono (by decide)) bx.tk T.g_is_integer T.k_is_integer T.b_is_integer .nil .nil (da_cons (de_keep (de_var 0)) (da_nil))) (de_one (de_chain op_le op_le s2Le s2Le (pe_chain op_le op_le (de_var 1) (de_var 0) (de_var 2))))))
theorem ok_solution (T : Tx K mg f__law_draw f__law_pick f__law_any_value f__law_caught f__law_compose f__law_gcd f__law_is_integer f__law_is_map f__law_divisors f__law_unit f__law_map f__law_shuffled f__law_modulus f__law_pen f_Units_count_below f_Units_at f_Units_count f_unit_inverse f_Units_excluded f_prime_factors f_Units_init f_gcd f_commuting_units f_commuting_count f_is_integer f_is_between f_solution f_commuting_at f_Units_index_of f_compose f_is_map f_commuting_index f_law C_Units C_OutOfRange fd__law_draw fd__law_pick fd__law_any_value fd__law_caught fd__law_compose fd__law_gcd fd__law_is_integer fd__law_is_map fd__law_divisors fd__law_unit fd__law_map fd__law_shuffled fd__law_modulus fd__law_pen fd_Units_count_below fd_Units_at fd_Units_count fd_unit_inverse fd_Units_excluded fd_prime_factors fd_Units_init fd_gcd fd_commuting_units fd_commuting_count fd_is_integer fd_is_between fd_solution fd_commuting_at fd_Units_index_of fd_compose fd_is_map fd_commuting_index fd_law) (tbs : TBs K mg base) : FnG P w K mg base 2 f_solution fd_solution ["m", "factor", "target"] m_solution :=
  def_ok T.F_solution sc_solution (by decide) g_solution fun cdv A outer s H E bx => 
    dss_cons (ds_set 3 (de_call (ok_gcd T tbs) (bx.room.mono (by decide)) bx.tk T.g_gcd T.k_gcd T.b_gcd .nil .nil (da_cons (de_keep (de_var 1)) (da_cons (de_keep (de_var 0)) (da_nil)))) sc_solution.nd)
    (dss_cons (ds_if (dt_cmp (opNe bx.room) s2Ne (de_op op_mod s2Mod (de_var 2) (de_var 3)) (de_const pe_int) (nomark _)) (dss_one (ds_ret (de_const pe_non))) (dss_nil))
    (dss_cons (ds_set 4 (de_op op_fdivW s2Fdiv (de_var 0) (de_var 3)) sc_solution.nd)
    (dss_one (ds_ret (de_tup (da_cons (de_keep (de_op op_mod s2Mod (de_op opMul s2Mul (de_op op_fdivW s2Fdiv (de_var 2) (de_var 3)) (de_call (ok_unit_inverse T tbs) (bx.room.mono (by decide)) bx.tk T.g_unit_inverse T.k_unit_inverse T.b_unit_inverse .nil .nil (da_cons (de_keep (de_op op_fdivW s2Fdiv (de_var 1) (de_var 3))) (da_cons (de_keep (de_var 4)) (da_nil))))) (de_var 4))) (da_cons (de_keep (de_var 4)) (da_nil))))))))
theorem ok_commuting_at (T : Tx K mg f__law_draw f__law_pick f__law_any_value f__law_caught f__law_compose f__law_gcd f__law_is_integer f__law_is_map f__law_divisors f__law_unit f__law_map f__law_shuffled f__law_modulus f__law_pen f_Units_count_below f_Units_at f_Units_count f_unit_inverse f_Units_excluded f_prime_factors f_Units_init f_gcd f_commuting_units f_commuting_count f_is_integer f_is_between f_solution f_commuting_at f_Units_index_of f_compose f_is_map f_commuting_index f_law C_Units C_OutOfRange fd__law_draw fd__law_pick fd__law_any_value fd__law_caught fd__law_compose fd__law_gcd fd__law_is_integer fd__law_is_map fd__law_divisors fd__law_unit fd__law_map fd__law_shuffled fd__law_modulus fd__law_pen fd_Units_count_below fd_Units_at fd_Units_count fd_unit_inverse fd_Units_excluded fd_prime_factors fd_Units_init fd_gcd fd_commuting_units fd_commuting_count fd_is_integer fd_is_between fd_solution fd_commuting_at fd_Units_index_of fd_compose fd_is_map fd_commuting_index fd_law) (tbs : TBs K mg base) : FnG P w K mg base 7 f_commuting_at fd_commuting_at ["m", "f", "index"] (m_commuting_at C_OutOfRange C_Units) :=
  def_ok T.F_commuting_at sc_commuting_at (by decide) (g_commuting_at C_OutOfRange C_Units) fun cdv A outer s H E bx => T.x_OutOfRange.elim fun fI_OutOfRange h_OutOfRange => 
    dss_cons (ds_if (dt_not (dt_val (de_call (ok_is_between T tbs) (bx.room.mono (by decide)) bx.tk T.g_is_between T.k_is_between T.b_is_between .nil .nil (da_cons (de_keep (de_var 2)) (da_cons (de_keep (de_const pe_int)) (da_cons (de_keep (de_op op_sub s2Sub (de_call (ok_commuting_count T tbs) (bx.room.mono (by decide)) bx.tk T.g_commuting_count T.k_commuting_count T.b_commuting_count .nil .nil (da_cons (de_keep (de_var 0)) (da_cons (de_keep (de_var 1)) (da_nil)))) (de_const pe_int))) (da_nil))))))) (dss_one (ds_raise h_OutOfRange (fun _ _ => PySem.DLX.stores_value h_OutOfRange) bx.room bx.tk (da_cons (de_keep (de_var 2)) (da_nil)))) (dss_nil))
    (dss_cons (ds_set 3 (de_call (ok_gcd T tbs) (bx.room.mono (by decide)) bx.tk T.g_gcd T.k_gcd T.b_gcd .nil .nil (da_cons (de_keep (de_op op_sub s2Sub (de_ix opIx s2Ix (de_var 1) (de_const pe_int) (fun _ _ => rfl)) (de_const pe_int))) (da_cons (de_keep (de_var 0)) (da_nil)))) sc_commuting_at.nd)
    (dss_cons (ds_set 4 (de_meth (de_keep (de_call (ok_commuting_units T tbs) (bx.room.mono (by decide)) bx.tk T.g_commuting_units T.k_commuting_units T.b_commuting_units .nil .nil (da_cons (de_keep (de_var 0)) (da_cons (de_keep (de_var 1)) (da_nil))))) T.cl_Units T.me_Units_at (ok_Units_at T tbs) (bx.room.mono (by decide)) bx.tk T.b_Units_at .nil .nil (da_cons (de_keep (de_op op_fdivW s2Fdiv (de_var 2) (de_var 3))) (da_nil))) sc_commuting_at.nd)
    (dss_cons (ds_asg (de_call (ok_solution T tbs) (bx.room.mono (by decide)) bx.tk T.g_solution T.k_solution T.b_solution .nil .nil (da_cons (de_keep (de_var 0)) (da_cons (de_keep (de_op op_sub s2Sub (de_ix opIx s2Ix (de_var 1) (de_const pe_int) (fun _ _ => rfl)) (de_const pe_int))) (da_cons (de_keep (de_op opMul s2Mul (de_op op_sub s2Sub (de_var 4) (de_const pe_int)) (de_ix opIx s2Ix (de_var 1) (de_const pe_int) (fun _ _ => rfl)))) (da_nil))))) (dg_tup (n := 2) (dgs_cons (dg_name 5 sc_commuting_at.nd) (dgs_cons (dg_name 6 sc_commuting_at.nd) (dgs_nil)))))
    (dss_one (ds_ret (de_tup (da_cons (de_keep (de_var 4)) (da_cons (de_keep (de_opT opAdd s2Add (de_var 5) (de_op opMul s2Mul (de_var 6) (de_op op_mod s2Mod (de_var 2) (de_var 3))))) (da_nil)))))))))
theorem ok_Units_index_of (T : Tx K mg f__law_draw f__law_pick f__law_any_value f__law_caught f__law_compose f__law_gcd f__law_is_integer f__law_is_map f__law_divisors f__law_unit f__law_map f__law_shuffled f__law_modulus f__law_pen f_Units_count_below f_Units_at f_Units_count f_unit_inverse f_Units_excluded f_prime_factors f_Units_init f_gcd f_commuting_units f_commuting_count f_is_integer f_is_between f_solution f_commuting_at f_Units_index_of f_compose f_is_map f_commuting_index f_law C_Units C_OutOfRange fd__law_draw fd__law_pick fd__law_any_value fd__law_caught fd__law_compose fd__law_gcd fd__law_is_integer fd__law_is_map fd__law_divisors fd__law_unit fd__law_map fd__law_shuffled fd__law_modulus fd__law_pen fd_Units_count_below fd_Units_at fd_Units_count fd_unit_inverse fd_Units_excluded fd_prime_factors fd_Units_init fd_gcd fd_commuting_units fd_commuting_count fd_is_integer fd_is_between fd_solution fd_commuting_at fd_Units_index_of fd_compose fd_is_map fd_commuting_index fd_law) (tbs : TBs K mg base) : FnG P w K mg base 2 f_Units_index_of fd_Units_index_of ["self", "unit"] (m_Units_index_of C_Units) :=
  def_ok T.F_Units_index_of sc_Units_index_of (by decide) (g_Units_index_of C_Units) fun cdv A outer s H E bx => 
    dss_one (ds_ret (de_meth (de_keep (de_var 0)) T.cl_Units T.me_Units_count_below (ok_Units_count_below T tbs) (bx.room.mono (by decide)) bx.tk T.b_Units_count_below .nil .nil (da_cons (de_keep (de_op op_fdivW s2Fdiv (de_var 1) (de_fld T.cl_Units T.n_Units_stride (de_var 0)))) (da_nil))))
theorem ok_compose (T : Tx K mg f__law_draw f__law_pick f__law_any_value f__law_caught f__law_compose f__law_gcd f__law_is_integer f__law_is_map f__law_divisors f__law_unit f__law_map f__law_shuffled f__law_modulus f__law_pen f_Units_count_below f_Units_at f_Units_count f_unit_inverse f_Units_excluded f_prime_factors f_Units_init f_gcd f_commuting_units f_commuting_count f_is_integer f_is_between f_solution f_commuting_at f_Units_index_of f_compose f_is_map f_commuting_index f_law C_Units C_OutOfRange fd__law_draw fd__law_pick fd__law_any_value fd__law_caught fd__law_compose fd__law_gcd fd__law_is_integer fd__law_is_map fd__law_divisors fd__law_unit fd__law_map fd__law_shuffled fd__law_modulus fd__law_pen fd_Units_count_below fd_Units_at fd_Units_count fd_unit_inverse fd_Units_excluded fd_prime_factors fd_Units_init fd_gcd fd_commuting_units fd_commuting_count fd_is_integer fd_is_between fd_solution fd_commuting_at fd_Units_index_of fd_compose fd_is_map fd_commuting_index fd_law) (tbs : TBs K mg base) : FnG P w K mg base 1 f_compose fd_compose ["m", "first", "second"] m_compose :=
  def_ok T.F_compose sc_compose (by decide) g_compose fun cdv A outer s H E bx => 
    dss_one (ds_ret (de_tup (da_cons (de_keep (de_op op_mod s2Mod (de_op opMul s2Mul (de_ix opIx s2Ix (de_var 1) (de_const pe_int) (fun _ _ => rfl)) (de_ix opIx s2Ix (de_var 2) (de_const pe_int) (fun _ _ => rfl))) (de_var 0))) (da_cons (de_keep (de_op op_mod s2Mod (de_opT opAdd s2Add (de_op opMul s2Mul (de_ix opIx s2Ix (de_var 2) (de_const pe_int) (fun _ _ => rfl)) (de_ix opIx s2Ix (de_var 1) (de_const pe_int) (fun _ _ => rfl))) (de_ix opIx s2Ix (de_var 2) (de_const pe_int) (fun _ _ => rfl))) (de_var 0))) (da_nil)))))
theorem ok_is_map (T : Tx K mg f__law_draw f__law_pick f__law_any_value f__law_caught f__law_compose f__law_gcd f__law_is_integer f__law_is_map f__law_divisors f__law_unit f__law_map f__law_shuffled f__law_modulus f__law_pen f_Units_count_below f_Units_at f_Units_count f_unit_inverse f_Units_excluded f_prime_factors f_Units_init f_gcd f_commuting_units f_commuting_count f_is_integer f_is_between f_solution f_commuting_at f_Units_index_of f_compose f_is_map f_commuting_index f_law C_Units C_OutOfRange fd__law_draw fd__law_pick fd__law_any_value fd__law_caught fd__law_compose fd__law_gcd fd__law_is_integer fd__law_is_map fd__law_divisors fd__law_unit fd__law_map fd__law_shuffled fd__law_modulus fd__law_pen fd_Units_count_below fd_Units_at fd_Units_count fd_unit_inverse fd_Units_excluded fd_prime_factors fd_Units_init fd_gcd fd_commuting_units fd_commuting_count fd_is_integer fd_is_between fd_solution fd_commuting_at fd_Units_index_of fd_compose fd_is_map fd_commuting_index fd_law) (tbs : TBs K mg base) : FnG P w K mg base 3 f_is_map fd_is_map ["m", "value"] m_is_map :=
  def_ok T.F_is_map sc_is_map (by decide) g_is_map fun cdv A outer s H E bx => 
    dss_cons (ds_if (PW.pt (dw_or (dt_not (dt_val (de_callB call_isi shIsi T.z_isinstance (by decide +kernel) (da_cons (de_var 1) (da_cons (de_const (pe_bltn (v := .ty "tuple") rfl T.z_tuple (by decide +kernel) rfl)) (da_nil)))))) (dw_or1 (dt_cmp (opNe bx.room) s2Ne (de_callB opLen shLen T.z_len (by decide +kernel) (da_cons (de_var 1) (da_nil))) (de_const pe_int) (nomark _))))) (dss_one (ds_ret (de_const pe_bl))) (dss_nil))
    (dss_cons (ds_if (dt_not (dt_val (de_callB (cr_all rfl) shAll T.z_all (by decide +kernel) (da_cons (de_lc (own := [("part", 2)]) (di_seq (de_var 1)) sc_is_map.nd (blkOk_by (own := [("part", 2)]) (N := ["m", "value", "part"]) (sc := defScope s_is_map) (by decide +kernel)) (fun _ _ _ _ _ => dg_name 2 sc_is_map.nd) (fun _ _ _ _ _ => dts_nil) (fun _ _ _ _ _ => de_call (ok_is_between T tbs) (bx.room.mono (by decide)) takes0 T.g_is_between T.k_is_between T.b_is_between .nil .nil (da_cons (de_keep (de_var 2)) (da_cons (de_keep (de_const pe_int)) (da_cons (de_keep (de_op op_sub s2Sub (de_var 0) (de_const pe_int))) (da_nil)))))) (da_nil))))) (dss_one (ds_ret (de_const pe_bl))) (dss_nil))
    (dss_one (ds_ret (de_cmp (opEq bx.room) s2Eq (de_call (ok_gcd T tbs) (bx.room.mono (by decide)) bx.tk T.g_gcd T.k_gcd T.b_gcd .nil .nil (da_cons (de_keep (de_ix opIx s2Ix (de_var 1) (de_const pe_int) (fun _ _ => rfl))) (da_cons (de_keep (de_var 0)) (da_nil)))) (de_const pe_int) (nomark _)))))
theorem ok_commuting_index (T : Tx K mg f__law_draw f__law_pick f__law_any_value f__law_caught f__law_compose f__law_gcd f__law_is_integer f__law_is_map f__law_divisors f__law_unit f__law_map f__law_shuffled f__law_modulus f__law_pen f_Units_count_below f_Units_at f_Units_count f_unit_inverse f_Units_excluded f_prime_factors f_Units_init f_gcd f_commuting_units f_commuting_count f_is_integer f_is_between f_solution f_commuting_at f_Units_index_of f_compose f_is_map f_commuting_index f_law C_Units C_OutOfRange fd__law_draw fd__law_pick fd__law_any_value fd__law_caught fd__law_compose fd__law_gcd fd__law_is_integer fd__law_is_map fd__law_divisors fd__law_unit fd__law_map fd__law_shuffled fd__law_modulus fd__law_pen fd_Units_count_below fd_Units_at fd_Units_count fd_unit_inverse fd_Units_excluded fd_prime_factors fd_Units_init fd_gcd fd_commuting_units fd_commuting_count fd_is_integer fd_is_between fd_solution fd_commuting_at fd_Units_index_of fd_compose fd_is_map fd_commuting_index fd_law) (tbs : TBs K mg base) : FnG P w K mg base 6 f_commuting_index fd_commuting_index ["m", "f", "g"] (m_commuting_index C_Units) :=
  def_ok T.F_commuting_index sc_commuting_index (by decide) (g_commuting_index C_Units) fun cdv A outer s H E bx => 
    dss_cons (ds_if (PW.pt (dw_or (dt_not (dt_val (de_call (ok_is_map T tbs) (bx.room.mono (by decide)) bx.tk T.g_is_map T.k_is_map T.b_is_map .nil .nil (da_cons (de_keep (de_var 0)) (da_cons (de_keep (de_var 2)) (da_nil)))))) (dw_or1 (dt_cmp (opNe bx.room) s2Ne (de_call (ok_compose T tbs) (bx.room.mono (by decide)) bx.tk T.g_compose T.k_compose T.b_compose .nil .nil (da_cons (de_keep (de_var 0)) (da_cons (de_keep (de_var 1)) (da_cons (de_keep (de_var 2)) (da_nil))))) (de_call (ok_compose T tbs) (bx.room.mono (by decide)) bx.tk T.g_compose T.k_compose T.b_compose .nil .nil (da_cons (de_keep (de_var 0)) (da_cons (de_keep (de_var 2)) (da_cons (de_keep (de_var 1)) (da_nil))))) (nomark _))))) (dss_one (ds_ret (de_const pe_non))) (dss_nil))
    (dss_cons (ds_set 3 (de_call (ok_gcd T tbs) (bx.room.mono (by decide)) bx.tk T.g_gcd T.k_gcd T.b_gcd .nil .nil (da_cons (de_keep (de_op op_sub s2Sub (de_ix opIx s2Ix (de_var 1) (de_const pe_int) (fun _ _ => rfl)) (de_const pe_int))) (da_cons (de_keep (de_var 0)) (da_nil)))) sc_commuting_index.nd)
    (dss_one (ds_ret (de_opT opAdd s2Add (de_op opMul s2Mul (de_meth (de_keep (de_call (ok_commuting_units T tbs) (bx.room.mono (by decide)) bx.tk T.g_commuting_units T.k_commuting_units T.b_commuting_units .nil .nil (da_cons (de_keep (de_var 0)) (da_cons (de_keep (de_var 1)) (da_nil))))) T.cl_Units T.me_Units_index_of (ok_Units_index_of T tbs) (bx.room.mono (by decide)) bx.tk T.b_Units_index_of .nil .nil (da_cons (de_keep (de_ix opIx s2Ix (de_var 2) (de_const pe_int) (fun _ _ => rfl))) (da_nil))) (de_var 3)) (de_op op_fdivW s2Fdiv (de_ix opIx s2Ix (de_var 2) (de_const pe_int) (fun _ _ => rfl)) (de_op op_fdivW s2Fdiv (de_var 0) (de_var 3)))))))
theorem ok_law (T : Tx K mg f__law_draw f__law_pick f__law_any_value f__law_caught f__law_compose f__law_gcd f__law_is_integer f__law_is_map f__law_divisors f__law_unit f__law_map f__law_shuffled f__law_modulus f__law_pen f_Units_count_below f_Units_at f_Units_count f_unit_inverse f_Units_excluded f_prime_factors f_Units_init f_gcd f_commuting_units f_commuting_count f_is_integer f_is_between f_solution f_commuting_at f_Units_index_of f_compose f_is_map f_commuting_index f_law C_Units C_OutOfRange fd__law_draw fd__law_pick fd__law_any_value fd__law_caught fd__law_compose fd__law_gcd fd__law_is_integer fd__law_is_map fd__law_divisors fd__law_unit fd__law_map fd__law_shuffled fd__law_modulus fd__law_pen fd_Units_count_below fd_Units_at fd_Units_count fd_unit_inverse fd_Units_excluded fd_prime_factors fd_Units_init fd_gcd fd_commuting_units fd_commuting_count fd_is_integer fd_is_between fd_solution fd_commuting_at fd_Units_index_of fd_compose fd_is_map fd_commuting_index fd_law) (tbs : TBs K mg base) : FnG P w K mg base 10 f_law fd_law ["script"] (m_law C_OutOfRange C_Units) :=
  def_okL T.F_law sc_law (by decide) (g_law C_OutOfRange C_Units) fun cdv hcdv A outer s H E bx => T.lt_law.elim fun cL qL => qL.elim fun PL qL => T.x_OutOfRange.elim fun fI_OutOfRange h_OutOfRange => 
    dss_cons (ds_set 1 (de_call (ok__law_pen T tbs) (bx.room.mono (by decide)) bx.tk T.g__law_pen T.k__law_pen T.b__law_pen .nil .nil (da_cons (de_keep (de_var 0)) (da_nil))) sc_law.nd)
    (dss_cons (ds_for (di_range1 (da_cons (de_keep (de_opT opAdd s2Add (de_const pe_int) (de_callB (call_min2 rfl) shMin2 T.z_min (by decide +kernel) (da_cons (de_const pe_int) (da_cons (de_callB opLen shLen T.z_len (by decide +kernel) (da_cons (de_var 0) (da_nil))) (da_nil)))))) (da_nil)) T.z_range) (dg_name 2 sc_law.nd) (dss_cons (ds_set 3 (de_call (ok__law_modulus T tbs) (bx.room.mono (by decide)) bx.tk T.g__law_modulus T.k__law_modulus T.b__law_modulus .nil .nil (da_cons (de_var 1) (da_cons (de_keep (de_const pe_int)) (da_nil)))) sc_law.nd)
    (dss_cons (ds_parC 4 5 (da_cons (de_solid (de_call (ok__law_map T tbs) (bx.room.mono (by decide)) bx.tk T.g__law_map T.k__law_map T.b__law_map .nil .nil (da_cons (de_var 1) (da_cons (de_keep (de_var 3)) (da_nil))))) (da_cons (de_solid (de_lst (da_nil))) (da_nil))) sc_law.nd)
    (dss_cons (ds_for (di_range1 (da_cons (de_keep (de_var 3)) (da_nil)) T.z_range) (dg_name 6 sc_law.nd) (dss_one (ds_expr (de_mut 5 PySem.F.plainAttrs_list PySem.F.slot_list_extend PySem.F.type_list_extend mt_extend smExtend (da_cons (de_keep (de_lc (own := [("b", 7)]) (di_range1 (da_cons (de_keep (de_var 3)) (da_nil)) T.z_range) sc_law.nd (blkOk_by (own := [("b", 7)]) (N := ["script", "pen", "turn", "m", "f", "every", "a", "b", "due", "g", "at", "k", "odd", "values", "value", "expected"]) (sc := defScope s_law) (by decide +kernel)) (fun _ _ _ _ _ => dg_name 7 sc_law.nd) (fun _ _ _ _ _ => dts_one (dt_cmp (opEq bx.room) s2Eq (de_call (ok__law_gcd T tbs) (bx.room.mono (by decide)) takes0 T.g__law_gcd T.k__law_gcd T.b__law_gcd .nil .nil (da_cons (de_keep (de_var 6)) (da_cons (de_keep (de_var 3)) (da_nil)))) (de_const pe_int) (nomark _))) (fun _ _ _ _ _ => de_tup (da_cons (de_keep (de_var 6)) (da_cons (de_keep (de_var 7)) (da_nil)))))) (da_nil))))) bx.own)
    (dss_cons (ds_set 8 (de_lc (own := [("g", 9)]) (di_seq (de_var 5)) sc_law.nd (blkOk_by (own := [("g", 9)]) (N := ["script", "pen", "turn", "m", "f", "every", "a", "b", "due", "g", "at", "k", "odd", "values", "value", "expected"]) (sc := defScope s_law) (by decide +kernel)) (fun _ _ _ _ _ => dg_name 9 sc_law.nd) (fun _ _ _ _ _ => dts_one (dt_cmp (opEq bx.room) s2Eq (de_call (ok__law_compose T tbs) (bx.room.mono (by decide)) takes0 T.g__law_compose T.k__law_compose T.b__law_compose .nil .nil (da_cons (de_keep (de_var 3)) (da_cons (de_keep (de_var 4)) (da_cons (de_keep (de_var 9)) (da_nil))))) (de_call (ok__law_compose T tbs) (bx.room.mono (by decide)) takes0 T.g__law_compose T.k__law_compose T.b__law_compose .nil .nil (da_cons (de_keep (de_var 3)) (da_cons (de_keep (de_var 9)) (da_cons (de_keep (de_var 4)) (da_nil))))) (nomark _))) (fun _ _ _ _ _ => de_var 9)) sc_law.nd)
    (dss_cons (ds_if (dt_cmp (opNe bx.room) s2Ne (de_callB (repr_call' bx.room) shRepr T.z_repr (by decide +kernel) (da_cons (de_call (ok_commuting_count T tbs) (bx.room.mono (by decide)) bx.tk T.g_commuting_count T.k_commuting_count T.b_commuting_count .nil .nil (da_cons (de_keep (de_var 3)) (da_cons (de_keep (de_var 4)) (da_nil)))) (da_nil))) (de_callB (repr_call' bx.room) shRepr T.z_repr (by decide +kernel) (da_cons (de_callB opLen shLen T.z_len (by decide +kernel) (da_cons (de_var 8) (da_nil))) (da_nil))) (nomark _)) (dss_one (ds_ret (de_const pe_bl))) (dss_nil))
    (dss_cons (ds_for (di_seq (de_opT opAdd s2Add (de_lst (da_cons (de_keep (de_const pe_int)) (da_cons (de_keep (de_op op_sub s2Sub (de_callB opLen shLen T.z_len (by decide +kernel) (da_cons (de_var 8) (da_nil))) (de_const pe_int))) (da_nil)))) (de_lc (own := [("k", 11)]) (di_range1 (da_cons (de_keep (de_const pe_int)) (da_nil)) T.z_range) sc_law.nd (blkOk_by (own := [("k", 11)]) (N := ["script", "pen", "turn", "m", "f", "every", "a", "b", "due", "g", "at", "k", "odd", "values", "value", "expected"]) (sc := defScope s_law) (by decide +kernel)) (fun _ _ _ _ _ => dg_name 11 sc_law.nd) (fun _ _ _ _ _ => dts_nil) (fun _ _ _ _ _ => de_call (ok__law_draw T tbs) (bx.room.mono (by decide)) takes0 T.g__law_draw T.k__law_draw T.b__law_draw .nil .nil (da_cons (de_var 1) (da_cons (de_keep (de_callB opLen shLen T.z_len (by decide +kernel) (da_cons (de_var 8) (da_nil)))) (da_nil))))))) (dg_name 10 sc_law.nd) (dss_one (ds_if (PW.pt (dw_or (dt_cmp (opNe bx.room) s2Ne (de_callB (repr_call' bx.room) shRepr T.z_repr (by decide +kernel) (da_cons (de_call (ok_commuting_at T tbs) (bx.room.mono (by decide)) bx.tk T.g_commuting_at T.k_commuting_at T.b_commuting_at .nil .nil (da_cons (de_keep (de_var 3)) (da_cons (de_keep (de_var 4)) (da_cons (de_keep (de_var 10)) (da_nil))))) (da_nil))) (de_callB (repr_call' bx.room) shRepr T.z_repr (by decide +kernel) (da_cons (de_ix opIx s2Ix (de_var 8) (de_var 10) (fun _ _ => rfl)) (da_nil))) (nomark _)) (dw_or1 (dt_cmp (opNe bx.room) s2Ne (de_callB (repr_call' bx.room) shRepr T.z_repr (by decide +kernel) (da_cons (de_call (ok_commuting_index T tbs) (bx.room.mono (by decide)) bx.tk T.g_commuting_index T.k_commuting_index T.b_commuting_index .nil .nil (da_cons (de_keep (de_var 3)) (da_cons (de_keep (de_var 4)) (da_cons (de_keep (de_ix opIx s2Ix (de_var 8) (de_var 10) (fun _ _ => rfl))) (da_nil))))) (da_nil))) (de_callB (repr_call' bx.room) shRepr T.z_repr (by decide +kernel) (da_cons (de_var 10) (da_nil))) (nomark _))))) (dss_one (ds_ret (de_const pe_bl))) (dss_nil))) bx.own)
    (dss_cons (ds_set 12 (de_call (ok__law_pick T tbs) (bx.room.mono (by decide)) bx.tk T.g__law_pick T.k__law_pick T.b__law_pick .nil .nil (da_cons (de_var 1) (da_cons (de_keep (de_lst (da_cons (de_keep (de_callB opLen shLen T.z_len (by decide +kernel) (da_cons (de_var 8) (da_nil)))) (da_cons (de_keep (de_un un_neg s1Neg (de_const pe_int))) (da_cons (de_keep (de_const pe_non)) (da_cons (de_keep (de_const pe_bl)) (da_cons (de_keep (de_const pe_str)) (da_cons (de_keep (de_tup (da_cons (de_keep (de_const pe_int)) (da_nil)))) (da_cons (de_keep (de_lst (da_cons (de_keep (de_const pe_int)) (da_nil)))) (da_cons (de_keep (de_op op_pow s2Pow (de_const pe_int) (de_const pe_int))) (da_cons (de_keep (de_opT opAdd s2Add (de_callB opLen shLen T.z_len (by decide +kernel) (da_cons (de_var 8) (da_nil))) (de_const pe_int))) (da_nil)))))))))))) (da_nil)))) sc_law.nd)
    (dss_cons (ds_if (dt_cmp (opNe bx.room) s2Ne ((de_lam (ret := false) (kk := true) (iE := 2) (pre := [_]) bx (lm_mk (by unfold lamNames; exact List.mem_cons_self) tbs qL.1 (hcdv.symm.trans qL.2) rfl (fun y hy => List.mem_singleton.mp (by unfold lamNames at hy; exact hy))) T.g__law_caught T.k__law_caught T.F__law_caught sc__law_caught T.b__law_caught rfl h_OutOfRange.te h_OutOfRange.gC (fun _ _ _ _ _ _ _ bx => de_call (ok_commuting_at T tbs) (bx.room.mono (by decide)) bx.tk T.g_commuting_at T.k_commuting_at T.b_commuting_at .nil .nil (da_cons (de_keep (de_var 3)) (da_cons (de_keep (de_var 4)) (da_cons (de_keep (de_var 12)) (da_nil))))) (lam_pre1 sc__law_caught.nd rfl (by first | exact Or.inl rfl | exact Or.inr rfl)) (fun _ _ _ _ _ _ h => lam_drop rfl h) (fun _ _ _ _ _ bx => dss_one (ds_set 1 (de_var 2) sc__law_caught.nd)) (fun _ _ _ bx => dss_one (ds_ret (de_if (dt_val (de_isX T.xi_OutOfRange T.xk_OutOfRange_IndexError (de_var 1) (pe_bltn (v := .ty "IndexError") rfl T.z_IndexError (by decide +kernel) rfl) T.z_isinstance)) (de_callB (repr_call' bx.room) shRepr T.z_repr (by decide +kernel) (da_cons (de_xfld (DL.XTxt.xf h_OutOfRange) (h_OutOfRange.noN _ (by decide)) (de_var 1)) (da_nil))) (de_const pe_non)))) (show LamX.LamS (defScope s_law) _ from LamX.lamS_by (by decide +kernel)) (fun h => by first | decide | exact absurd h (by decide)) rfl (by first | exact Or.inl rfl | exact Or.inr (Or.inl rfl)) rfl rfl rfl (fun _ _ _ _ _ => rfl))) (de_callB (repr_call' bx.room) shRepr T.z_repr (by decide +kernel) (da_cons (de_var 12) (da_nil))) (nomark _)) (dss_one (ds_ret (de_const pe_bl))) (dss_nil))
    (dss_cons (ds_set 13 (de_lst (da_cons (de_keep (de_call (ok__law_pick T tbs) (bx.room.mono (by decide)) bx.tk T.g__law_pick T.k__law_pick T.b__law_pick .nil .nil (da_cons (de_var 1) (da_cons (de_keep (de_var 5)) (da_nil))))) (da_cons (de_keep (de_callTy call_list_of shList T.z_list (by decide +kernel) (da_cons (de_var 4) (da_nil)))) (da_cons (de_keep (de_opT opAdd s2Add (de_var 4) (de_tup (da_cons (de_keep (de_const pe_int)) (da_nil))))) (da_cons (de_keep (de_tup (da_cons (de_keep (de_ix opIx s2Ix (de_var 4) (de_const pe_int) (fun _ _ => rfl))) (da_cons (de_keep (de_opT opAdd s2Add (de_ix opIx s2Ix (de_var 4) (de_const pe_int) (fun _ _ => rfl)) (de_var 3))) (da_nil))))) (da_cons (de_keep (de_tup (da_cons (de_keep (de_const pe_int)) (da_cons (de_keep (de_const pe_int)) (da_nil))))) (da_cons (de_keep (de_tup (da_cons (de_keep (de_const pe_bl)) (da_cons (de_keep (de_ix opIx s2Ix (de_var 4) (de_const pe_int) (fun _ _ => rfl))) (da_nil))))) (da_nil)))))))) sc_law.nd)
    (dss_one (ds_for (di_seq (de_opT opAdd s2Add (de_var 13) (de_lst (da_cons (de_keep (de_call (ok__law_any_value T tbs) (bx.room.mono (by decide)) bx.tk T.g__law_any_value T.k__law_any_value T.b__law_any_value .nil .nil (da_cons (de_var 1) (da_nil)))) (da_nil))))) (dg_name 14 sc_law.nd) (dss_cons (ds_set 15 (de_if (PW.pt (dw_and (dt_val (de_call (ok__law_is_map T tbs) (bx.room.mono (by decide)) bx.tk T.g__law_is_map T.k__law_is_map T.b__law_is_map .nil .nil (da_cons (de_keep (de_var 3)) (da_cons (de_keep (de_var 14)) (da_nil))))) (dw_and1 (dt_cmp (opIn bx.room) s2In (de_var 14) (de_var 8) (by rfl))))) (de_met PySem.F.plainAttrs_list PySem.F.slot_list_index PySem.F.type_list_index (mt_indexG bx.room) spIndex (de_var 8) (da_cons (de_keep (de_var 14)) (da_nil))) (de_const pe_non)) sc_law.nd)
    (dss_one (ds_if (dt_cmp (opNe bx.room) s2Ne (de_callB (repr_call' bx.room) shRepr T.z_repr (by decide +kernel) (da_cons (de_call (ok_commuting_index T tbs) (bx.room.mono (by decide)) bx.tk T.g_commuting_index T.k_commuting_index T.b_commuting_index .nil .nil (da_cons (de_keep (de_var 3)) (da_cons (de_keep (de_var 4)) (da_cons (de_keep (de_var 14)) (da_nil))))) (da_nil))) (de_callB (repr_call' bx.room) shRepr T.z_repr (by decide +kernel) (da_cons (de_var 15) (da_nil))) (nomark _)) (dss_one (ds_ret (de_const pe_bl))) (dss_nil)))) bx.own))))))))))) bx.own)
    (dss_one (ds_ret (de_const pe_bl))))
end
/-! ### the end -/
theorem all_mk {P : Program} {w : World} {K : PySem.W.Frag} {h : Heap} {mg : Str → Option Value} {fa f__law_draw f__law_pick f__law_any_value f__law_caught f__law_compose f__law_gcd f__law_is_integer f__law_is_map f__law_divisors f__law_unit f__law_map f__law_shuffled f__law_modulus f__law_pen f_Units_count_below f_Units_at f_Units_count f_unit_inverse f_Units_excluded f_prime_factors f_Units_init f_gcd f_commuting_units f_commuting_count f_is_integer f_is_between f_solution f_commuting_at f_Units_index_of f_compose f_is_map f_commuting_index f_law C_Units C_OutOfRange : Addr} (X : K.In h) (G : h.Ns mainGlobals mg) (hfa : mg "law" = some (.ref fa))
    (a_Units : PySem.W.nsIn K mainGlobals "Units" = some (some (.ref C_Units))) (pg_Units : PySem.W.plainGet K C_Units Str.empty = true) (hd_Units : PySem.W.hasDictIn K C_Units = true) (po_Units : PySem.W.plainOver K C_Units = true) (sa_Units : PySem.W.findIn K (.ref C_Units) "__setattr__" = some (some (.builtin "object.__setattr__"))) (mk_Units : PySem.W.makesIn K C_Units = true) (kc_Units : PySem.W.keepIn K (.ref C_Units) = true)
    (n_Units_m : PySem.W.findIn K (.ref C_Units) "m" = some none)
    (n_Units_stride : PySem.W.findIn K (.ref C_Units) "stride" = some none)
    (n_Units_residue : PySem.W.findIn K (.ref C_Units) "residue" = some none)
    (n_Units_sieve : PySem.W.findIn K (.ref C_Units) "sieve" = some none)
    {fI_OutOfRange N_OutOfRange : Addr} {nm_OutOfRange q_OutOfRange qn_OutOfRange : Str} {bs_OutOfRange : List Value} {sn_OutOfRange : List Str} {sub_OutOfRange : List Value} {ab_OutOfRange : Bool} {col_OutOfRange : Option Bool} {dd_OutOfRange od_OutOfRange an_OutOfRange : Option Addr} {k0_OutOfRange k1_OutOfRange k2_OutOfRange k3_OutOfRange k5_OutOfRange : Option Value} {sl_OutOfRange : Array (Option Value)} {oc_OutOfRange dc_OutOfRange pm_OutOfRange cd_OutOfRange ct_OutOfRange : Value}
    (xa_OutOfRange : PySem.W.nsIn K mainGlobals "OutOfRange" = some (some (.ref C_OutOfRange)))
    (xl_OutOfRange : K.lookup C_OutOfRange = some (excClassObj nm_OutOfRange q_OutOfRange C_OutOfRange N_OutOfRange bs_OutOfRange [.type "IndexError", .type "LookupError", .type "Exception", .type "BaseException", .type "object"] true sn_OutOfRange sub_OutOfRange ab_OutOfRange col_OutOfRange dd_OutOfRange k0_OutOfRange k1_OutOfRange k2_OutOfRange k3_OutOfRange k5_OutOfRange "IndexError.__new__"))
    (xsa_OutOfRange : PySem.W.findIn K (.ref C_OutOfRange) "__setattr__" = some (some (.builtin "object.__setattr__")))
    (xga_OutOfRange : PySem.W.findIn K (.ref C_OutOfRange) "__getattribute__" = some (some (.builtin "BaseException.__getattribute__")))
    (xgg_OutOfRange : PySem.W.findIn K (.ref C_OutOfRange) "__getattr__" = some none)
    (xn0_OutOfRange : PySem.W.findIn K (.ref C_OutOfRange) "value" = some none)
    (xi_OutOfRange : PySem.W.findIn K (.ref C_OutOfRange) "__init__" = some (some (.ref fI_OutOfRange)))
    (xti_OutOfRange : PySem.W.typeIn K (.ref fI_OutOfRange) = some (.type "function"))
    (xkc_OutOfRange : PySem.W.keepIn K (.ref C_OutOfRange) = true)
    (xex_OutOfRange : PySem.W.subIn K (.ref C_OutOfRange) (.type "BaseException") = some true)
    (xty_OutOfRange : PySem.W.typeIn K (.ref C_OutOfRange) = some (.type "type"))
    (xhd_OutOfRange : PySem.W.hasDictIn K C_OutOfRange = true)
    (xsu_OutOfRange : PySem.W.subIn K (.ref C_OutOfRange) (.ref C_OutOfRange) = some true)
    (xli_OutOfRange : K.lookup fI_OutOfRange = some ⟨oc_OutOfRange, od_OutOfRange, .func (PySem.W.fnOf "__init__" qn_OutOfRange (defArgs s_OutOfRange) (defBody s_OutOfRange) (defScope s_OutOfRange) .none .none dc_OutOfRange pm_OutOfRange an_OutOfRange cd_OutOfRange ct_OutOfRange), sl_OutOfRange⟩)
    (xci_OutOfRange : PySem.W.codeIn K cd_OutOfRange qn_OutOfRange = true)
    (xka_OutOfRange : PySem.W.findIn K (.ref C_OutOfRange) "__class__" = some (some (.builtin "object.__class__")))
    (xkn_OutOfRange : PySem.W.specialIn K (.builtin "object.__class__") "__get__" = some (some (.builtin "getset_descriptor.__get__")))
    (xkt_OutOfRange : PySem.W.takesIn K (.builtin "object.__class__") = some true)
    (xkm_OutOfRange : PySem.W.mroIn K C_OutOfRange (.type "object") = some true)
    (xs_IndexError_OutOfRange : PySem.W.subIn K (.ref C_OutOfRange) (.type "IndexError") = some true)
    {od__law_draw an__law_draw : Option Addr} {sl__law_draw : Array (Option Value)} {oc__law_draw kV__law_draw dc__law_draw pm__law_draw cd__law_draw ct__law_draw : Value}
    (a__law_draw : PySem.W.nsIn K mainGlobals "_law_draw" = some (some (.ref f__law_draw))) (l__law_draw : K.lookup f__law_draw = some ⟨oc__law_draw, od__law_draw, .func (PySem.W.fnOf "_law_draw" "_law_draw" (defArgs s__law_draw) (defBody s__law_draw) (defScope s__law_draw) .none kV__law_draw dc__law_draw pm__law_draw an__law_draw cd__law_draw ct__law_draw), sl__law_draw⟩) (c__law_draw : PySem.W.codeIn K cd__law_draw "_law_draw" = true) (k__law_draw : PySem.W.keepIn K (.ref f__law_draw) = true)
    {od__law_pick an__law_pick : Option Addr} {sl__law_pick : Array (Option Value)} {oc__law_pick kV__law_pick dc__law_pick pm__law_pick cd__law_pick ct__law_pick : Value}
    (a__law_pick : PySem.W.nsIn K mainGlobals "_law_pick" = some (some (.ref f__law_pick))) (l__law_pick : K.lookup f__law_pick = some ⟨oc__law_pick, od__law_pick, .func (PySem.W.fnOf "_law_pick" "_law_pick" (defArgs s__law_pick) (defBody s__law_pick) (defScope s__law_pick) .none kV__law_pick dc__law_pick pm__law_pick an__law_pick cd__law_pick ct__law_pick), sl__law_pick⟩) (c__law_pick : PySem.W.codeIn K cd__law_pick "_law_pick" = true) (k__law_pick : PySem.W.keepIn K (.ref f__law_pick) = true)
    {od__law_any_value an__law_any_value : Option Addr} {sl__law_any_value : Array (Option Value)} {oc__law_any_value kV__law_any_value dc__law_any_value pm__law_any_value cd__law_any_value ct__law_any_value : Value}
    (a__law_any_value : PySem.W.nsIn K mainGlobals "_law_any_value" = some (some (.ref f__law_any_value))) (l__law_any_value : K.lookup f__law_any_value = some ⟨oc__law_any_value, od__law_any_value, .func (PySem.W.fnOf "_law_any_value" "_law_any_value" (defArgs s__law_any_value) (defBody s__law_any_value) (defScope s__law_any_value) .none kV__law_any_value dc__law_any_value pm__law_any_value an__law_any_value cd__law_any_value ct__law_any_value), sl__law_any_value⟩) (c__law_any_value : PySem.W.codeIn K cd__law_any_value "_law_any_value" = true) (k__law_any_value : PySem.W.keepIn K (.ref f__law_any_value) = true)
    {od__law_caught an__law_caught : Option Addr} {sl__law_caught : Array (Option Value)} {oc__law_caught kV__law_caught dc__law_caught pm__law_caught cd__law_caught ct__law_caught : Value}
    (a__law_caught : PySem.W.nsIn K mainGlobals "_law_caught" = some (some (.ref f__law_caught))) (l__law_caught : K.lookup f__law_caught = some ⟨oc__law_caught, od__law_caught, .func (PySem.W.fnOf "_law_caught" "_law_caught" (defArgs s__law_caught) (defBody s__law_caught) (defScope s__law_caught) .none kV__law_caught dc__law_caught pm__law_caught an__law_caught cd__law_caught ct__law_caught), sl__law_caught⟩) (c__law_caught : PySem.W.codeIn K cd__law_caught "_law_caught" = true) (k__law_caught : PySem.W.keepIn K (.ref f__law_caught) = true)
    {od__law_compose an__law_compose : Option Addr} {sl__law_compose : Array (Option Value)} {oc__law_compose kV__law_compose dc__law_compose pm__law_compose cd__law_compose ct__law_compose : Value}
    (a__law_compose : PySem.W.nsIn K mainGlobals "_law_compose" = some (some (.ref f__law_compose))) (l__law_compose : K.lookup f__law_compose = some ⟨oc__law_compose, od__law_compose, .func (PySem.W.fnOf "_law_compose" "_law_compose" (defArgs s__law_compose) (defBody s__law_compose) (defScope s__law_compose) .none kV__law_compose dc__law_compose pm__law_compose an__law_compose cd__law_compose ct__law_compose), sl__law_compose⟩) (c__law_compose : PySem.W.codeIn K cd__law_compose "_law_compose" = true) (k__law_compose : PySem.W.keepIn K (.ref f__law_compose) = true)
    {od__law_gcd an__law_gcd : Option Addr} {sl__law_gcd : Array (Option Value)} {oc__law_gcd kV__law_gcd dc__law_gcd pm__law_gcd cd__law_gcd ct__law_gcd : Value}
    (a__law_gcd : PySem.W.nsIn K mainGlobals "_law_gcd" = some (some (.ref f__law_gcd))) (l__law_gcd : K.lookup f__law_gcd = some ⟨oc__law_gcd, od__law_gcd, .func (PySem.W.fnOf "_law_gcd" "_law_gcd" (defArgs s__law_gcd) (defBody s__law_gcd) (defScope s__law_gcd) .none kV__law_gcd dc__law_gcd pm__law_gcd an__law_gcd cd__law_gcd ct__law_gcd), sl__law_gcd⟩) (c__law_gcd : PySem.W.codeIn K cd__law_gcd "_law_gcd" = true) (k__law_gcd : PySem.W.keepIn K (.ref f__law_gcd) = true)
    {od__law_is_integer an__law_is_integer : Option Addr} {sl__law_is_integer : Array (Option Value)} {oc__law_is_integer kV__law_is_integer dc__law_is_integer pm__law_is_integer cd__law_is_integer ct__law_is_integer : Value}
    (a__law_is_integer : PySem.W.nsIn K mainGlobals "_law_is_integer" = some (some (.ref f__law_is_integer))) (l__law_is_integer : K.lookup f__law_is_integer = some ⟨oc__law_is_integer, od__law_is_integer, .func (PySem.W.fnOf "_law_is_integer" "_law_is_integer" (defArgs s__law_is_integer) (defBody s__law_is_integer) (defScope s__law_is_integer) .none kV__law_is_integer dc__law_is_integer pm__law_is_integer an__law_is_integer cd__law_is_integer ct__law_is_integer), sl__law_is_integer⟩) (c__law_is_integer : PySem.W.codeIn K cd__law_is_integer "_law_is_integer" = true) (k__law_is_integer : PySem.W.keepIn K (.ref f__law_is_integer) = true)
    {od__law_is_map an__law_is_map : Option Addr} {sl__law_is_map : Array (Option Value)} {oc__law_is_map kV__law_is_map dc__law_is_map pm__law_is_map cd__law_is_map ct__law_is_map : Value}
    (a__law_is_map : PySem.W.nsIn K mainGlobals "_law_is_map" = some (some (.ref f__law_is_map))) (l__law_is_map : K.lookup f__law_is_map = some ⟨oc__law_is_map, od__law_is_map, .func (PySem.W.fnOf "_law_is_map" "_law_is_map" (defArgs s__law_is_map) (defBody s__law_is_map) (defScope s__law_is_map) .none kV__law_is_map dc__law_is_map pm__law_is_map an__law_is_map cd__law_is_map ct__law_is_map), sl__law_is_map⟩) (c__law_is_map : PySem.W.codeIn K cd__law_is_map "_law_is_map" = true) (k__law_is_map : PySem.W.keepIn K (.ref f__law_is_map) = true)
    {od__law_divisors an__law_divisors : Option Addr} {sl__law_divisors : Array (Option Value)} {oc__law_divisors kV__law_divisors dc__law_divisors pm__law_divisors cd__law_divisors ct__law_divisors : Value}
    (a__law_divisors : PySem.W.nsIn K mainGlobals "_law_divisors" = some (some (.ref f__law_divisors))) (l__law_divisors : K.lookup f__law_divisors = some ⟨oc__law_divisors, od__law_divisors, .func (PySem.W.fnOf "_law_divisors" "_law_divisors" (defArgs s__law_divisors) (defBody s__law_divisors) (defScope s__law_divisors) .none kV__law_divisors dc__law_divisors pm__law_divisors an__law_divisors cd__law_divisors ct__law_divisors), sl__law_divisors⟩) (c__law_divisors : PySem.W.codeIn K cd__law_divisors "_law_divisors" = true) (k__law_divisors : PySem.W.keepIn K (.ref f__law_divisors) = true)
    {od__law_unit an__law_unit : Option Addr} {sl__law_unit : Array (Option Value)} {oc__law_unit kV__law_unit dc__law_unit pm__law_unit cd__law_unit ct__law_unit : Value}
    (a__law_unit : PySem.W.nsIn K mainGlobals "_law_unit" = some (some (.ref f__law_unit))) (l__law_unit : K.lookup f__law_unit = some ⟨oc__law_unit, od__law_unit, .func (PySem.W.fnOf "_law_unit" "_law_unit" (defArgs s__law_unit) (defBody s__law_unit) (defScope s__law_unit) .none kV__law_unit dc__law_unit pm__law_unit an__law_unit cd__law_unit ct__law_unit), sl__law_unit⟩) (c__law_unit : PySem.W.codeIn K cd__law_unit "_law_unit" = true) (k__law_unit : PySem.W.keepIn K (.ref f__law_unit) = true)
    {od__law_map an__law_map : Option Addr} {sl__law_map : Array (Option Value)} {oc__law_map kV__law_map dc__law_map pm__law_map cd__law_map ct__law_map : Value}
    (a__law_map : PySem.W.nsIn K mainGlobals "_law_map" = some (some (.ref f__law_map))) (l__law_map : K.lookup f__law_map = some ⟨oc__law_map, od__law_map, .func (PySem.W.fnOf "_law_map" "_law_map" (defArgs s__law_map) (defBody s__law_map) (defScope s__law_map) .none kV__law_map dc__law_map pm__law_map an__law_map cd__law_map ct__law_map), sl__law_map⟩) (c__law_map : PySem.W.codeIn K cd__law_map "_law_map" = true) (k__law_map : PySem.W.keepIn K (.ref f__law_map) = true)
    {od__law_shuffled an__law_shuffled : Option Addr} {sl__law_shuffled : Array (Option Value)} {oc__law_shuffled kV__law_shuffled dc__law_shuffled pm__law_shuffled cd__law_shuffled ct__law_shuffled : Value}
    (a__law_shuffled : PySem.W.nsIn K mainGlobals "_law_shuffled" = some (some (.ref f__law_shuffled))) (l__law_shuffled : K.lookup f__law_shuffled = some ⟨oc__law_shuffled, od__law_shuffled, .func (PySem.W.fnOf "_law_shuffled" "_law_shuffled" (defArgs s__law_shuffled) (defBody s__law_shuffled) (defScope s__law_shuffled) .none kV__law_shuffled dc__law_shuffled pm__law_shuffled an__law_shuffled cd__law_shuffled ct__law_shuffled), sl__law_shuffled⟩) (c__law_shuffled : PySem.W.codeIn K cd__law_shuffled "_law_shuffled" = true) (k__law_shuffled : PySem.W.keepIn K (.ref f__law_shuffled) = true)
    {od__law_modulus an__law_modulus : Option Addr} {sl__law_modulus : Array (Option Value)} {oc__law_modulus kV__law_modulus dc__law_modulus pm__law_modulus cd__law_modulus ct__law_modulus : Value}
    (a__law_modulus : PySem.W.nsIn K mainGlobals "_law_modulus" = some (some (.ref f__law_modulus))) (l__law_modulus : K.lookup f__law_modulus = some ⟨oc__law_modulus, od__law_modulus, .func (PySem.W.fnOf "_law_modulus" "_law_modulus" (defArgs s__law_modulus) (defBody s__law_modulus) (defScope s__law_modulus) .none kV__law_modulus dc__law_modulus pm__law_modulus an__law_modulus cd__law_modulus ct__law_modulus), sl__law_modulus⟩) (c__law_modulus : PySem.W.codeIn K cd__law_modulus "_law_modulus" = true) (k__law_modulus : PySem.W.keepIn K (.ref f__law_modulus) = true)
    {od__law_pen an__law_pen : Option Addr} {sl__law_pen : Array (Option Value)} {oc__law_pen kV__law_pen dc__law_pen pm__law_pen cd__law_pen ct__law_pen : Value}
    (a__law_pen : PySem.W.nsIn K mainGlobals "_law_pen" = some (some (.ref f__law_pen))) (l__law_pen : K.lookup f__law_pen = some ⟨oc__law_pen, od__law_pen, .func (PySem.W.fnOf "_law_pen" "_law_pen" (defArgs s__law_pen) (defBody s__law_pen) (defScope s__law_pen) .none kV__law_pen dc__law_pen pm__law_pen an__law_pen cd__law_pen ct__law_pen), sl__law_pen⟩) (c__law_pen : PySem.W.codeIn K cd__law_pen "_law_pen" = true) (k__law_pen : PySem.W.keepIn K (.ref f__law_pen) = true)
    {od_Units_count_below an_Units_count_below : Option Addr} {sl_Units_count_below : Array (Option Value)} {oc_Units_count_below kV_Units_count_below dc_Units_count_below pm_Units_count_below cd_Units_count_below ct_Units_count_below : Value}
    (a_Units_count_below : PySem.W.findIn K (.ref C_Units) "count_below" = some (some (.ref f_Units_count_below))) (i_Units_count_below : PySem.W.isFn K (.ref f_Units_count_below) = true) (l_Units_count_below : K.lookup f_Units_count_below = some ⟨oc_Units_count_below, od_Units_count_below, .func (PySem.W.fnOf "count_below" "Units.count_below" (defArgs s_Units_count_below) (defBody s_Units_count_below) (defScope s_Units_count_below) .none kV_Units_count_below dc_Units_count_below pm_Units_count_below an_Units_count_below cd_Units_count_below ct_Units_count_below), sl_Units_count_below⟩) (c_Units_count_below : PySem.W.codeIn K cd_Units_count_below "Units.count_below" = true) (k_Units_count_below : PySem.W.keepIn K (.ref f_Units_count_below) = true)
    {od_Units_at an_Units_at : Option Addr} {sl_Units_at : Array (Option Value)} {oc_Units_at kV_Units_at dc_Units_at pm_Units_at cd_Units_at ct_Units_at : Value}
    (a_Units_at : PySem.W.findIn K (.ref C_Units) "at" = some (some (.ref f_Units_at))) (i_Units_at : PySem.W.isFn K (.ref f_Units_at) = true) (l_Units_at : K.lookup f_Units_at = some ⟨oc_Units_at, od_Units_at, .func (PySem.W.fnOf "at" "Units.at" (defArgs s_Units_at) (defBody s_Units_at) (defScope s_Units_at) .none kV_Units_at dc_Units_at pm_Units_at an_Units_at cd_Units_at ct_Units_at), sl_Units_at⟩) (c_Units_at : PySem.W.codeIn K cd_Units_at "Units.at" = true) (k_Units_at : PySem.W.keepIn K (.ref f_Units_at) = true)
    {od_Units_count an_Units_count : Option Addr} {sl_Units_count : Array (Option Value)} {oc_Units_count kV_Units_count dc_Units_count pm_Units_count cd_Units_count ct_Units_count : Value}
    (a_Units_count : PySem.W.findIn K (.ref C_Units) "count" = some (some (.ref f_Units_count))) (i_Units_count : PySem.W.isFn K (.ref f_Units_count) = true) (l_Units_count : K.lookup f_Units_count = some ⟨oc_Units_count, od_Units_count, .func (PySem.W.fnOf "count" "Units.count" (defArgs s_Units_count) (defBody s_Units_count) (defScope s_Units_count) .none kV_Units_count dc_Units_count pm_Units_count an_Units_count cd_Units_count ct_Units_count), sl_Units_count⟩) (c_Units_count : PySem.W.codeIn K cd_Units_count "Units.count" = true) (k_Units_count : PySem.W.keepIn K (.ref f_Units_count) = true)
    {od_unit_inverse an_unit_inverse : Option Addr} {sl_unit_inverse : Array (Option Value)} {oc_unit_inverse kV_unit_inverse dc_unit_inverse pm_unit_inverse cd_unit_inverse ct_unit_inverse : Value}
    (a_unit_inverse : PySem.W.nsIn K mainGlobals "unit_inverse" = some (some (.ref f_unit_inverse))) (l_unit_inverse : K.lookup f_unit_inverse = some ⟨oc_unit_inverse, od_unit_inverse, .func (PySem.W.fnOf "unit_inverse" "unit_inverse" (defArgs s_unit_inverse) (defBody s_unit_inverse) (defScope s_unit_inverse) .none kV_unit_inverse dc_unit_inverse pm_unit_inverse an_unit_inverse cd_unit_inverse ct_unit_inverse), sl_unit_inverse⟩) (c_unit_inverse : PySem.W.codeIn K cd_unit_inverse "unit_inverse" = true) (k_unit_inverse : PySem.W.keepIn K (.ref f_unit_inverse) = true)
    {od_Units_excluded an_Units_excluded : Option Addr} {sl_Units_excluded : Array (Option Value)} {oc_Units_excluded kV_Units_excluded dc_Units_excluded pm_Units_excluded cd_Units_excluded ct_Units_excluded : Value}
    (a_Units_excluded : PySem.W.findIn K (.ref C_Units) "excluded" = some (some (.ref f_Units_excluded))) (i_Units_excluded : PySem.W.isFn K (.ref f_Units_excluded) = true) (l_Units_excluded : K.lookup f_Units_excluded = some ⟨oc_Units_excluded, od_Units_excluded, .func (PySem.W.fnOf "excluded" "Units.excluded" (defArgs s_Units_excluded) (defBody s_Units_excluded) (defScope s_Units_excluded) .none kV_Units_excluded dc_Units_excluded pm_Units_excluded an_Units_excluded cd_Units_excluded ct_Units_excluded), sl_Units_excluded⟩) (c_Units_excluded : PySem.W.codeIn K cd_Units_excluded "Units.excluded" = true) (k_Units_excluded : PySem.W.keepIn K (.ref f_Units_excluded) = true)
    {od_prime_factors an_prime_factors : Option Addr} {sl_prime_factors : Array (Option Value)} {oc_prime_factors kV_prime_factors dc_prime_factors pm_prime_factors cd_prime_factors ct_prime_factors : Value}
    (a_prime_factors : PySem.W.nsIn K mainGlobals "prime_factors" = some (some (.ref f_prime_factors))) (l_prime_factors : K.lookup f_prime_factors = some ⟨oc_prime_factors, od_prime_factors, .func (PySem.W.fnOf "prime_factors" "prime_factors" (defArgs s_prime_factors) (defBody s_prime_factors) (defScope s_prime_factors) .none kV_prime_factors dc_prime_factors pm_prime_factors an_prime_factors cd_prime_factors ct_prime_factors), sl_prime_factors⟩) (c_prime_factors : PySem.W.codeIn K cd_prime_factors "prime_factors" = true) (k_prime_factors : PySem.W.keepIn K (.ref f_prime_factors) = true)
    {od_Units_init an_Units_init : Option Addr} {sl_Units_init : Array (Option Value)} {oc_Units_init kV_Units_init dc_Units_init pm_Units_init cd_Units_init ct_Units_init : Value}
    (a_Units_init : PySem.W.findIn K (.ref C_Units) "__init__" = some (some (.ref f_Units_init))) (i_Units_init : PySem.W.isFn K (.ref f_Units_init) = true) (l_Units_init : K.lookup f_Units_init = some ⟨oc_Units_init, od_Units_init, .func (PySem.W.fnOf "__init__" "Units.__init__" (defArgs s_Units_init) (defBody s_Units_init) (defScope s_Units_init) .none kV_Units_init dc_Units_init pm_Units_init an_Units_init cd_Units_init ct_Units_init), sl_Units_init⟩) (c_Units_init : PySem.W.codeIn K cd_Units_init "Units.__init__" = true) (k_Units_init : PySem.W.keepIn K (.ref f_Units_init) = true)
    {od_gcd an_gcd : Option Addr} {sl_gcd : Array (Option Value)} {oc_gcd kV_gcd dc_gcd pm_gcd cd_gcd ct_gcd : Value}
    (a_gcd : PySem.W.nsIn K mainGlobals "gcd" = some (some (.ref f_gcd))) (l_gcd : K.lookup f_gcd = some ⟨oc_gcd, od_gcd, .func (PySem.W.fnOf "gcd" "gcd" (defArgs s_gcd) (defBody s_gcd) (defScope s_gcd) .none kV_gcd dc_gcd pm_gcd an_gcd cd_gcd ct_gcd), sl_gcd⟩) (c_gcd : PySem.W.codeIn K cd_gcd "gcd" = true) (k_gcd : PySem.W.keepIn K (.ref f_gcd) = true)
    {od_commuting_units an_commuting_units : Option Addr} {sl_commuting_units : Array (Option Value)} {oc_commuting_units kV_commuting_units dc_commuting_units pm_commuting_units cd_commuting_units ct_commuting_units : Value}
    (a_commuting_units : PySem.W.nsIn K mainGlobals "commuting_units" = some (some (.ref f_commuting_units))) (l_commuting_units : K.lookup f_commuting_units = some ⟨oc_commuting_units, od_commuting_units, .func (PySem.W.fnOf "commuting_units" "commuting_units" (defArgs s_commuting_units) (defBody s_commuting_units) (defScope s_commuting_units) .none kV_commuting_units dc_commuting_units pm_commuting_units an_commuting_units cd_commuting_units ct_commuting_units), sl_commuting_units⟩) (c_commuting_units : PySem.W.codeIn K cd_commuting_units "commuting_units" = true) (k_commuting_units : PySem.W.keepIn K (.ref f_commuting_units) = true)
    {od_commuting_count an_commuting_count : Option Addr} {sl_commuting_count : Array (Option Value)} {oc_commuting_count kV_commuting_count dc_commuting_count pm_commuting_count cd_commuting_count ct_commuting_count : Value}
    (a_commuting_count : PySem.W.nsIn K mainGlobals "commuting_count" = some (some (.ref f_commuting_count))) (l_commuting_count : K.lookup f_commuting_count = some ⟨oc_commuting_count, od_commuting_count, .func (PySem.W.fnOf "commuting_count" "commuting_count" (defArgs s_commuting_count) (defBody s_commuting_count) (defScope s_commuting_count) .none kV_commuting_count dc_commuting_count pm_commuting_count an_commuting_count cd_commuting_count ct_commuting_count), sl_commuting_count⟩) (c_commuting_count : PySem.W.codeIn K cd_commuting_count "commuting_count" = true) (k_commuting_count : PySem.W.keepIn K (.ref f_commuting_count) = true)
    {od_is_integer an_is_integer : Option Addr} {sl_is_integer : Array (Option Value)} {oc_is_integer kV_is_integer dc_is_integer pm_is_integer cd_is_integer ct_is_integer : Value}
    (a_is_integer : PySem.W.nsIn K mainGlobals "is_integer" = some (some (.ref f_is_integer))) (l_is_integer : K.lookup f_is_integer = some ⟨oc_is_integer, od_is_integer, .func (PySem.W.fnOf "is_integer" "is_integer" (defArgs s_is_integer) (defBody s_is_integer) (defScope s_is_integer) .none kV_is_integer dc_is_integer pm_is_integer an_is_integer cd_is_integer ct_is_integer), sl_is_integer⟩) (c_is_integer : PySem.W.codeIn K cd_is_integer "is_integer" = true) (k_is_integer : PySem.W.keepIn K (.ref f_is_integer) = true)
    {od_is_between an_is_between : Option Addr} {sl_is_between : Array (Option Value)} {oc_is_between kV_is_between dc_is_between pm_is_between cd_is_between ct_is_between : Value}
    (a_is_between : PySem.W.nsIn K mainGlobals "is_between" = some (some (.ref f_is_between))) (l_is_between : K.lookup f_is_between = some ⟨oc_is_between, od_is_between, .func (PySem.W.fnOf "is_between" "is_between" (defArgs s_is_between) (defBody s_is_between) (defScope s_is_between) .none kV_is_between dc_is_between pm_is_between an_is_between cd_is_between ct_is_between), sl_is_between⟩) (c_is_between : PySem.W.codeIn K cd_is_between "is_between" = true) (k_is_between : PySem.W.keepIn K (.ref f_is_between) = true)
    {od_solution an_solution : Option Addr} {sl_solution : Array (Option Value)} {oc_solution kV_solution dc_solution pm_solution cd_solution ct_solution : Value}
    (a_solution : PySem.W.nsIn K mainGlobals "solution" = some (some (.ref f_solution))) (l_solution : K.lookup f_solution = some ⟨oc_solution, od_solution, .func (PySem.W.fnOf "solution" "solution" (defArgs s_solution) (defBody s_solution) (defScope s_solution) .none kV_solution dc_solution pm_solution an_solution cd_solution ct_solution), sl_solution⟩) (c_solution : PySem.W.codeIn K cd_solution "solution" = true) (k_solution : PySem.W.keepIn K (.ref f_solution) = true)
    {od_commuting_at an_commuting_at : Option Addr} {sl_commuting_at : Array (Option Value)} {oc_commuting_at kV_commuting_at dc_commuting_at pm_commuting_at cd_commuting_at ct_commuting_at : Value}
    (a_commuting_at : PySem.W.nsIn K mainGlobals "commuting_at" = some (some (.ref f_commuting_at))) (l_commuting_at : K.lookup f_commuting_at = some ⟨oc_commuting_at, od_commuting_at, .func (PySem.W.fnOf "commuting_at" "commuting_at" (defArgs s_commuting_at) (defBody s_commuting_at) (defScope s_commuting_at) .none kV_commuting_at dc_commuting_at pm_commuting_at an_commuting_at cd_commuting_at ct_commuting_at), sl_commuting_at⟩) (c_commuting_at : PySem.W.codeIn K cd_commuting_at "commuting_at" = true) (k_commuting_at : PySem.W.keepIn K (.ref f_commuting_at) = true)
    {od_Units_index_of an_Units_index_of : Option Addr} {sl_Units_index_of : Array (Option Value)} {oc_Units_index_of kV_Units_index_of dc_Units_index_of pm_Units_index_of cd_Units_index_of ct_Units_index_of : Value}
    (a_Units_index_of : PySem.W.findIn K (.ref C_Units) "index_of" = some (some (.ref f_Units_index_of))) (i_Units_index_of : PySem.W.isFn K (.ref f_Units_index_of) = true) (l_Units_index_of : K.lookup f_Units_index_of = some ⟨oc_Units_index_of, od_Units_index_of, .func (PySem.W.fnOf "index_of" "Units.index_of" (defArgs s_Units_index_of) (defBody s_Units_index_of) (defScope s_Units_index_of) .none kV_Units_index_of dc_Units_index_of pm_Units_index_of an_Units_index_of cd_Units_index_of ct_Units_index_of), sl_Units_index_of⟩) (c_Units_index_of : PySem.W.codeIn K cd_Units_index_of "Units.index_of" = true) (k_Units_index_of : PySem.W.keepIn K (.ref f_Units_index_of) = true)
    {od_compose an_compose : Option Addr} {sl_compose : Array (Option Value)} {oc_compose kV_compose dc_compose pm_compose cd_compose ct_compose : Value}
    (a_compose : PySem.W.nsIn K mainGlobals "compose" = some (some (.ref f_compose))) (l_compose : K.lookup f_compose = some ⟨oc_compose, od_compose, .func (PySem.W.fnOf "compose" "compose" (defArgs s_compose) (defBody s_compose) (defScope s_compose) .none kV_compose dc_compose pm_compose an_compose cd_compose ct_compose), sl_compose⟩) (c_compose : PySem.W.codeIn K cd_compose "compose" = true) (k_compose : PySem.W.keepIn K (.ref f_compose) = true)
    {od_is_map an_is_map : Option Addr} {sl_is_map : Array (Option Value)} {oc_is_map kV_is_map dc_is_map pm_is_map cd_is_map ct_is_map : Value}
    (a_is_map : PySem.W.nsIn K mainGlobals "is_map" = some (some (.ref f_is_map))) (l_is_map : K.lookup f_is_map = some ⟨oc_is_map, od_is_map, .func (PySem.W.fnOf "is_map" "is_map" (defArgs s_is_map) (defBody s_is_map) (defScope s_is_map) .none kV_is_map dc_is_map pm_is_map an_is_map cd_is_map ct_is_map), sl_is_map⟩) (c_is_map : PySem.W.codeIn K cd_is_map "is_map" = true) (k_is_map : PySem.W.keepIn K (.ref f_is_map) = true)
    {od_commuting_index an_commuting_index : Option Addr} {sl_commuting_index : Array (Option Value)} {oc_commuting_index kV_commuting_index dc_commuting_index pm_commuting_index cd_commuting_index ct_commuting_index : Value}
    (a_commuting_index : PySem.W.nsIn K mainGlobals "commuting_index" = some (some (.ref f_commuting_index))) (l_commuting_index : K.lookup f_commuting_index = some ⟨oc_commuting_index, od_commuting_index, .func (PySem.W.fnOf "commuting_index" "commuting_index" (defArgs s_commuting_index) (defBody s_commuting_index) (defScope s_commuting_index) .none kV_commuting_index dc_commuting_index pm_commuting_index an_commuting_index cd_commuting_index ct_commuting_index), sl_commuting_index⟩) (c_commuting_index : PySem.W.codeIn K cd_commuting_index "commuting_index" = true) (k_commuting_index : PySem.W.keepIn K (.ref f_commuting_index) = true)
    {od_law an_law : Option Addr} {sl_law : Array (Option Value)} {oc_law kV_law dc_law pm_law ct_law : Value}
    {cA_law P_law : Addr}
    (a_law : PySem.W.nsIn K mainGlobals "law" = some (some (.ref f_law))) (l_law : K.lookup f_law = some ⟨oc_law, od_law, .func (PySem.W.fnOf "law" "law" (defArgs s_law) (defBody s_law) (defScope s_law) .none kV_law dc_law pm_law an_law (.ref cA_law) ct_law), sl_law⟩) (c_law : PySem.W.codeIn K (.ref cA_law) "law" = true) (k_law : PySem.W.keepIn K (.ref f_law) = true)
    {oq_law : Value} {oe_law : Option Addr} {vs_law : Array Value} {so_law : Array (Option Value)} (lc_law : K.lookup cA_law = some ⟨oq_law, oe_law, .fields vs_law, so_law⟩) (v11_law : (vs_law[11]? : Option Value) = some (.ref P_law))
    (z_IndexError : PySem.W.nsIn K mainGlobals "IndexError" = some none)
    (z_abs : PySem.W.nsIn K mainGlobals "abs" = some none)
    (z_all : PySem.W.nsIn K mainGlobals "all" = some none)
    (z_bool : PySem.W.nsIn K mainGlobals "bool" = some none)
    (z_int : PySem.W.nsIn K mainGlobals "int" = some none)
    (z_isinstance : PySem.W.nsIn K mainGlobals "isinstance" = some none)
    (z_len : PySem.W.nsIn K mainGlobals "len" = some none)
    (z_list : PySem.W.nsIn K mainGlobals "list" = some none)
    (z_min : PySem.W.nsIn K mainGlobals "min" = some none)
    (z_range : PySem.W.nsIn K mainGlobals "range" = some none)
    (z_repr : PySem.W.nsIn K mainGlobals "repr" = some none)
    (z_sorted : PySem.W.nsIn K mainGlobals "sorted" = some none)
    (z_sum : PySem.W.nsIn K mainGlobals "sum" = some none)
    (z_tuple : PySem.W.nsIn K mainGlobals "tuple" = some none)
    {p_PRIMES : Addr} {n_PRIMES : Nat} {od_PRIMES : Option Addr} {sl_PRIMES : Array (Option Value)} {t_PRIMES_0 t_PRIMES_1 t_PRIMES_2 t_PRIMES_3 t_PRIMES_4 t_PRIMES_5 : Tok}
    (a_PRIMES : PySem.W.nsIn K mainGlobals "PRIMES" = some (some (.ref p_PRIMES))) (l_PRIMES : K.lookup p_PRIMES = some ⟨.type "tuple", od_PRIMES, .seq #[.int 2 t_PRIMES_0, .int 3 t_PRIMES_1, .int 5 t_PRIMES_2, .int 7 t_PRIMES_3, .int 11 t_PRIMES_4, .int 13 t_PRIMES_5] n_PRIMES, sl_PRIMES⟩)
    : ∃ (fd : FuncData) (m : MF), (∀ (s : Shared) (v : Value), BindsTo s fd ⟨[v], []⟩ [("script", v)]) ∧ (∀ base : Heap, K.In base → base.Ns mainGlobals mg → TBs K mg base → FnG P w K mg base 10 fa fd ["script"] m) ∧ ∃ C_OutOfRange C_Units, m = m_law C_OutOfRange C_Units := by
  have e := hfa.symm.trans (PySem.W.mg_of X G a_law)
  cases e
  have F__law_draw := fun_mk (st := s__law_draw) l__law_draw c__law_draw k__law_draw
  have F__law_pick := fun_mk (st := s__law_pick) l__law_pick c__law_pick k__law_pick
  have F__law_any_value := fun_mk (st := s__law_any_value) l__law_any_value c__law_any_value k__law_any_value
  have F__law_caught := fun_mk (st := s__law_caught) l__law_caught c__law_caught k__law_caught
  have F__law_compose := fun_mk (st := s__law_compose) l__law_compose c__law_compose k__law_compose
  have F__law_gcd := fun_mk (st := s__law_gcd) l__law_gcd c__law_gcd k__law_gcd
  have F__law_is_integer := fun_mk (st := s__law_is_integer) l__law_is_integer c__law_is_integer k__law_is_integer
  have F__law_is_map := fun_mk (st := s__law_is_map) l__law_is_map c__law_is_map k__law_is_map
  have F__law_divisors := fun_mk (st := s__law_divisors) l__law_divisors c__law_divisors k__law_divisors
  have F__law_unit := fun_mk (st := s__law_unit) l__law_unit c__law_unit k__law_unit
  have F__law_map := fun_mk (st := s__law_map) l__law_map c__law_map k__law_map
  have F__law_shuffled := fun_mk (st := s__law_shuffled) l__law_shuffled c__law_shuffled k__law_shuffled
  have F__law_modulus := fun_mk (st := s__law_modulus) l__law_modulus c__law_modulus k__law_modulus
  have F__law_pen := fun_mk (st := s__law_pen) l__law_pen c__law_pen k__law_pen
  have F_Units_count_below := fun_mk (st := s_Units_count_below) l_Units_count_below c_Units_count_below k_Units_count_below
  have F_Units_at := fun_mk (st := s_Units_at) l_Units_at c_Units_at k_Units_at
  have F_Units_count := fun_mk (st := s_Units_count) l_Units_count c_Units_count k_Units_count
  have F_unit_inverse := fun_mk (st := s_unit_inverse) l_unit_inverse c_unit_inverse k_unit_inverse
  have F_Units_excluded := fun_mk (st := s_Units_excluded) l_Units_excluded c_Units_excluded k_Units_excluded
  have F_prime_factors := fun_mk (st := s_prime_factors) l_prime_factors c_prime_factors k_prime_factors
  have F_Units_init := fun_mk (st := s_Units_init) l_Units_init c_Units_init k_Units_init
  have F_gcd := fun_mk (st := s_gcd) l_gcd c_gcd k_gcd
  have F_commuting_units := fun_mk (st := s_commuting_units) l_commuting_units c_commuting_units k_commuting_units
  have F_commuting_count := fun_mk (st := s_commuting_count) l_commuting_count c_commuting_count k_commuting_count
  have F_is_integer := fun_mk (st := s_is_integer) l_is_integer c_is_integer k_is_integer
  have F_is_between := fun_mk (st := s_is_between) l_is_between c_is_between k_is_between
  have F_solution := fun_mk (st := s_solution) l_solution c_solution k_solution
  have F_commuting_at := fun_mk (st := s_commuting_at) l_commuting_at c_commuting_at k_commuting_at
  have F_Units_index_of := fun_mk (st := s_Units_index_of) l_Units_index_of c_Units_index_of k_Units_index_of
  have F_compose := fun_mk (st := s_compose) l_compose c_compose k_compose
  have F_is_map := fun_mk (st := s_is_map) l_is_map c_is_map k_is_map
  have F_commuting_index := fun_mk (st := s_commuting_index) l_commuting_index c_commuting_index k_commuting_index
  have F_law := fun_mk (st := s_law) l_law c_law k_law
  have T : Tx K mg f__law_draw f__law_pick f__law_any_value f__law_caught f__law_compose f__law_gcd f__law_is_integer f__law_is_map f__law_divisors f__law_unit f__law_map f__law_shuffled f__law_modulus f__law_pen f_Units_count_below f_Units_at f_Units_count f_unit_inverse f_Units_excluded f_prime_factors f_Units_init f_gcd f_commuting_units f_commuting_count f_is_integer f_is_between f_solution f_commuting_at f_Units_index_of f_compose f_is_map f_commuting_index fa C_Units C_OutOfRange _ _ _ _ _ _ _ _ _ _ _ _ _ _ _ _ _ _ _ _ _ _ _ _ _ _ _ _ _ _ _ _ _ := {
    F__law_draw := F__law_draw, g__law_draw := PySem.W.mg_of X G a__law_draw, k__law_draw := k__law_draw,
    b__law_draw := F__law_draw.binds (ps := ["pen", "many"]) fun _ _ _ _ _ _ us hl => match us, hl with | [_, _], _ => rfl,
    F__law_pick := F__law_pick, g__law_pick := PySem.W.mg_of X G a__law_pick, k__law_pick := k__law_pick,
    b__law_pick := F__law_pick.binds (ps := ["pen", "some"]) fun _ _ _ _ _ _ us hl => match us, hl with | [_, _], _ => rfl,
    F__law_any_value := F__law_any_value, g__law_any_value := PySem.W.mg_of X G a__law_any_value, k__law_any_value := k__law_any_value,
    b__law_any_value := F__law_any_value.binds (ps := ["pen"]) fun _ _ _ _ _ _ us hl => match us, hl with | [_], _ => rfl,
    F__law_caught := F__law_caught, g__law_caught := PySem.W.mg_of X G a__law_caught, k__law_caught := k__law_caught,
    b__law_caught := F__law_caught.binds (ps := ["call"]) fun _ _ _ _ _ _ us hl => match us, hl with | [_], _ => rfl,
    F__law_compose := F__law_compose, g__law_compose := PySem.W.mg_of X G a__law_compose, k__law_compose := k__law_compose,
    b__law_compose := F__law_compose.binds (ps := ["m", "first", "second"]) fun _ _ _ _ _ _ us hl => match us, hl with | [_, _, _], _ => rfl,
    F__law_gcd := F__law_gcd, g__law_gcd := PySem.W.mg_of X G a__law_gcd, k__law_gcd := k__law_gcd,
    b__law_gcd := F__law_gcd.binds (ps := ["one", "other"]) fun _ _ _ _ _ _ us hl => match us, hl with | [_, _], _ => rfl,
    F__law_is_integer := F__law_is_integer, g__law_is_integer := PySem.W.mg_of X G a__law_is_integer, k__law_is_integer := k__law_is_integer,
    b__law_is_integer := F__law_is_integer.binds (ps := ["value"]) fun _ _ _ _ _ _ us hl => match us, hl with | [_], _ => rfl,
    F__law_is_map := F__law_is_map, g__law_is_map := PySem.W.mg_of X G a__law_is_map, k__law_is_map := k__law_is_map,
    b__law_is_map := F__law_is_map.binds (ps := ["m", "value"]) fun _ _ _ _ _ _ us hl => match us, hl with | [_, _], _ => rfl,
    F__law_divisors := F__law_divisors, g__law_divisors := PySem.W.mg_of X G a__law_divisors, k__law_divisors := k__law_divisors,
    b__law_divisors := F__law_divisors.binds (ps := ["m"]) fun _ _ _ _ _ _ us hl => match us, hl with | [_], _ => rfl,
    F__law_unit := F__law_unit, g__law_unit := PySem.W.mg_of X G a__law_unit, k__law_unit := k__law_unit,
    b__law_unit := F__law_unit.binds (ps := ["pen", "m"]) fun _ _ _ _ _ _ us hl => match us, hl with | [_, _], _ => rfl,
    F__law_map := F__law_map, g__law_map := PySem.W.mg_of X G a__law_map, k__law_map := k__law_map,
    b__law_map := F__law_map.binds (ps := ["pen", "m"]) fun _ _ _ _ _ _ us hl => match us, hl with | [_, _], _ => rfl,
    F__law_shuffled := F__law_shuffled, g__law_shuffled := PySem.W.mg_of X G a__law_shuffled, k__law_shuffled := k__law_shuffled,
    b__law_shuffled := F__law_shuffled.binds (ps := ["pen", "some"]) fun _ _ _ _ _ _ us hl => match us, hl with | [_, _], _ => rfl,
    F__law_modulus := F__law_modulus, g__law_modulus := PySem.W.mg_of X G a__law_modulus, k__law_modulus := k__law_modulus,
    b__law_modulus := F__law_modulus.binds (ps := ["pen", "most"]) fun _ _ _ _ _ _ us hl => match us, hl with | [_, _], _ => rfl,
    F__law_pen := F__law_pen, g__law_pen := PySem.W.mg_of X G a__law_pen, k__law_pen := k__law_pen,
    b__law_pen := F__law_pen.binds (ps := ["script"]) fun _ _ _ _ _ _ us hl => match us, hl with | [_], _ => rfl,
    F_Units_count_below := F_Units_count_below,
    me_Units_count_below := ⟨a_Units_count_below, i_Units_count_below, k_Units_count_below⟩,
    b_Units_count_below := F_Units_count_below.binds (ps := ["self", "limit"]) fun _ _ _ _ _ _ us hl => match us, hl with | [_, _], _ => rfl,
    F_Units_at := F_Units_at,
    me_Units_at := ⟨a_Units_at, i_Units_at, k_Units_at⟩,
    b_Units_at := F_Units_at.binds (ps := ["self", "index"]) fun _ _ _ _ _ _ us hl => match us, hl with | [_, _], _ => rfl,
    F_Units_count := F_Units_count,
    me_Units_count := ⟨a_Units_count, i_Units_count, k_Units_count⟩,
    b_Units_count := F_Units_count.binds (ps := ["self"]) fun _ _ _ _ _ _ us hl => match us, hl with | [_], _ => rfl,
    F_unit_inverse := F_unit_inverse, g_unit_inverse := PySem.W.mg_of X G a_unit_inverse, k_unit_inverse := k_unit_inverse,
    b_unit_inverse := F_unit_inverse.binds (ps := ["number", "m"]) fun _ _ _ _ _ _ us hl => match us, hl with | [_, _], _ => rfl,
    F_Units_excluded := F_Units_excluded,
    me_Units_excluded := ⟨a_Units_excluded, i_Units_excluded, k_Units_excluded⟩,
    b_Units_excluded := F_Units_excluded.binds (ps := ["self", "prime", "row"]) fun _ _ _ _ _ _ us hl => match us, hl with | [_, _, _], _ => rfl,
    F_prime_factors := F_prime_factors, g_prime_factors := PySem.W.mg_of X G a_prime_factors, k_prime_factors := k_prime_factors,
    b_prime_factors := F_prime_factors.binds (ps := ["number"]) fun _ _ _ _ _ _ us hl => match us, hl with | [_], _ => rfl,
    F_Units_init := F_Units_init,
    b_Units_init := F_Units_init.binds (ps := ["self", "m", "residue", "step"]) fun _ _ _ _ _ _ us hl => match us, hl with | [_, _, _, _], _ => rfl,
    F_gcd := F_gcd, g_gcd := PySem.W.mg_of X G a_gcd, k_gcd := k_gcd,
    b_gcd := F_gcd.binds (ps := ["first", "second"]) fun _ _ _ _ _ _ us hl => match us, hl with | [_, _], _ => rfl,
    F_commuting_units := F_commuting_units, g_commuting_units := PySem.W.mg_of X G a_commuting_units, k_commuting_units := k_commuting_units,
    b_commuting_units := F_commuting_units.binds (ps := ["m", "f"]) fun _ _ _ _ _ _ us hl => match us, hl with | [_, _], _ => rfl,
    F_commuting_count := F_commuting_count, g_commuting_count := PySem.W.mg_of X G a_commuting_count, k_commuting_count := k_commuting_count,
    b_commuting_count := F_commuting_count.binds (ps := ["m", "f"]) fun _ _ _ _ _ _ us hl => match us, hl with | [_, _], _ => rfl,
    F_is_integer := F_is_integer, g_is_integer := PySem.W.mg_of X G a_is_integer, k_is_integer := k_is_integer,
    b_is_integer := F_is_integer.binds (ps := ["value"]) fun _ _ _ _ _ _ us hl => match us, hl with | [_], _ => rfl,
    F_is_between := F_is_between, g_is_between := PySem.W.mg_of X G a_is_between, k_is_between := k_is_between,
    b_is_between := F_is_between.binds (ps := ["value", "low", "high"]) fun _ _ _ _ _ _ us hl => match us, hl with | [_, _, _], _ => rfl,
    F_solution := F_solution, g_solution := PySem.W.mg_of X G a_solution, k_solution := k_solution,
    b_solution := F_solution.binds (ps := ["m", "factor", "target"]) fun _ _ _ _ _ _ us hl => match us, hl with | [_, _, _], _ => rfl,
    F_commuting_at := F_commuting_at, g_commuting_at := PySem.W.mg_of X G a_commuting_at, k_commuting_at := k_commuting_at,
    b_commuting_at := F_commuting_at.binds (ps := ["m", "f", "index"]) fun _ _ _ _ _ _ us hl => match us, hl with | [_, _, _], _ => rfl,
    F_Units_index_of := F_Units_index_of,
    me_Units_index_of := ⟨a_Units_index_of, i_Units_index_of, k_Units_index_of⟩,
    b_Units_index_of := F_Units_index_of.binds (ps := ["self", "unit"]) fun _ _ _ _ _ _ us hl => match us, hl with | [_, _], _ => rfl,
    F_compose := F_compose, g_compose := PySem.W.mg_of X G a_compose, k_compose := k_compose,
    b_compose := F_compose.binds (ps := ["m", "first", "second"]) fun _ _ _ _ _ _ us hl => match us, hl with | [_, _, _], _ => rfl,
    F_is_map := F_is_map, g_is_map := PySem.W.mg_of X G a_is_map, k_is_map := k_is_map,
    b_is_map := F_is_map.binds (ps := ["m", "value"]) fun _ _ _ _ _ _ us hl => match us, hl with | [_, _], _ => rfl,
    F_commuting_index := F_commuting_index, g_commuting_index := PySem.W.mg_of X G a_commuting_index, k_commuting_index := k_commuting_index,
    b_commuting_index := F_commuting_index.binds (ps := ["m", "f", "g"]) fun _ _ _ _ _ _ us hl => match us, hl with | [_, _, _], _ => rfl,
    F_law := F_law, g_law := PySem.W.mg_of X G a_law, k_law := k_law, lt_law := ⟨_, _, tab_mk a_law l_law rfl lc_law v11_law, rfl⟩,
    b_law := F_law.binds (ps := ["script"]) fun _ _ _ _ _ _ us hl => match us, hl with | [_], _ => rfl,
    g_Units := PySem.W.mg_of X G a_Units, cl_Units := ⟨pg_Units, hd_Units, po_Units, sa_Units⟩,
    mk_Units := ⟨mk_Units, a_Units_init, i_Units_init, kc_Units⟩,
    n_Units_m := n_Units_m,
    n_Units_stride := n_Units_stride,
    n_Units_residue := n_Units_residue,
    n_Units_sieve := n_Units_sieve,
    x_OutOfRange := ⟨fI_OutOfRange, xtxt_mk (PySem.W.mg_of X G xa_OutOfRange) PySem.F.excBase_IndexError PySem.DLX.tl_IndexError xl_OutOfRange xsa_OutOfRange xga_OutOfRange xgg_OutOfRange (fun f hf => (List.mem_cons.mp hf).elim (fun e => by rw [e]; exact xn0_OutOfRange) fun hf => nomatch hf) xi_OutOfRange xti_OutOfRange xkc_OutOfRange xex_OutOfRange xty_OutOfRange xhd_OutOfRange xsu_OutOfRange L_affinewalk_k30_commuting_maps.xa_OutOfRange xli_OutOfRange xci_OutOfRange⟩,
    xi_OutOfRange := xis_mk xga_OutOfRange xgg_OutOfRange xex_OutOfRange xhd_OutOfRange xka_OutOfRange xkn_OutOfRange xkt_OutOfRange xkm_OutOfRange,
    xk_OutOfRange_IndexError := xk_mk xs_IndexError_OutOfRange (by decide +kernel),
    z_IndexError := PySem.W.mg_none_of X G z_IndexError,
    z_abs := PySem.W.mg_none_of X G z_abs,
    z_all := PySem.W.mg_none_of X G z_all,
    z_bool := PySem.W.mg_none_of X G z_bool,
    z_int := PySem.W.mg_none_of X G z_int,
    z_isinstance := PySem.W.mg_none_of X G z_isinstance,
    z_len := PySem.W.mg_none_of X G z_len,
    z_list := PySem.W.mg_none_of X G z_list,
    z_min := PySem.W.mg_none_of X G z_min,
    z_range := PySem.W.mg_none_of X G z_range,
    z_repr := PySem.W.mg_none_of X G z_repr,
    z_sorted := PySem.W.mg_none_of X G z_sorted,
    z_sum := PySem.W.mg_none_of X G z_sum,
    z_tuple := PySem.W.mg_none_of X G z_tuple,
    e_PRIMES := ⟨_, PySem.W.mg_of X G a_PRIMES, by unfold d_PRIMES Rep; exact ⟨_, [.int 2, .int 3, .int 5, .int 7, .int 11, .int 13], rfl, .inr ⟨_, _, _, l_PRIMES, rfl, rfl, by show 6 ≤ sizeLine; rw [sizeLine_eq]; decide, by repeat (first | exact .nil | refine .cons ⟨_, rfl⟩ ?_)⟩, by repeat (first | exact Reps.nil | refine Reps.cons (by unfold Rep; rfl) ?_)⟩⟩,
  }
  exact ⟨_, m_law C_OutOfRange C_Units, fun s v => .of_eq rfl, fun base _ _ tbs => ok_law T tbs, ⟨C_OutOfRange, C_Units, rfl⟩⟩
end L_affinewalk_k30_commuting_maps

namespace L_affinewalk_k30_commuting_maps
open PySem PySem.Spec PyProof.Rows L2 DL Gm
theorem vReprJ {Γ : Gam} {Q : Cell → Gam → Prop} {a : Int} (h : sm a) (q : Q (.sh (.leaf (.str (PyData.shown (.int a))))) Γ) : evG (gRepr [.leaf (.int a)]) Γ Q := vReprN h q
theorem vReprN0 {Γ : Gam} {Q : Cell → Gam → Prop} (q : Q (.sh (.leaf (.str (PyData.shown .none)))) Γ) : evG (gRepr [.leaf .non]) Γ Q := vRepr (p := .none) rfl (rOK_non.ok (by decide) (by decide)) q
/-- a value that is no index -/
def oddV (N : Int) (v : D) : Prop := tyD v ∧ btw 0 (N - 1) v = false ∧ ∃ w : Str, gRepr [v] = some (.old (.leaf (.str w)))
theorem oddV_int {N i : Int} (h : i < 0 ∨ N ≤ i) (hr : reprOk (.int i) = true) : oddV N (.leaf (.int i)) := ⟨⟨"int", rfl⟩, btw_f (by omega), _, gRepr_of (p := .int i) rfl hr⟩
theorem oddV_p {N : Int} {v : D} {p : PyData} (h : tyD v) (hb : btw 0 (N - 1) v = false) (e : toP v = some p) (hr : reprOk p = true) : oddV N v := ⟨h, hb, _, gRepr_of e hr⟩
theorem rOKsm0 {i : Int} (h : sm i) : reprOk (.int i) = true := (rOK_int (by unfold sm at h; omega)).ok (by decide) (by decide)
def comG (m : Int) (f : Int × Int) : D → Option D
  | .node .tup [.leaf (.int a), .leaf (.int b)] => if cmpM m f (a, b) = cmpM m (a, b) f then some (.node .tup [.leaf (.int a), .leaf (.int b)]) else none
  | _ => none
theorem comG_due (m : Int) (f : Int × Int) : ∀ l : List (Int × Int), (ptsD l).filterMap (comG m f) = ptsD (l.filter fun g => decide (cmpM m f g = cmpM m g f))
  | [] => rfl
  | g :: l => by
    have ih := comG_due m f l
    show (pD g :: ptsD l).filterMap (comG m f) = _
    rw [List.filterMap_cons]
    have e : comG m f (pD g) = if cmpM m f g = cmpM m g f then some (pD g) else none := rfl
    rw [e]
    by_cases h : cmpM m f g = cmpM m g f
    · rw [if_pos h, List.filter_cons_of_pos (by simpa using h)]
      dsimp only
      rw [ih]
      rfl
    · rw [if_neg h, List.filter_cons_of_neg (by simpa using h)]
      exact ih
theorem row_map (m : Int) (n a : Nat) : (rangeD 0 n).filterMap (fun d => if gcdI (a : Int) m = 1 then some (D.node .tup [.leaf (.int a), d]) else none) = ptsD (if gcdI (a : Int) m = 1 then (List.range n).map fun (b : Nat) => ((a : Int), (b : Int)) else []) := by
  by_cases h : gcdI (a : Int) m = 1
  · rw [if_pos h]
    have e : (fun d : D => if gcdI (a : Int) m = 1 then some (D.node .tup [.leaf (.int a), d]) else none) = fun d => some (D.node .tup [.leaf (.int a), d]) := by
      funext d
      rw [if_pos h]
    rw [e, List.filterMap_eq_map']
    unfold rangeD ptsD
    rw [List.map_map, List.map_map]
    refine List.map_congr_left fun b _ => ?_
    show D.node .tup [.leaf (.int a), .leaf (.int (0 + (b : Int)))] = D.node .tup [.leaf (.int a), .leaf (.int b)]
    rw [Int.zero_add]
  · rw [if_neg h]
    refine List.filterMap_eq_nil_iff.mpr fun d _ => ?_
    rw [if_neg h]
theorem atI_due {l : List (Int × Int)} {i : Int} {g : Int × Int} (h0 : 0 ≤ i) (h : l[i.toNat]? = some g) : atI (ptsD l) i = some (pD g) := by
  have e : i = ((i.toNat : Nat) : Int) := by omega
  rw [e]
  exact DL.atI_nat (by rw [List.getElem?_map, h]; rfl)
local macro_rules | `(tactic| walk_at "evg") => `(tactic| first | with_reducible refine vLenScr ?_ | with_reducible refine vReprB ?_ | fail)
set_option maxHeartbeats 40000000 in
theorem says (C_OutOfRange C_Units : Addr) (ns : List Int) (hn : ns.length ≤ 63) : SaysTrue (m_law C_OutOfRange C_Units) ns := by
  suffices h : evM (m_law C_OutOfRange C_Units) [.sh (scriptD ns)] (fun c _ => c = .sh (.leaf (.bl true))) (fun _ _ => False) by
    obtain ⟨r, T', e, q⟩ := h
    cases r with
    | val c => obtain rfl := q; exact ⟨T', e⟩
    | exc x => exact q.elim
  refine evDef _ (by rfl) ?_
  unfold g_law
  repeat' walk_at "ev"
  refine pen_ok ns hn ?_
  repeat' (first | with_reducible refine vMin2A (fun k hk1 hk2 hk3 => ?_) | walk_at "ev")
  refine evFor_range (fun k Γ => ∃ (t r : Int) (x2 x3 x4 x5 x6 x8 x10 x12 x13 x14 x15 : Option Cell), Γ = [some (.sh (scriptD ns)), some (penC ns t r), x2, x3, x4, x5, x6, none, x8, none, x10, none, x12, x13, x14, x15] ∧ 0 ≤ t ∧ t ≤ 100 * (k : Int) ∧ 0 ≤ r ∧ isRf (some x2) = false ∧ isRf (some x3) = false ∧ isRf (some x4) = false ∧ isRf (some x5) = false ∧ isRf (some x6) = false ∧ isRf (some x8) = false ∧ isRf (some x10) = false ∧ isRf (some x12) = false ∧ isRf (some x13) = false ∧ isRf (some x14) = false ∧ isRf (some x15) = false) _ _ 0 ⟨0, 0, _, _, _, _, _, _, _, _, _, _, _, rfl, by omega, by omega, by omega, rfl, rfl, rfl, rfl, rfl, rfl, rfl, rfl, rfl, rfl, rfl⟩ (fun j Γ hj hI => ?_) fun Γ hI => ?_
  · obtain ⟨t, r, x2, x3, x4, x5, x6, x8, x10, x12, x13, x14, x15, rfl, ht, ht2, hr, f2, f3, f4, f5, f6, f8, f10, f12, f13, f14, f15⟩ := hI
    repeat' walk_at "ev"
    refine modulus_ok ns t r _ (by omega) hr (by omega) fun m t1 r1 hs m1 m2 a1 a2 a3 => ?_
    have hM : 2 ≤ m ∧ m ≤ 1000000000 := by omega
    have hM12 : 2 ≤ m ∧ m ≤ 1000000000000 := by omega
    repeat' walk_at "ev"
    refine law_map_p ns t1 r1 m (by omega) a3 (by omega) fun f t4 r4 hf b1 b2 b3 => ?_
    obtain ⟨n1, n2, n3, n4, n5, n6, n7⟩ := cmN_spec (m := m) (by omega) f
    obtain ⟨u1, u2, u3⟩ := cmU_bnd (m := m) (by omega) f
    have hprod : cmU m f * cmN m f ≤ 40 * 40 := Int.mul_le_mul (by omega) (by omega) (by omega) (by omega)
    have hprod1 : 1 * 1 ≤ cmU m f * cmN m f := Int.mul_le_mul u1 n1 (by omega) (by omega)
    have hdl := due_len hs hM hf.1
    have hsf := smM_uni hf (by omega)
    repeat' walk_at "ev"
    refine evFor_range (fun k Γ => ∃ (x6 : Option Cell), Γ = [some (.sh (scriptD ns)), some (penC ns t4 r4), some (.sh (.leaf (.int (0 + (j : Int))))), some (.sh (.leaf (.int m))), some (.sh (pD f)), some (.ow .lst (ptsD (evL m m.toNat k))), x6, none, x8, none, x10, none, x12, x13, x14, x15] ∧ isRf (some x6) = false) _ _ 0 ⟨_, rfl, f6⟩ (fun k Γ hk hI => ?_) fun Γ hI => ?_
    · obtain ⟨x6, rfl, f6⟩ := hI
      have hel := evL_len m m.toNat (0 + k)
      have hel2 : m.toNat * (0 + k) ≤ 40 * 40 := Nat.mul_le_mul (by omega) (by omega)
      have hpl : (ptsD (evL m m.toNat (0 + k))).length = (evL m m.toNat (0 + k)).length := List.length_map _
      repeat' walk_at "ev"
      refine evLcP (fun d => if gcdI ((k : Nat) : Int) m = 1 then some (D.node .tup [.leaf (.int k), d]) else none) _ (by rfl) (by unfold rangeD; rw [List.length_map, List.length_range]; omega) (fun d hd => ?_) ?_
      · repeat' walk_at "ev"
        refine law_gcd_ok _ m (by omega) ?_
        rw [show (0 : Int) + (k : Int) = (k : Int) by omega]
        repeat' walk_at "ev"
        all_goals first
          | exact ⟨rfl, if_pos (by assumption)⟩
          | exact ⟨rfl, if_neg (by assumption)⟩
          | exact if_pos (by assumption)
          | exact if_neg (by assumption)
      rw [row_map m m.toNat k]
      repeat' walk_at "ev"
      have hrl : (ptsD (if gcdI ((k : Nat) : Int) m = 1 then (List.range m.toNat).map fun (b : Nat) => (((k : Nat) : Int), (b : Int)) else [])).length ≤ 40 := by
        rw [List.length_map]
        split
        · rw [List.length_map, List.length_range]; omega
        · simp
      refine uExtend (by omega) ?_
      repeat' walk_at "ev"
      refine ⟨some (.sh (.leaf (.int (0 + (k : Int))))), ?_, rfl⟩
      rw [show 0 + k + 1 = k + 1 by omega, evL_succ, show ptsD (evL m m.toNat k ++ _) = ptsD (evL m m.toNat k) ++ ptsD _ from List.map_append, show 0 + k = k by omega]
      rfl
    · obtain ⟨x6, rfl, f6⟩ := hI
      rw [Nat.zero_add]
      have hel := evL_len m m.toNat m.toNat
      have hel2 : m.toNat * m.toNat ≤ 40 * 40 := Nat.mul_le_mul (by omega) (by omega)
      have hpl : (ptsD (evL m m.toNat m.toNat)).length = (evL m m.toNat m.toNat).length := List.length_map _
      repeat' walk_at "ev"
      refine evLcP (comG m f) _ (by rfl) (by omega) (fun d hd => ?_) ?_
      · obtain ⟨g, hg, rfl⟩ := List.mem_map.mp hd
        have hg' := evL_mem.mp hg
        have hgr : redM m g := ⟨⟨hg'.1.1, by omega⟩, hg'.2.1.1, by omega⟩
        have e : comG m f (pD g) = if cmpM m f g = cmpM m g f then some (pD g) else none := rfl
        repeat' walk_at "ev"
        refine law_compose_p hM12 hf.1 hgr ?_
        repeat' walk_at "ev"
        refine law_compose_p hM12 hgr hf.1 ?_
        repeat' (first | walk_at "ev" | with_reducible refine vEqM ?_)
        all_goals rw [e]
        all_goals first
          | exact ⟨rfl, if_pos (by assumption)⟩
          | exact ⟨rfl, if_neg (by assumption)⟩
          | exact if_pos (by assumption)
          | exact if_neg (by assumption)
      rw [comG_due]
      rw [show (evL m m.toNat m.toNat).filter (fun g => decide (cmpM m f g = cmpM m g f)) = dueL m f from rfl]
      have hdpl : ((ptsD (dueL m f)).length : Int) = cmU m f * cmN m f := by rw [List.length_map]; exact hdl
      generalize hN : cmU m f * cmN m f = N at *
      repeat' (first | rw [hdpl] | walk_at "ev")
      refine commuting_count_ok C_Units m f hM hf.1 ?_
      rw [hN]
      repeat' (first | rw [hdpl] | walk_at "ev" | with_reducible refine vReprJ (by unfold sm; omega) ?_)
      skip
      repeat' (first | rw [hdpl] | walk_at "ev" | with_reducible refine vReprJ (by unfold sm; omega) ?_)
      rw [rangeD_rng]
      refine evLc_inv (fun ds Γ acc => ∃ (lo : Int) (n : Nat) (t' r' : Int) (qs : List Int), ds = intsD (rng lo n) ∧ lo + n = 6 ∧ 0 ≤ lo ∧ acc = intsD qs ∧ Γ = [some (.sh (scriptD ns)), some (penC ns t' r'), some (.sh (.leaf (.int (0 + (j : Int))))), some (.sh (.leaf (.int m))), some (.sh (pD f)), some (.sh (.node .lst (ptsD (evL m m.toNat m.toNat)))), x6, none, some (.ow .lst (ptsD (dueL m f))), none, x10, none, x12, x13, x14, x15] ∧ (∀ i ∈ qs, 0 ≤ i ∧ i < N) ∧ (qs.length : Int) = lo ∧ 0 ≤ t' ∧ t' ≤ t4 + lo ∧ 0 ≤ r') _ ⟨0, 6, t4, r4, [], rfl, rfl, by omega, rfl, rfl, (fun _ h => nomatch h), rfl, by omega, by omega, b3⟩ (fun d rest Γ acc hI => ?_) fun Γ acc hI => ?_
      · obtain ⟨lo, n', t', r', qs, e1, e2, e3, rfl, rfl, e4, e5, e6, e7, e8⟩ := hI
        cases n' with
        | zero => cases e1
        | succ n' =>
          cases e1
          have hqD : (intsD qs).length = qs.length := List.length_map _
          repeat' (first | rw [hdpl] | walk_at "ev")
          skip
          refine draw_ok ns t' r' N (by omega) e8 (by omega) fun d5 t5 r5 h1 h2 h3 h4 h5 => ?_
          repeat' (first | rw [hdpl] | walk_at "ev")
          refine ⟨by omega, lo + 1, n', t5, r5, qs ++ [d5], rfl, by omega, by omega, by rw [show intsD (qs ++ [d5]) = intsD qs ++ [.leaf (.int d5)] from List.map_append], rfl, fun i hi => ?_, by simp; omega, h3, by omega, h5⟩
          rcases List.mem_append.mp hi with z | z
          · exact e4 i z
          · rw [List.mem_singleton] at z
            omega
      · obtain ⟨lo, n', t5, r5, qs, e1, e2, e3, rfl, rfl, e4, e5, e6, e7, e8⟩ := hI
        have hlo : lo ≤ 6 := by omega
        have hqD : (intsD qs).length = qs.length := List.length_map _
        repeat' (first | rw [hdpl] | walk_at "ev")
        skip
        repeat' (first | rw [hdpl] | walk_at "ev")
        have hix : ∀ i ∈ (0 : Int) :: (N - 1) :: qs, 0 ≤ i ∧ i < N := fun i hi => by
          rcases List.mem_cons.mp hi with z | z
          · omega
          · rcases List.mem_cons.mp z with z | z
            · omega
            · exact e4 i z
        refine evFor_inv (fun ds Γ => ∃ (rest : List Int) (x10 : Option Cell), ds = intsD rest ∧ (∀ i ∈ rest, 0 ≤ i ∧ i < N) ∧ Γ = [some (.sh (scriptD ns)), some (penC ns t5 r5), some (.sh (.leaf (.int (0 + (j : Int))))), some (.sh (.leaf (.int m))), some (.sh (pD f)), some (.sh (.node .lst (ptsD (evL m m.toNat m.toNat)))), x6, none, some (.ow .lst (ptsD (dueL m f))), none, x10, none, x12, x13, x14, x15] ∧ isRf (some x10) = false) _ ⟨(0 : Int) :: (N - 1) :: qs, _, rfl, hix, rfl, f10⟩ (fun e rest Γ hI => ?_) fun Γ hI => ?_
        · obtain ⟨rest2, x10, e1', e2', rfl, f10⟩ := hI
          obtain ⟨i, rest', rfl⟩ : ∃ p ps', rest2 = p :: ps' := by
            cases rest2 with
            | nil => cases e1'
            | cons p ps' => exact ⟨p, ps', rfl⟩
          cases e1'
          have hi := e2' i (by simp)
          obtain ⟨g0, hg0, w1, w2, w3⟩ := due_at hs hM hf.1 (k := i.toNat) (by omega)
          have hat := atI_due (i := i) hi.1 hg0
          have hsg := smM_uni w1 (m := m) (by omega)
          repeat' (first | rw [hdpl] | walk_at "ev")
          refine commuting_at_ok C_OutOfRange C_Units m i f hM hs hf.1 (by rw [hN]; exact hi) fun g v1 v2 v3 => ?_
          obtain rfl : g = g0 := idC_inj hs hM.1 v1 w1 v2 w2 (by rw [v3, w3]; omega)
          repeat' (first | rw [hdpl] | walk_at "ev" | with_reducible refine vIxL hat ?_ | with_reducible refine vReprPD hsg ?_)
          refine commuting_index_ok C_Units m f g hM hs hf.1 w1 w2 ?_
          rw [v3]
          repeat' (first | rw [hdpl] | walk_at "ev" | with_reducible refine vReprJ (by unfold sm; omega) ?_)
          exact ⟨rest', _, rfl, fun i hi => e2' i (by simp [hi]), rfl, rfl⟩
        · obtain ⟨rest2, x10, e1', e2', rfl, f10⟩ := hI
          obtain rfl : rest2 = [] := by cases rest2 with
            | nil => rfl
            | cons p ps' => cases e1'
          repeat' (first | rw [hdpl] | walk_at "ev")
          skip
          refine pick_ok ns t5 r5 _ (by omega) e8 (by simp) (by simp) fun od t6 r6 c1 c2 c3 c4 => ?_
          have hod : oddV N od := by
            simp only [List.mem_cons, List.not_mem_nil, or_false] at c1
            rcases c1 with rfl | rfl | rfl | rfl | rfl | rfl | rfl | rfl | rfl
            · exact oddV_int (by omega) (rOKsm0 (by unfold sm; omega))
            · exact oddV_int (by omega) (by decide +kernel)
            · exact oddV_p ⟨_, rfl⟩ rfl rfl (by decide +kernel)
            · exact oddV_p ⟨_, rfl⟩ rfl rfl (by decide +kernel)
            · exact oddV_p ⟨_, rfl⟩ rfl rfl (by decide +kernel)
            · exact oddV_p ⟨_, rfl⟩ rfl rfl (by decide +kernel)
            · exact oddV_p ⟨_, rfl⟩ rfl rfl (by decide +kernel)
            · exact oddV_int (by omega) (by decide +kernel)
            · exact oddV_int (by omega) (rOKsm0 (by unfold sm; omega))
          obtain ⟨od1, od2, w, hw⟩ := hod
          repeat' (first | rw [hdpl] | walk_at "ev")
          refine evLamE ?_
          repeat' (first | rw [hdpl] | walk_at "ev")
          refine commuting_at_any C_OutOfRange C_Units m f hM hf.1 od1 (by rw [hN]; exact od2) ?_
          repeat' (first | rw [hdpl] | walk_at "ev")
          refine ⟨rfl, evSome_mk [none, some (.sh (.leaf .non)), some (.sh (.node (.exc C_OutOfRange ["value"]) [od]))] rfl ?_⟩
          repeat' (first | rw [hdpl] | walk_at "ev")
          unfold evTl
          repeat' (first | rw [hdpl] | walk_at "ev" | with_reducible refine vReprS hw ?_)
          have hfe : f ∈ evL m m.toNat m.toNat := evL_mem.mpr ⟨⟨hf.1.1.1, by have := hf.1.1.2; omega⟩, ⟨hf.1.2.1, by have := hf.1.2.2; omega⟩, hf.2⟩
          have hpos : 0 < (ptsD (evL m m.toNat m.toNat)).length := by rw [List.length_map]; exact List.length_pos_of_mem hfe
          refine pick_ok ns t6 r6 _ (by omega) c4 hpos (by omega) fun ev t7 r7 d1 d2 d3 d4 => ?_
          obtain ⟨gv, hgv, rfl⟩ := List.mem_map.mp d1
          repeat' (first | rw [hdpl] | walk_at "ev")
          refine law_any_value_ok ns t7 r7 (by omega) d4 fun av t8 r8 q1 q2 q3 q4 => ?_
          repeat' (first | rw [hdpl] | walk_at "ev")
          have ti : ∀ i : Int, tyD (.leaf (.int i)) := fun i => ⟨_, rfl⟩
          have tb : ∀ b : Bool, tyD (.leaf (.bl b)) := fun i => ⟨_, rfl⟩
          refine evFor_inv (fun rest Γ => ∃ (x14 x15 : Option Cell), (∀ v ∈ rest, tyD v ∧ ∀ ds, v = .node .tup ds → ∀ e ∈ ds, tyD e) ∧ Γ = [some (.sh (scriptD ns)), some (penC ns t8 r8), some (.sh (.leaf (.int (0 + (j : Int))))), some (.sh (.leaf (.int m))), some (.sh (pD f)), some (.sh (.node .lst (ptsD (evL m m.toNat m.toNat)))), x6, none, some (.ow .lst (ptsD (dueL m f))), none, x10, none, some (.sh od), some (.ow .lst [pD gv, .node .lst [.leaf (.int f.1), .leaf (.int f.2)], .node .tup [.leaf (.int f.1), .leaf (.int f.2), .leaf (.int 0)], .node .tup [.leaf (.int f.1), .leaf (.int (f.2 + m))], .node .tup [.leaf (.int 0), .leaf (.int 0)], .node .tup [.leaf (.bl true), .leaf (.int f.2)]]), x14, x15] ∧ isRf (some x14) = false ∧ isRf (some x15) = false) _ ⟨_, _, fun v hv => ?_, rfl, f14, f15⟩ (fun v rest Γ hI => ?_) fun Γ hI => ?_
          · simp only [List.mem_append, List.mem_cons, List.not_mem_nil, or_false] at hv
            have two : ∀ {a b : D}, tyD a → tyD b → tyD (.node .tup [a, b]) ∧ ∀ ds, D.node .tup [a, b] = .node .tup ds → ∀ e ∈ ds, tyD e := fun ha hb => ⟨⟨_, rfl⟩, fun ds e x hx => by
              cases e
              simp only [List.mem_cons, List.not_mem_nil, or_false] at hx
              rcases hx with rfl | rfl <;> assumption⟩
            rcases hv with (rfl | rfl | rfl | rfl | rfl | rfl) | rfl
            · exact two (ti _) (ti _)
            · exact ⟨⟨_, rfl⟩, fun ds e => by cases e⟩
            · refine ⟨⟨_, rfl⟩, fun ds e x hx => ?_⟩
              have e' : ds = [.leaf (.int f.1), .leaf (.int f.2), .leaf (.int 0)] := by cases e; rfl
              subst e'
              rcases List.mem_cons.mp hx with rfl | hx
              · exact ti _
              · rcases List.mem_cons.mp hx with rfl | hx
                · exact ti _
                · rw [List.mem_singleton.mp hx]; exact ti _
            · exact two (ti _) (ti _)
            · exact two (ti _) (ti _)
            · exact two (tb _) (ti _)
            · rcases q1 with ⟨ks, ds, rfl⟩ | h
              · exact ⟨⟨_, rfl⟩, fun ds e => by cases e⟩
              · exact ⟨h.g.ty, fun ds e x hx => by subst e; exact (h.mem x hx).g.ty⟩
          · obtain ⟨x14, x15, hv, rfl, f14, f15⟩ := hI
            obtain ⟨hv1, hv2⟩ := hv v (by simp)
            have hvr : ∀ w ∈ rest, tyD w ∧ ∀ ds, w = .node .tup ds → ∀ e ∈ ds, tyD e := fun w hw => hv w (by simp [hw])
            repeat' walk_at "ev"
            refine law_is_map2_gen m hM.1 hv1 hv2 ?_
            cases hmp : isMapD m v with
            | false =>
              repeat' walk_at "ev"
              refine commuting_index_no C_Units m f hM hv1 hv2 hmp ?_
              repeat' (first | walk_at "ev" | with_reducible refine vReprN0 ?_)
              exact ⟨_, _, hvr, rfl, rfl, rfl⟩
            | true =>
              obtain ⟨g, rfl, hg⟩ := isMapD_iff0.mp hmp
              by_cases hgd : g ∈ dueL m f
              · obtain ⟨w1, w2⟩ := (due_mem hM.1).mp hgd
                obtain ⟨jj, hj1, hj2, hj3⟩ := due_ix hs hM hf.1 w1 w2
                have hb := idC_bnd hs hM.1 w1 w2
                repeat' (first | walk_at "ev" | with_reducible refine vIn (inP_maps g (dueL m f)) ?_ | with_reducible refine vIndexM jj hj2 hj3 ?_)
                refine commuting_index_ok C_Units m f g hM hs hf.1 w1 w2 ?_
                rw [← hj1]
                repeat' (first | walk_at "ev" | with_reducible refine vReprJ (by unfold sm; omega) ?_)
                exact ⟨_, _, hvr, rfl, rfl, rfl⟩
              · have hnc : ¬ comM m f g := fun h => hgd ((due_mem hM.1).mpr ⟨hg, h⟩)
                repeat' (first | walk_at "ev" | with_reducible refine vIn (inP_maps g (dueL m f)) ?_)
                refine commuting_index_not C_Units m f g hM hf.1 hg hnc ?_
                repeat' (first | walk_at "ev" | with_reducible refine vReprN0 ?_)
                exact ⟨_, _, hvr, rfl, rfl, rfl⟩
          · obtain ⟨x14, x15, hv, rfl, f14, f15⟩ := hI
            repeat' walk_at "ev"
            exact ⟨t8, r8, _, _, _, _, _, _, _, _, _, _, _, rfl, by omega, by omega, q4, rfl, rfl, rfl, rfl, by assumption, rfl, by assumption, rfl, rfl, f14, f15⟩
  · obtain ⟨t, r, x2, x3, x4, x5, x6, x8, x10, x12, x13, x14, x15, rfl, ht, ht2, hr, f2, f3, f4, f5, f6, f8, f10, f12, f13, f14, f15⟩ := hI
    repeat' (first | rw [hdpl] | walk_at "ev")
    exact rfl

end L_affinewalk_k30_commuting_maps
open PySem PySem.W PyProof.Rows
set_option maxRecDepth 100000 in
set_option maxHeartbeats 0 in
theorem PySem.Challenge.cw_affinewalk_k30_commuting_maps_holds : PySem.Challenge.rw_affinewalk_k30_commuting_maps.Holds := by
  w_on; o_law; k_head; (case hw => w_witness2)
  k_fill
  refine DL.walk_G (l := PySem.Challenge.rw_affinewalk_k30_commuting_maps) (k := 10) (x := "script") rfl rfl ⟨rfl, by decide, by decide⟩ (fun w h Y => PySem.W.km_in_of Y) (fun w => ?L) ?F
  case F =>
    intro w mg fa h KX G hmg
    refine DL.fin_of2 (S := fun m => ∃ C_OutOfRange C_Units, m = L_affinewalk_k30_commuting_maps.m_law C_OutOfRange C_Units) (fun m0 ⟨C_OutOfRange, C_Units, e⟩ ns hn => e ▸ L_affinewalk_k30_commuting_maps.says C_OutOfRange C_Units ns hn) ?_
    refine' L_affinewalk_k30_commuting_maps.all_mk KX G hmg ?a_Units ?pg_Units ?hd_Units ?po_Units ?sa_Units ?mk_Units ?kc_Units ?n_Units_m ?n_Units_stride ?n_Units_residue ?n_Units_sieve ?xa_OutOfRange ?xl_OutOfRange ?xsa_OutOfRange ?xga_OutOfRange ?xgg_OutOfRange ?xn0_OutOfRange ?xi_OutOfRange ?xti_OutOfRange ?xkc_OutOfRange ?xex_OutOfRange ?xty_OutOfRange ?xhd_OutOfRange ?xsu_OutOfRange ?xli_OutOfRange ?xci_OutOfRange ?xka_OutOfRange ?xkn_OutOfRange ?xkt_OutOfRange ?xkm_OutOfRange ?xs_IndexError_OutOfRange ?a__law_draw ?l__law_draw ?c__law_draw ?k__law_draw ?a__law_pick ?l__law_pick ?c__law_pick ?k__law_pick ?a__law_any_value ?l__law_any_value ?c__law_any_value ?k__law_any_value ?a__law_caught ?l__law_caught ?c__law_caught ?k__law_caught ?a__law_compose ?l__law_compose ?c__law_compose ?k__law_compose ?a__law_gcd ?l__law_gcd ?c__law_gcd ?k__law_gcd ?a__law_is_integer ?l__law_is_integer ?c__law_is_integer ?k__law_is_integer ?a__law_is_map ?l__law_is_map ?c__law_is_map ?k__law_is_map ?a__law_divisors ?l__law_divisors ?c__law_divisors ?k__law_divisors ?a__law_unit ?l__law_unit ?c__law_unit ?k__law_unit ?a__law_map ?l__law_map ?c__law_map ?k__law_map ?a__law_shuffled ?l__law_shuffled ?c__law_shuffled ?k__law_shuffled ?a__law_modulus ?l__law_modulus ?c__law_modulus ?k__law_modulus ?a__law_pen ?l__law_pen ?c__law_pen ?k__law_pen ?a_Units_count_below ?i_Units_count_below ?l_Units_count_below ?c_Units_count_below ?k_Units_count_below ?a_Units_at ?i_Units_at ?l_Units_at ?c_Units_at ?k_Units_at ?a_Units_count ?i_Units_count ?l_Units_count ?c_Units_count ?k_Units_count ?a_unit_inverse ?l_unit_inverse ?c_unit_inverse ?k_unit_inverse ?a_Units_excluded ?i_Units_excluded ?l_Units_excluded ?c_Units_excluded ?k_Units_excluded ?a_prime_factors ?l_prime_factors ?c_prime_factors ?k_prime_factors ?a_Units_init ?i_Units_init ?l_Units_init ?c_Units_init ?k_Units_init ?a_gcd ?l_gcd ?c_gcd ?k_gcd ?a_commuting_units ?l_commuting_units ?c_commuting_units ?k_commuting_units ?a_commuting_count ?l_commuting_count ?c_commuting_count ?k_commuting_count ?a_is_integer ?l_is_integer ?c_is_integer ?k_is_integer ?a_is_between ?l_is_between ?c_is_between ?k_is_between ?a_solution ?l_solution ?c_solution ?k_solution ?a_commuting_at ?l_commuting_at ?c_commuting_at ?k_commuting_at ?a_Units_index_of ?i_Units_index_of ?l_Units_index_of ?c_Units_index_of ?k_Units_index_of ?a_compose ?l_compose ?c_compose ?k_compose ?a_is_map ?l_is_map ?c_is_map ?k_is_map ?a_commuting_index ?l_commuting_index ?c_commuting_index ?k_commuting_index ?a_law ?l_law ?c_law ?k_law ?lc_law ?v11_law ?z_IndexError ?z_abs ?z_all ?z_bool ?z_int ?z_isinstance ?z_len ?z_list ?z_min ?z_range ?z_repr ?z_sorted ?z_sum ?z_tuple ?a_PRIMES ?l_PRIMES
    (case a_Units => k_is); (case pg_Units => k_is); (case hd_Units => k_is); (case po_Units => k_is); (case sa_Units => k_is); (case mk_Units => k_is); (case kc_Units => k_is); (case n_Units_m => k_is); (case n_Units_stride => k_is); (case n_Units_residue => k_is); (case n_Units_sieve => k_is); (case xa_OutOfRange => k_is); (case xl_OutOfRange => k_is); (case xsa_OutOfRange => k_is); (case xga_OutOfRange => k_is); (case xgg_OutOfRange => k_is); (case xn0_OutOfRange => k_is); (case xi_OutOfRange => k_is); (case xti_OutOfRange => k_is); (case xkc_OutOfRange => k_is); (case xex_OutOfRange => k_is); (case xty_OutOfRange => k_is); (case xhd_OutOfRange => k_is); (case xsu_OutOfRange => k_is); (case xli_OutOfRange => k_is); (case xci_OutOfRange => k_is); (case xka_OutOfRange => k_is); (case xkn_OutOfRange => k_is); (case xkt_OutOfRange => k_is); (case xkm_OutOfRange => k_is); (case xs_IndexError_OutOfRange => k_is); (case a__law_draw => k_is); (case l__law_draw => k_is); (case c__law_draw => k_is); (case k__law_draw => k_is); (case a__law_pick => k_is); (case l__law_pick => k_is); (case c__law_pick => k_is); (case k__law_pick => k_is); (case a__law_any_value => k_is); (case l__law_any_value => k_is); (case c__law_any_value => k_is); (case k__law_any_value => k_is); (case a__law_caught => k_is); (case l__law_caught => k_is); (case c__law_caught => k_is); (case k__law_caught => k_is); (case a__law_compose => k_is); (case l__law_compose => k_is); (case c__law_compose => k_is); (case k__law_compose => k_is); (case a__law_gcd => k_is); (case l__law_gcd => k_is); (case c__law_gcd => k_is); (case k__law_gcd => k_is); (case a__law_is_integer => k_is); (case l__law_is_integer => k_is); (case c__law_is_integer => k_is); (case k__law_is_integer => k_is); (case a__law_is_map => k_is); (case l__law_is_map => k_is); (case c__law_is_map => k_is); (case k__law_is_map => k_is); (case a__law_divisors => k_is); (case l__law_divisors => k_is); (case c__law_divisors => k_is); (case k__law_divisors => k_is); (case a__law_unit => k_is); (case l__law_unit => k_is); (case c__law_unit => k_is); (case k__law_unit => k_is); (case a__law_map => k_is); (case l__law_map => k_is); (case c__law_map => k_is); (case k__law_map => k_is); (case a__law_shuffled => k_is); (case l__law_shuffled => k_is); (case c__law_shuffled => k_is); (case k__law_shuffled => k_is); (case a__law_modulus => k_is); (case l__law_modulus => k_is); (case c__law_modulus => k_is); (case k__law_modulus => k_is); (case a__law_pen => k_is); (case l__law_pen => k_is); (case c__law_pen => k_is); (case k__law_pen => k_is); (case a_Units_count_below => k_is); (case i_Units_count_below => k_is); (case l_Units_count_below => k_is); (case c_Units_count_below => k_is); (case k_Units_count_below => k_is); (case a_Units_at => k_is); (case i_Units_at => k_is); (case l_Units_at => k_is); (case c_Units_at => k_is); (case k_Units_at => k_is); (case a_Units_count => k_is); (case i_Units_count => k_is); (case l_Units_count => k_is); (case c_Units_count => k_is); (case k_Units_count => k_is); (case a_unit_inverse => k_is); (case l_unit_inverse => k_is); (case c_unit_inverse => k_is); (case k_unit_inverse => k_is); (case a_Units_excluded => k_is); (case i_Units_excluded => k_is); (case l_Units_excluded => k_is); (case c_Units_excluded => k_is); (case k_Units_excluded => k_is); (case a_prime_factors => k_is); (case l_prime_factors => k_is); (case c_prime_factors => k_is); (case k_prime_factors => k_is); (case a_Units_init => k_is); (case i_Units_init => k_is); (case l_Units_init => k_is); (case c_Units_init => k_is); (case k_Units_init => k_is); (case a_gcd => k_is); (case l_gcd => k_is); (case c_gcd => k_is); (case k_gcd => k_is); (case a_commuting_units => k_is); (case l_commuting_units => k_is); (case c_commuting_units => k_is); (case k_commuting_units => k_is); (case a_commuting_count => k_is); (case l_commuting_count => k_is); (case c_commuting_count => k_is); (case k_commuting_count => k_is); (case a_is_integer => k_is); (case l_is_integer => k_is); (case c_is_integer => k_is); (case k_is_integer => k_is); (case a_is_between => k_is); (case l_is_between => k_is); (case c_is_between => k_is); (case k_is_between => k_is); (case a_solution => k_is); (case l_solution => k_is); (case c_solution => k_is); (case k_solution => k_is); (case a_commuting_at => k_is); (case l_commuting_at => k_is); (case c_commuting_at => k_is); (case k_commuting_at => k_is); (case a_Units_index_of => k_is); (case i_Units_index_of => k_is); (case l_Units_index_of => k_is); (case c_Units_index_of => k_is); (case k_Units_index_of => k_is); (case a_compose => k_is); (case l_compose => k_is); (case c_compose => k_is); (case k_compose => k_is); (case a_is_map => k_is); (case l_is_map => k_is); (case c_is_map => k_is); (case k_is_map => k_is); (case a_commuting_index => k_is); (case l_commuting_index => k_is); (case c_commuting_index => k_is); (case k_commuting_index => k_is); (case a_law => k_is); (case l_law => k_is); (case c_law => k_is); (case k_law => k_is); (case lc_law => k_is); (case v11_law => rfl); (case z_IndexError => k_is); (case z_abs => k_is); (case z_all => k_is); (case z_bool => k_is); (case z_int => k_is); (case z_isinstance => k_is); (case z_len => k_is); (case z_list => k_is); (case z_min => k_is); (case z_range => k_is); (case z_repr => k_is); (case z_sorted => k_is); (case z_sum => k_is); (case z_tuple => k_is); (case a_PRIMES => k_is); (case l_PRIMES => k_is)
  case L =>
    refine' DL.tabF_mk (x := "law") (fun y hy => List.mem_singleton.mp (by unfold DL.lamNames at hy; exact hy)) ⟨_, rfl⟩ ?ta ?tl ?th ?tc ?tv ?tn
    (case ta => k_is); (case tl => k_is); (case th => rfl); (case tc => k_is); (case tv => rfl); (case tn => first | k_is | rfl | decide +kernel)
