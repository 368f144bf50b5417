import PyProof.Rows.All
import Wide.All
import OpenK.AllK
import Wide.FinOn
import HandS.ForMost
import HandS.Wide
import HandS.Exc
import HandS.ExcOwn
import HandS.Small
import HandS.TryOnly
import HandS.IsInst
import KE.DataMinMax
import HandS.SortInts
import HandS.Style
import HandS.Deep
import HandS.Defaults
import HandS.TupAny
import HandS.RaiseMore
import PySem.Challenge.RW_affinewalk_k02_values_that_are_maps
set_option Elab.async false
set_option linter.all false
set_option maxRecDepth 100000
set_option maxHeartbeats 4000000

set_option Elab.async false
set_option linter.all false
set_option maxRecDepth 100000
set_option maxHeartbeats 1000000
/-! data as trees, the heap's share of them, and who owns what -/
namespace DL
open PySem PySem.Spec PyProof.Rows L2

/-- what stands at an address, by its kind -/
inductive Tag where
  | lst | tup
  | scr
  | dk (ks : List Key)
  | dt (ks : List (List Key))
  | ins (C : Addr) (ns : List Str)
  deriving DecidableEq
/-- data: a value without a heap, or an object with its items -/
inductive D where
  | leaf (v : V)
  | node (t : Tag) (ds : List D)

abbrev D.non : D := .leaf .non
abbrev D.bl (b : Bool) : D := .leaf (.bl b)
abbrev D.int (i : Int) : D := .leaf (.int i)
abbrev D.str (x : Str) : D := .leaf (.str x)
abbrev D.lst (ds : List D) : D := .node .lst ds
abbrev D.tup (ds : List D) : D := .node .tup ds
abbrev D.dk (ks : List Key) (ds : List D) : D := .node (.dk ks) ds

section
variable (K : PySem.W.Frag)
/-- the object at a is of kind t and its items are xs -/
def Holds (H : Hp) (a : Addr) : Tag → List V → Prop
  | .lst, xs => H a = some (.lst xs)
  | .scr, xs => SqL K H a xs
  | .tup, xs => SqT K H a xs
  | .dk ks, xs => ks.length = xs.length ∧ Rd H a (.dK (ks.zip xs))
  | .dt ks, xs => ks.length = xs.length ∧ Rd H a (.dT (ks.zip xs))
  | .ins C ns, xs => ns.length = xs.length ∧ ∃ dx, H a = some (.ins C dx (ns.zip xs))
/-- .. where it may be changed -/
def Own (H : Hp) (a : Addr) : Tag → List V → Prop
  | .lst, xs => H a = some (.lst xs)
  | .tup, _ => False
  | .scr, _ => False
  | .dk ks, xs => ks.length = xs.length ∧ H a = some (.dK (ks.zip xs))
  | .dt ks, xs => ks.length = xs.length ∧ H a = some (.dT (ks.zip xs))
  | .ins C ns, xs => ns.length = xs.length ∧ ∃ dx, H a = some (.ins C dx (ns.zip xs))
mutual
/-- the value v stands for the data d, over the heap M -/
def Rep (M : Hp) : V → D → Prop
  | v, .leaf u => v = u
  | v, .node t ds => ∃ a xs, v = .ref a ∧ Holds K M a t xs ∧ Reps M xs ds
def Reps (M : Hp) : List V → List D → Prop
  | [], [] => True
  | x :: xs, d :: ds => Rep M x d ∧ Reps M xs ds
  | [], _ :: _ => False
  | _ :: _, [] => False
end
/-- the top may lie in H, its items over M -/
def RepH (M H : Hp) (v : V) : D → Prop
  | .leaf u => v = u
  | .node t ds => ∃ a xs, v = .ref a ∧ Holds K H a t xs ∧ Reps K M xs ds
end

/-- what is known of one heap stays known of another one -/
def Sub (M H : Hp) : Prop := ∀ a u, M a = some u → H a = some u
theorem Sub.refl (M : Hp) : Sub M M := fun _ _ h => h
theorem Sub.trans {A B C : Hp} (h : Sub A B) (k : Sub B C) : Sub A C := fun a u e => k a u (h a u e)
theorem Sub.nof {M H : Hp} (h : Sub M H) {a : Addr} (e : H a = none) : M a = none := by
  cases q : M a with
  | none => rfl
  | some o => rw [h a o q] at e; cases e
theorem Sub.right {M H : Hp} (h : Sub M H) {a : Addr} {o : HO} (e : M a = none) : Sub M (upd H a o) := fun b u q => by
  rw [upd_ne (ne_of_none q e)]; exact h b u q
theorem Sub.both {M H : Hp} (h : Sub M H) {a : Addr} {o : HO} : Sub (upd M a o) (upd H a o) := fun b u q => by
  by_cases e : b = a
  · subst e; rw [upd_same] at q ⊢; exact q
  · rw [upd_ne e] at q ⊢; exact h b u q
theorem Sub.laid {M : Hp} {a : Addr} {o : HO} (e : M a = none) : Sub M (upd M a o) := (Sub.refl M).right e

section
variable {K : PySem.W.Frag} {M H : Hp}
theorem Sub.rd (h : Sub M H) {a : Addr} {u : HO} (r : Rd M a u) : Rd H a u := by
  rcases r with r | ⟨o, r⟩
  · exact .inl (h _ _ r)
  · exact .inr ⟨o, h _ _ r⟩
theorem Sub.sql (h : Sub M H) {a : Addr} {xs : List V} (r : SqL K M a xs) : SqL K H a xs := by
  rcases r with r | r
  · exact .inl (h.rd r)
  · exact .inr r
theorem Sub.sqt (h : Sub M H) {a : Addr} {xs : List V} (r : SqT K M a xs) : SqT K H a xs := by
  rcases r with r | r
  · exact .inl (h.rd r)
  · exact .inr r
theorem Holds.mono (h : Sub M H) {a : Addr} {t : Tag} {xs : List V} (r : Holds K M a t xs) : Holds K H a t xs := by
  cases t with
  | lst => exact h _ _ r
  | scr => exact h.sql r
  | tup => exact h.sqt r
  | dk ks => exact ⟨r.1, h.rd r.2⟩
  | dt ks => exact ⟨r.1, h.rd r.2⟩
  | ins C ns => obtain ⟨l, dx, e⟩ := r; exact ⟨l, dx, h _ _ e⟩
mutual
theorem Rep.mono (h : Sub M H) : ∀ (d : D) (v : V), Rep K M v d → Rep K H v d
  | .leaf u, v, r => by unfold Rep at r ⊢; exact r
  | .node t ds, v, r => by
    unfold Rep at r ⊢
    obtain ⟨a, xs, e, q, rs⟩ := r
    exact ⟨a, xs, e, q.mono h, Reps.mono h ds xs rs⟩
theorem Reps.mono (h : Sub M H) : ∀ (ds : List D) (xs : List V), Reps K M xs ds → Reps K H xs ds
  | [], [], r => by unfold Reps; trivial
  | [], _ :: _, r => by unfold Reps at r; exact r.elim
  | _ :: _, [], r => by unfold Reps at r; exact r.elim
  | d :: ds, x :: xs, r => by
    unfold Reps at r ⊢
    exact ⟨Rep.mono h d x r.1, Reps.mono h ds xs r.2⟩
end
theorem Reps.nil : Reps K M [] [] := by unfold Reps; trivial
theorem Reps.cons {x : V} {d : D} {xs : List V} {ds : List D} (h : Rep K M x d) (r : Reps K M xs ds) : Reps K M (x :: xs) (d :: ds) := by unfold Reps; exact ⟨h, r⟩
theorem Reps.of_cons {x : V} {d : D} {xs : List V} {ds : List D} (r : Reps K M (x :: xs) (d :: ds)) : Rep K M x d ∧ Reps K M xs ds := by unfold Reps at r; exact r
theorem Reps.nil_of {xs : List V} (r : Reps K M xs []) : xs = [] := by
  cases xs with
  | nil => rfl
  | cons x xs => unfold Reps at r; exact r.elim
theorem Reps.cons_of {xs : List V} {d : D} {ds : List D} (r : Reps K M xs (d :: ds)) : ∃ x ys, xs = x :: ys ∧ Rep K M x d ∧ Reps K M ys ds := by
  cases xs with
  | nil => unfold Reps at r; exact r.elim
  | cons x xs => exact ⟨x, xs, rfl, r.of_cons⟩
theorem Reps.length : ∀ {xs : List V} {ds : List D}, Reps K M xs ds → xs.length = ds.length
  | [], [], _ => rfl
  | [], _ :: _, r => by unfold Reps at r; exact r.elim
  | _ :: _, [], r => by unfold Reps at r; exact r.elim
  | x :: xs, d :: ds, r => by rw [List.length_cons, List.length_cons, Reps.length r.of_cons.2]
theorem Reps.append : ∀ {xs ys : List V} {ds es : List D}, Reps K M xs ds → Reps K M ys es → Reps K M (xs ++ ys) (ds ++ es)
  | [], _, [], _, _, r => r
  | [], _, _ :: _, _, r, _ => by unfold Reps at r; exact r.elim
  | _ :: _, _, [], _, r, _ => by unfold Reps at r; exact r.elim
  | x :: xs, ys, d :: ds, es, r, q => .cons r.of_cons.1 (Reps.append r.of_cons.2 q)
theorem Reps.get : ∀ {xs : List V} {ds : List D} {i : Nat} {d : D}, Reps K M xs ds → ds[i]? = some d → ∃ x, xs[i]? = some x ∧ Rep K M x d
  | _, [], _, _, _, e => by simp at e
  | [], _ :: _, _, _, r, _ => by unfold Reps at r; exact r.elim
  | x :: xs, d :: ds, 0, e, r, h => by
    simp at h; subst h
    exact ⟨x, rfl, r.of_cons.1⟩
  | x :: xs, d :: ds, i + 1, e, r, h => by
    obtain ⟨y, h1, h2⟩ := Reps.get (i := i) r.of_cons.2 (by simpa using h)
    exact ⟨y, by simpa using h1, h2⟩
theorem Reps.getV : ∀ {xs : List V} {ds : List D} {i : Nat} {x : V}, Reps K M xs ds → xs[i]? = some x → ∃ d, ds[i]? = some d ∧ Rep K M x d
  | [], _, _, _, _, e => by simp at e
  | _ :: _, [], _, _, r, _ => by unfold Reps at r; exact r.elim
  | x :: xs, d :: ds, 0, e, r, h => by
    simp at h; subst h
    exact ⟨d, rfl, r.of_cons.1⟩
  | x :: xs, d :: ds, i + 1, e, r, h => by
    obtain ⟨y, h1, h2⟩ := Reps.getV (i := i) r.of_cons.2 (by simpa using h)
    exact ⟨y, by simpa using h1, h2⟩
theorem Reps.set : ∀ {xs : List V} {ds : List D} {x : V} {d : D} (i : Nat), Reps K M xs ds → Rep K M x d → Reps K M (xs.set i x) (ds.set i d)
  | [], [], _, _, _, r, _ => r
  | [], _ :: _, _, _, _, r, _ => by unfold Reps at r; exact r.elim
  | _ :: _, [], _, _, _, r, _ => by unfold Reps at r; exact r.elim
  | _ :: _, _ :: _, _, _, 0, r, q => .cons q r.of_cons.2
  | _ :: _, _ :: _, _, _, i + 1, r, q => .cons r.of_cons.1 (Reps.set i r.of_cons.2 q)
theorem Reps.take : ∀ {xs : List V} {ds : List D} (i : Nat), Reps K M xs ds → Reps K M (xs.take i) (ds.take i)
  | [], [], i, _ => by simp; exact .nil
  | [], _ :: _, _, r => by unfold Reps at r; exact r.elim
  | _ :: _, [], _, r => by unfold Reps at r; exact r.elim
  | _ :: _, _ :: _, 0, _ => .nil
  | _ :: _, _ :: _, i + 1, r => .cons r.of_cons.1 (Reps.take i r.of_cons.2)
theorem Reps.drop : ∀ {xs : List V} {ds : List D} (i : Nat), Reps K M xs ds → Reps K M (xs.drop i) (ds.drop i)
  | [], [], i, _ => by simp; exact .nil
  | [], _ :: _, _, r => by unfold Reps at r; exact r.elim
  | _ :: _, [], _, r => by unfold Reps at r; exact r.elim
  | _ :: _, _ :: _, 0, r => r
  | _ :: _, _ :: _, i + 1, r => Reps.drop i r.of_cons.2
theorem Reps.eraseIdx : ∀ {xs : List V} {ds : List D} (i : Nat), Reps K M xs ds → Reps K M (xs.eraseIdx i) (ds.eraseIdx i)
  | [], [], i, _ => by simp; exact .nil
  | [], _ :: _, _, r => by unfold Reps at r; exact r.elim
  | _ :: _, [], _, r => by unfold Reps at r; exact r.elim
  | _ :: _, _ :: _, 0, r => r.of_cons.2
  | _ :: _, _ :: _, i + 1, r => .cons r.of_cons.1 (Reps.eraseIdx i r.of_cons.2)
theorem Reps.dropLast {xs : List V} {ds : List D} (r : Reps K M xs ds) : Reps K M xs.dropLast ds.dropLast := by
  rw [List.dropLast_eq_take, List.dropLast_eq_take, r.length]
  exact r.take _
theorem Reps.reverse : ∀ {xs : List V} {ds : List D}, Reps K M xs ds → Reps K M xs.reverse ds.reverse
  | [], [], _ => .nil
  | [], _ :: _, r => by unfold Reps at r; exact r.elim
  | _ :: _, [], r => by unfold Reps at r; exact r.elim
  | _ :: _, _ :: _, r => by
    rw [List.reverse_cons, List.reverse_cons]
    exact (Reps.reverse r.of_cons.2).append (.cons r.of_cons.1 .nil)
theorem Reps.map_leaf {f : α → V} : ∀ (l : List α), Reps K M (l.map f) (l.map fun x => D.leaf (f x))
  | [] => .nil
  | x :: l => .cons (by unfold Rep; rfl) (Reps.map_leaf l)
theorem Reps.ints_of : ∀ {ns : List Int} {xs : List V}, Reps K M xs (ns.map D.int) → xs = ns.map V.int
  | [], xs, r => r.nil_of
  | n :: ns, xs, r => by
    obtain ⟨x, ys, rfl, h, t⟩ := Reps.cons_of (by simpa using r)
    unfold Rep at h
    rw [h, Reps.ints_of t]; rfl
theorem RepH.mono {M' H' : Hp} (h : Sub M M') (k : Sub H H') {v : V} {d : D} (r : RepH K M H v d) : RepH K M' H' v d := by
  cases d with
  | leaf u => exact r
  | node t ds => obtain ⟨a, xs, e, q, rs⟩ := r; exact ⟨a, xs, e, q.mono k, Reps.mono h ds xs rs⟩
theorem Rep.toH (h : Sub M H) {v : V} {d : D} (r : Rep K M v d) : RepH K M H v d := by
  cases d with
  | leaf u => unfold Rep at r; exact r
  | node t ds => unfold Rep at r; obtain ⟨a, xs, e, q, rs⟩ := r; exact ⟨a, xs, e, q.mono h, rs⟩
theorem RepH.full (h : Sub M H) {v : V} {d : D} (r : RepH K M H v d) : Rep K H v d := by
  cases d with
  | leaf u => unfold Rep; exact r
  | node t ds => obtain ⟨a, xs, e, q, rs⟩ := r; unfold Rep; exact ⟨a, xs, e, q, Reps.mono h ds xs rs⟩
theorem Own.holds {a : Addr} {t : Tag} {xs : List V} (h : Own H a t xs) : Holds K H a t xs := by
  cases t with
  | lst => exact h
  | scr => exact h.elim
  | tup => exact h.elim
  | dk ks => exact ⟨h.1, .inl h.2⟩
  | dt ks => exact ⟨h.1, .inl h.2⟩
  | ins C ns => exact h
theorem Own.tracked {a : Addr} {t : Tag} {xs : List V} (h : Own H a t xs) : ∃ o, H a = some o := by
  cases t with
  | lst => exact ⟨_, h⟩
  | scr => exact h.elim
  | tup => exact h.elim
  | dk ks => exact ⟨_, h.2⟩
  | dt ks => exact ⟨_, h.2⟩
  | ins C ns => obtain ⟨_, dx, e⟩ := h; exact ⟨_, e⟩
theorem Own.moved {H' : Hp} {a : Addr} {t : Tag} {xs : List V} (h : Own H a t xs) (e : H' a = H a) : Own H' a t xs := by
  cases t with
  | lst => show H' a = _; rw [e]; exact h
  | scr => exact h.elim
  | tup => exact h.elim
  | dk ks => exact ⟨h.1, by rw [e]; exact h.2⟩
  | dt ks => exact ⟨h.1, by rw [e]; exact h.2⟩
  | ins C ns => obtain ⟨l, dx, q⟩ := h; exact ⟨l, dx, by rw [e]; exact q⟩
/-- frozen: the object's own row is put into M -/
theorem Own.frozen {o : HO} {a : Addr} {t : Tag} {xs : List V} (h : Own H a t xs) (e : H a = some o) : Holds K (upd M a o) a t xs :=
  Own.holds (h.moved (H' := upd M a o) (by rw [upd_same, e]))
end
end DL

set_option Elab.async false
set_option linter.all false
set_option maxRecDepth 100000
set_option maxHeartbeats 1000000
/-! who owns what: the state of a def's body, its pending values ahead -/
namespace DL
open PySem PySem.Spec PyProof.Rows L2

/-- shared data; an object of one's own; one that the caller lends; what slot i holds -/
inductive Cell where
  | sh (d : D)
  | ow (t : Tag) (ds : List D)
  | rf (t : Tag) (ds : List D)
  | br (i : Nat)
abbrev Gam := List (Option Cell)
/-- what stands around a def's body: the callers' objects, what they share, the arguments -/
structure Frm where
  B : Hp
  M0 : Hp
  vs : List V

def own : V → Cell → Option Addr
  | .ref a, .ow _ _ => some a
  | .ref a, .rf _ _ => some a
  | _, _ => none
abbrev Ix := Nat ⊕ Nat
def ent (τ : List V) (T : List Cell) (σ : L2.St) (Γ : Gam) : Ix → Option (V × Cell)
  | .inl j => match τ[j]?, T[j]? with
    | some v, some c => some (v, c)
    | _, _ => none
  | .inr i => match σ[i]?, Γ[i]? with
    | some (some v), some (some c) => some (v, c)
    | _, _ => none

section
variable (K : PySem.W.Frag)
def OwnOk (f : Frm) (M H : Hp) (v : V) (t : Tag) (ds : List D) : Prop := ∃ a xs, v = .ref a ∧ Own H a t xs ∧ Reps K M xs ds ∧ M a = none ∧ f.B a = none
def COk (f : Frm) (M H : Hp) (σ : L2.St) (v : V) : Cell → Prop
  | .sh d => Rep K M v d
  | .ow t ds => OwnOk K f M H v t ds
  | .rf t ds => OwnOk K f M H v t ds
  | .br i => σ[i]? = some (some v)
structure Good (f : Frm) (M H : Hp) (τ : List V) (T : List Cell) (σ : L2.St) (Γ : Gam) : Prop where
  bys : Sub f.B H
  sub : Sub M H
  m0 : Sub f.M0 M
  new : ∀ a o u, M a = some o → f.B a = some u → ∃ w, f.M0 a = some w
  tl : τ.length = T.length
  sl : σ.length = Γ.length
  has : ∀ (i : Nat) (c : Cell), Γ[i]? = some (some c) → ∃ v, σ[i]? = some (some v)
  ok : ∀ k v c, ent τ T σ Γ k = some (v, c) → COk K f M H σ v c
  inj : ∀ k k' v c v' c' a, ent τ T σ Γ k = some (v, c) → ent τ T σ Γ k' = some (v', c') → own v c = some a → own v' c' = some a → k = k'
  nbr : ∀ (i j : Nat), Γ[i]? ≠ some (some (.br j))
  args : ∀ (i : Nat) (t : Tag) (ds : List D), Γ[i]? = some (some (.rf t ds)) → σ[i]? = some (f.vs[i]?)
end

theorem ent0 {v : V} {τ : List V} {c : Cell} {T : List Cell} {σ : L2.St} {Γ : Gam} : ent (v :: τ) (c :: T) σ Γ (.inl 0) = some (v, c) := rfl
theorem ent_succ {v : V} {τ : List V} {c : Cell} {T : List Cell} {σ : L2.St} {Γ : Gam} {j : Nat} : ent (v :: τ) (c :: T) σ Γ (.inl (j + 1)) = ent τ T σ Γ (.inl j) := rfl
theorem ent_inr {v : V} {τ : List V} {c : Cell} {T : List Cell} {τ' : List V} {T' : List Cell} {σ : L2.St} {Γ : Gam} {j : Nat} : ent τ T σ Γ (.inr j) = ent τ' T' σ Γ (.inr j) := rfl
theorem ent_slot {τ : List V} {T : List Cell} {σ : L2.St} {Γ : Gam} {i : Nat} {v : V} {c : Cell} : ent τ T σ Γ (.inr i) = some (v, c) ↔ σ[i]? = some (some v) ∧ Γ[i]? = some (some c) := by
  constructor
  · intro h
    unfold ent at h
    dsimp only at h
    split at h
    · rename_i h1 h2; cases h; exact ⟨h1, h2⟩
    · cases h
  · rintro ⟨h1, h2⟩
    unfold ent
    dsimp only
    rw [h1, h2]
theorem ent_temp {τ : List V} {T : List Cell} {σ : L2.St} {Γ : Gam} {j : Nat} {v : V} {c : Cell} : ent τ T σ Γ (.inl j) = some (v, c) ↔ τ[j]? = some v ∧ T[j]? = some c := by
  constructor
  · intro h
    unfold ent at h
    dsimp only at h
    split at h
    · rename_i h1 h2; cases h; exact ⟨h1, h2⟩
    · cases h
  · rintro ⟨h1, h2⟩
    unfold ent
    dsimp only
    rw [h1, h2]
theorem own_sh {v : V} {d : D} : own v (.sh d) = none := by cases v <;> rfl
theorem own_br {v : V} {i : Nat} : own v (.br i) = none := by cases v <;> rfl
theorem own_ref {v : V} {c : Cell} {a : Addr} (h : own v c = some a) : v = .ref a ∧ ((∃ t ds, c = .ow t ds) ∨ ∃ t ds, c = .rf t ds) := by
  unfold own at h
  split at h
  · cases h; exact ⟨rfl, .inl ⟨_, _, rfl⟩⟩
  · cases h; exact ⟨rfl, .inr ⟨_, _, rfl⟩⟩
  · cases h

section
variable {K : PySem.W.Frag} {f : Frm} {M H M' H' : Hp} {τ : List V} {T : List Cell} {σ : L2.St} {Γ : Gam} {v : V} {c : Cell} {a p : Addr} {t : Tag} {ds : List D} {d : D} {o : HO} {xs : List V}
theorem COk.own_ok (h : COk K f M H σ v c) (e : own v c = some a) : ∃ t ds xs, Own H a t xs ∧ Reps K M xs ds ∧ M a = none ∧ f.B a = none := by
  obtain ⟨rfl, ⟨t, ds, rfl⟩ | ⟨t, ds, rfl⟩⟩ := own_ref e
  · obtain ⟨b, xs, e1, h1, h2, h3, h4⟩ := h; cases e1; exact ⟨t, ds, xs, h1, h2, h3, h4⟩
  · obtain ⟨b, xs, e1, h1, h2, h3, h4⟩ := h; cases e1; exact ⟨t, ds, xs, h1, h2, h3, h4⟩
/-- the state moves on: M grows, H changes nowhere that the value v owns -/
theorem OwnOk.step (s : Sub M M') (h : OwnOk K f M H v t ds) (k : ∀ a, v = .ref a → H' a = H a ∧ M' a = none) : OwnOk K f M' H' v t ds := by
  obtain ⟨a, xs, e1, h1, h2, h3, h4⟩ := h
  obtain ⟨k1, k2⟩ := k a e1
  exact ⟨a, xs, e1, h1.moved k1, Reps.mono s _ _ h2, k2, h4⟩
theorem COk.step (s : Sub M M') (h : COk K f M H σ v c) (k : ∀ a, own v c = some a → H' a = H a ∧ M' a = none) : COk K f M' H' σ v c := by
  cases c with
  | sh d => exact Rep.mono s _ _ h
  | ow t ds => exact OwnOk.step s h fun a e => k a (by subst e; rfl)
  | rf t ds => exact OwnOk.step s h fun a e => k a (by subst e; rfl)
  | br i => exact h
/-- a pending value more -/
theorem Good.push (G : Good K f M H τ T σ Γ) (h : COk K f M H σ v c) (n : ∀ a, own v c = some a → ∀ k v' c', ent τ T σ Γ k = some (v', c') → own v' c' ≠ some a) : Good K f M H (v :: τ) (c :: T) σ Γ where
  bys := G.bys
  sub := G.sub
  m0 := G.m0
  new := G.new
  tl := by rw [List.length_cons, List.length_cons, G.tl]
  sl := G.sl
  has := G.has
  ok := fun k u e q => by
    match k with
    | .inl 0 => cases q; exact h
    | .inl (j + 1) => exact G.ok (.inl j) u e q
    | .inr i => exact G.ok (.inr i) u e q
  inj := fun k k' u e u' e' a q q' r r' => by
    match k, k' with
    | .inl 0, .inl 0 => rfl
    | .inl 0, .inl (j + 1) => cases q; exact (n a r (.inl j) u' e' q' r').elim
    | .inl 0, .inr i => cases q; exact (n a r (.inr i) u' e' q' r').elim
    | .inl (j + 1), .inl 0 => cases q'; exact (n a r' (.inl j) u e q r).elim
    | .inr i, .inl 0 => cases q'; exact (n a r' (.inr i) u e q r).elim
    | .inl (j + 1), .inl (j' + 1) =>
      have z := G.inj (.inl j) (.inl j') u e u' e' a q q' r r'
      cases z; rfl
    | .inl (j + 1), .inr i' =>
      have z := G.inj (.inl j) (.inr i') u e u' e' a q q' r r'
      cases z
    | .inr i, .inl (j' + 1) =>
      have z := G.inj (.inr i) (.inl j') u e u' e' a q q' r r'
      cases z
    | .inr i, .inr i' => exact G.inj (.inr i) (.inr i') u e u' e' a q q' r r'
  nbr := G.nbr
  args := G.args
theorem Good.pushSh (G : Good K f M H τ T σ Γ) (h : Rep K M v d) : Good K f M H (v :: τ) (.sh d :: T) σ Γ :=
  G.push h fun a e => by rw [own_sh] at e; cases e
theorem Good.pushBr {i : Nat} (G : Good K f M H τ T σ Γ) (h : σ[i]? = some (some v)) : Good K f M H (v :: τ) (.br i :: T) σ Γ :=
  G.push h fun a e => by rw [own_br] at e; cases e
theorem Good.pop (G : Good K f M H (v :: τ) (c :: T) σ Γ) : Good K f M H τ T σ Γ where
  bys := G.bys
  sub := G.sub
  m0 := G.m0
  new := G.new
  tl := by have := G.tl; simp only [List.length_cons] at this; omega
  sl := G.sl
  has := G.has
  ok := fun k u e q => match k with
    | .inl j => G.ok (.inl (j + 1)) u e q
    | .inr i => G.ok (.inr i) u e q
  inj := fun k k' u e u' e' a q q' r r' => by
    match k, k' with
    | .inl j, .inl j' =>
      have z := G.inj (.inl (j + 1)) (.inl (j' + 1)) u e u' e' a q q' r r'
      cases z; rfl
    | .inl j, .inr i' =>
      have z := G.inj (.inl (j + 1)) (.inr i') u e u' e' a q q' r r'
      cases z
    | .inr i, .inl j' =>
      have z := G.inj (.inr i) (.inl (j' + 1)) u e u' e' a q q' r r'
      cases z
    | .inr i, .inr i' => exact G.inj (.inr i) (.inr i') u e u' e' a q q' r r'
  nbr := G.nbr
  args := G.args
/-- below the first pending value -/
theorem Good.pop1 {u : V} {e : Cell} (G : Good K f M H (u :: v :: τ) (e :: c :: T) σ Γ) : Good K f M H (u :: τ) (e :: T) σ Γ := by
  refine G.pop.pop.push (G.ok (.inl 0) u e rfl) fun a r k v' c' q r' => ?_
  match k with
  | .inl j => have z := G.inj (.inl 0) (.inl (j + 2)) u e v' c' a rfl q r r'; cases z
  | .inr i => have z := G.inj (.inl 0) (.inr i) u e v' c' a rfl q r r'; cases z
theorem Good.notB (G : Good K f M H τ T σ Γ) (h : H p = none) : f.B p = none := G.bys.nof h
theorem Good.notM (G : Good K f M H τ T σ Γ) (h : H p = none) : M p = none := G.sub.nof h
/-- the abstract heap changes at one address that nobody owns and nobody shares -/
theorem Good.lay (G : Good K f M H τ T σ Γ) (hm : M p = none) (hb : f.B p = none) (ho : ∀ k v c, ent τ T σ Γ k = some (v, c) → own v c ≠ some p) (o : HO) : Good K f M (upd H p o) τ T σ Γ where
  bys := G.bys.right hb
  sub := G.sub.right hm
  m0 := G.m0
  new := G.new
  tl := G.tl
  sl := G.sl
  has := G.has
  ok := fun k v c q => (G.ok k v c q).step (Sub.refl M) fun a e => by
    have hne : a ≠ p := fun z => ho k v c q (z ▸ e)
    obtain ⟨t, ds, xs, h1, h2, h3, h4⟩ := (G.ok k v c q).own_ok e
    exact ⟨upd_ne hne, h3⟩
  inj := G.inj
  nbr := G.nbr
  args := G.args
theorem Good.ownedSome (G : Good K f M H τ T σ Γ) {k : Ix} (q : ent τ T σ Γ k = some (v, c)) (e : own v c = some a) : ∃ o, H a = some o := by
  obtain ⟨t, ds, xs, h1, _⟩ := (G.ok k v c q).own_ok e
  exact h1.tracked
/-- a new object that one owns -/
theorem Good.alloc (G : Good K f M H τ T σ Γ) (h : H p = none) (ho : Own (upd H p o) p t xs) (r : Reps K M xs ds) : Good K f M (upd H p o) (.ref p :: τ) (.ow t ds :: T) σ Γ := by
  have fresh : ∀ k v c, ent τ T σ Γ k = some (v, c) → own v c ≠ some p := fun k v c q e => by
    obtain ⟨o, z⟩ := G.ownedSome q e
    rw [h] at z; cases z
  refine (G.lay (G.notM h) (G.notB h) fresh o).push ⟨p, xs, rfl, ho, r, G.notM h, G.notB h⟩ fun a e k v' c' q => ?_
  have e' : p = a := Option.some.inj e
  subst e'
  exact fresh k v' c' q
/-- M takes over an address that nobody else owns -/
theorem Good.take1 (G : Good K f M H τ T σ Γ) (hm : M a = none) (hb : f.B a = none) (ho : ∀ k v c, ent τ T σ Γ k = some (v, c) → own v c ≠ some a) (e : H a = some o) : Good K f (upd M a o) H τ T σ Γ where
  bys := G.bys
  sub := fun b u q => by
    by_cases z : b = a
    · subst z; rw [upd_same] at q; rw [e]; exact q
    · rw [upd_ne z] at q; exact G.sub b u q
  m0 := fun b u q => by
    have z : b ≠ a := fun z => by have := G.m0 b u q; rw [z, hm] at this; cases this
    rw [upd_ne z]; exact G.m0 b u q
  new := fun b u w q r => by
    by_cases z : b = a
    · subst z; rw [hb] at r; cases r
    · rw [upd_ne z] at q; exact G.new b u w q r
  tl := G.tl
  sl := G.sl
  has := G.has
  ok := fun k v c q => (G.ok k v c q).step (Sub.laid hm) fun b r => by
    have hne : b ≠ a := fun z => ho k v c q (z ▸ r)
    obtain ⟨t, ds, xs, h1, h2, h3, h4⟩ := (G.ok k v c q).own_ok r
    exact ⟨rfl, by rw [upd_ne hne]; exact h3⟩
  inj := G.inj
  nbr := G.nbr
  args := G.args
/-- the first pending value is shared from here on -/
theorem Good.freeze0 (G : Good K f M H (v :: τ) (.ow t ds :: T) σ Γ) : ∃ M', Good K f M' H (v :: τ) (.sh (.node t ds) :: T) σ Γ := by
  obtain ⟨a, xs, rfl, h1, h2, h3, h4⟩ := G.ok (.inl 0) v _ rfl
  obtain ⟨o, e⟩ := h1.tracked
  have G1 := G.pop.take1 h3 h4 (fun k v c q r => by
    match k with
    | .inl j => have z := G.inj (.inl 0) (.inl (j + 1)) _ _ v c a rfl q rfl r; cases z
    | .inr i => have z := G.inj (.inl 0) (.inr i) _ _ v c a rfl q rfl r; cases z) e
  refine ⟨upd M a o, G1.pushSh ?_⟩
  unfold Rep
  exact ⟨a, xs, rfl, h1.frozen e, Reps.mono (Sub.laid h3) _ _ h2⟩
theorem Good.allocF (G : Good K f M H τ T σ Γ) (h : H p = none) (r : Reps K M xs ds) : ∃ M', Good K f M' (upd H p (.tup xs)) (.ref p :: τ) (.sh (.node .tup ds) :: T) σ Γ := by
  have fresh : ∀ k v c, ent τ T σ Γ k = some (v, c) → own v c ≠ some p := fun k v c q e => by
    obtain ⟨o, z⟩ := G.ownedSome q e
    rw [h] at z; cases z
  have G1 := (G.lay (G.notM h) (G.notB h) fresh (.tup xs)).take1 (G.notM h) (G.notB h) fresh (o := .tup xs) upd_same
  refine ⟨upd M p (.tup xs), G1.pushSh ?_⟩
  unfold Rep
  exact ⟨p, xs, rfl, .of (by rw [upd_same]), Reps.mono (Sub.laid (G.notM h)) _ _ r⟩

/-! ### slots -/
theorem ent_setG {i : Nat} {x : Option Cell} {k : Ix} (h : k ≠ .inr i) : ent τ T σ (Γ.set i x) k = ent τ T σ Γ k := by
  match k with
  | .inl j => rfl
  | .inr j =>
    have hij : i ≠ j := fun z => h (by rw [z])
    unfold ent
    dsimp only
    rw [List.getElem?_set_ne hij]
theorem ent_setG_self {i : Nat} {x : Cell} (hs : σ[i]? = some (some v)) (hl : i < Γ.length) : ent τ T σ (Γ.set i (some x)) (.inr i) = some (v, x) := by
  rw [ent_slot]
  exact ⟨hs, by rw [List.getElem?_set_self hl]⟩
theorem lt_of_get {α : Type} {l : List α} {i : Nat} {x : α} (h : l[i]? = some x) : i < l.length := (List.getElem?_eq_some_iff.mp h).1
/-- the cell of a slot is told anew -/
theorem Good.retell {i : Nat} {c' : Cell} (G : Good K f M H τ T σ Γ) (hs : σ[i]? = some (some v)) (hc : Γ[i]? = some (some c)) (h : COk K f M H σ v c') (n : own v c' = none ∨ own v c' = own v c) (nb : ∀ j, c' ≠ .br j) (nr : ∀ t ds, c' = .rf t ds → ∃ t' ds', c = .rf t' ds') : Good K f M H τ T σ (Γ.set i (some c')) := by
  have hl := lt_of_get hc
  have hi : ent τ T σ Γ (.inr i) = some (v, c) := ent_slot.mpr ⟨hs, hc⟩
  have cs : ∀ k u e, ent τ T σ (Γ.set i (some c')) k = some (u, e) → (k = .inr i ∧ u = v ∧ e = c') ∨ (k ≠ .inr i ∧ ent τ T σ Γ k = some (u, e)) := fun k u e q => by
    by_cases hk : k = .inr i
    · subst hk
      rw [ent_setG_self hs hl] at q; cases q
      exact .inl ⟨rfl, rfl, rfl⟩
    · rw [ent_setG hk] at q
      exact .inr ⟨hk, q⟩
  refine ⟨G.bys, G.sub, G.m0, G.new, G.tl, by rw [List.length_set]; exact G.sl, fun j e q => ?_, fun k u e q => ?_, fun k k' u e u' e' a q q' r r' => ?_, fun j k q => ?_, fun j t ds q => ?_⟩
  · by_cases hj : i = j
    · subst hj; exact ⟨v, hs⟩
    · rw [List.getElem?_set_ne hj] at q; exact G.has j e q
  · rcases cs k u e q with ⟨rfl, rfl, rfl⟩ | ⟨_, q⟩
    · exact h
    · exact G.ok k u e q
  · have old : ∀ a, own v c' = some a → own v c = some a := fun a r => by
      rcases n with n | n
      · rw [n] at r; cases r
      · rw [n] at r; exact r
    rcases cs k u e q with ⟨k1, u1, e1⟩ | ⟨_, q2⟩
    · rcases cs k' u' e' q' with ⟨k1', u1', e1'⟩ | ⟨_, q2'⟩
      · rw [k1, k1']
      · rw [u1, e1] at r
        rw [k1]
        exact G.inj _ _ _ _ _ _ a hi q2' (old a r) r'
    · rcases cs k' u' e' q' with ⟨k1', u1', e1'⟩ | ⟨_, q2'⟩
      · rw [u1', e1'] at r'
        rw [k1']
        exact G.inj _ _ _ _ _ _ a q2 hi r (old a r')
      · exact G.inj _ _ _ _ _ _ a q2 q2' r r'
  · by_cases hj : i = j
    · subst hj
      rw [List.getElem?_set_self hl] at q
      exact nb k (Option.some.inj (Option.some.inj q))
    · rw [List.getElem?_set_ne hj] at q; exact G.nbr j k q
  · by_cases hj : i = j
    · subst hj
      rw [List.getElem?_set_self hl] at q
      obtain ⟨t', ds', rfl⟩ := nr t ds (Option.some.inj (Option.some.inj q))
      exact G.args i t' ds' hc
    · rw [List.getElem?_set_ne hj] at q; exact G.args j t ds q
/-- an owned object of a slot is shared from here on -/
theorem Good.freezeS {i : Nat} (G : Good K f M H τ T σ Γ) (hc : Γ[i]? = some (some (.ow t ds))) : ∃ M', Good K f M' H τ T σ (Γ.set i (some (.sh (.node t ds)))) := by
  obtain ⟨v, hs⟩ := G.has i _ hc
  have hi : ent τ T σ Γ (.inr i) = some (v, .ow t ds) := ent_slot.mpr ⟨hs, hc⟩
  obtain ⟨a, xs, rfl, h1, h2, h3, h4⟩ := G.ok (.inr i) v _ hi
  obtain ⟨o, e⟩ := h1.tracked
  -- first forget the slot, then M takes the address over, then the slot is told anew
  have hl := lt_of_get hc
  have cs : ∀ k u e, ent τ T σ (Γ.set i none) k = some (u, e) → k ≠ .inr i ∧ ent τ T σ Γ k = some (u, e) := fun k u e q => by
    by_cases hk : k = .inr i
    · subst hk
      have q2 := (ent_slot.mp q).2
      rw [List.getElem?_set_self hl] at q2
      cases q2
    · rw [ent_setG hk] at q
      exact ⟨hk, q⟩
  have G0 : Good K f M H τ T σ (Γ.set i none) := by
    refine ⟨G.bys, G.sub, G.m0, G.new, G.tl, by rw [List.length_set]; exact G.sl, fun j e q => ?_, fun k u e q => G.ok k u e (cs k u e q).2, fun k k' u e u' e' a q q' r r' => G.inj _ _ _ _ _ _ a (cs _ _ _ q).2 (cs _ _ _ q').2 r r', fun j k q => ?_, fun j t ds q => ?_⟩
    · by_cases hj : i = j
      · subst hj; rw [List.getElem?_set_self hl] at q; cases q
      · rw [List.getElem?_set_ne hj] at q; exact G.has j e q
    · by_cases hj : i = j
      · subst hj; rw [List.getElem?_set_self hl] at q; cases q
      · rw [List.getElem?_set_ne hj] at q; exact G.nbr j k q
    · by_cases hj : i = j
      · subst hj; rw [List.getElem?_set_self hl] at q; cases q
      · rw [List.getElem?_set_ne hj] at q; exact G.args j t ds q
  have G1 := G0.take1 h3 h4 (fun k v c q r => by
    obtain ⟨hk, q⟩ := cs k v c q
    exact hk (G.inj _ _ _ _ _ _ a q hi r rfl)) e
  have hrep : Rep K (upd M a o) (.ref a) (.node t ds) := by
    unfold Rep
    exact ⟨a, xs, rfl, h1.frozen e, Reps.mono (Sub.laid h3) _ _ h2⟩
  have cs2 : ∀ k u e, ent τ T σ (Γ.set i (some (.sh (.node t ds)))) k = some (u, e) → (k = .inr i ∧ u = .ref a ∧ e = .sh (.node t ds)) ∨ ent τ T σ (Γ.set i none) k = some (u, e) := fun k u e q => by
    by_cases hk : k = .inr i
    · subst hk
      rw [ent_setG_self hs hl] at q; cases q
      exact .inl ⟨rfl, rfl, rfl⟩
    · rw [ent_setG hk] at q
      rw [ent_setG hk]
      exact .inr q
  refine ⟨upd M a o, ⟨G1.bys, G1.sub, G1.m0, G1.new, G1.tl, by rw [List.length_set]; exact G.sl, fun j e q => ?_, fun k u e q => ?_, fun k k' u e u' e' a q q' r r' => ?_, fun j k q => ?_, fun j t ds q => ?_⟩⟩
  · by_cases hj : i = j
    · subst hj; exact ⟨_, hs⟩
    · rw [List.getElem?_set_ne hj] at q; exact G.has j e q
  · rcases cs2 k u e q with ⟨rfl, rfl, rfl⟩ | q
    · exact hrep
    · exact G1.ok k u e q
  · rcases cs2 k u e q with ⟨rfl, rfl, rfl⟩ | q
    · rw [own_sh] at r; cases r
    · rcases cs2 k' u' e' q' with ⟨rfl, rfl, rfl⟩ | q'
      · rw [own_sh] at r'; cases r'
      · exact G1.inj _ _ _ _ _ _ a q q' r r'
  · by_cases hj : i = j
    · subst hj; rw [List.getElem?_set_self hl] at q; cases q
    · rw [List.getElem?_set_ne hj] at q; exact G.nbr j k q
  · by_cases hj : i = j
    · subst hj; rw [List.getElem?_set_self hl] at q; cases q
    · rw [List.getElem?_set_ne hj] at q; exact G.args j t ds q

/-! ### data of cells -/
/-- the data of a pending cell -/
def look (Γ : Gam) : Cell → Option D
  | .sh d => some d
  | .ow t ds => some (.node t ds)
  | .rf t ds => some (.node t ds)
  | .br i => match Γ[i]? with
    | some (some (.sh d)) => some d
    | some (some (.ow t ds)) => some (.node t ds)
    | some (some (.rf t ds)) => some (.node t ds)
    | _ => none
/-- .. to be kept somewhere: shared from here on -/
def keep (Γ : Gam) : Cell → Option (D × Gam)
  | .sh d => some (d, Γ)
  | .ow t ds => some (.node t ds, Γ)
  | .rf _ _ => none
  | .br i => match Γ[i]? with
    | some (some (.sh d)) => some (d, Γ)
    | some (some (.ow t ds)) => some (.node t ds, Γ.set i (some (.sh (.node t ds))))
    | _ => none
theorem OwnOk.repH (h : OwnOk K f M H v t ds) : RepH K M H v (.node t ds) := by
  obtain ⟨a, xs, rfl, h1, h2, _⟩ := h
  exact ⟨a, xs, rfl, h1.holds, h2⟩
theorem Good.look (G : Good K f M H τ T σ Γ) {k : Ix} (q : ent τ T σ Γ k = some (v, c)) (e : look Γ c = some d) : RepH K M H v d := by
  have h := G.ok k v c q
  cases c with
  | sh d' => cases e; exact Rep.toH G.sub h
  | ow t ds => cases e; exact OwnOk.repH h
  | rf t ds => cases e; exact OwnOk.repH h
  | br i =>
    have hs : σ[i]? = some (some v) := h
    unfold DL.look at e
    dsimp only at e
    split at e
    · rename_i d' hc
      cases e
      exact Rep.toH G.sub (G.ok (.inr i) v _ (ent_slot.mpr ⟨hs, hc⟩))
    · rename_i t ds hc
      cases e
      exact OwnOk.repH (G.ok (.inr i) v _ (ent_slot.mpr ⟨hs, hc⟩))
    · rename_i t ds hc
      cases e
      exact OwnOk.repH (G.ok (.inr i) v _ (ent_slot.mpr ⟨hs, hc⟩))
    · cases e
theorem Good.keep {Γ' : Gam} (G : Good K f M H (v :: τ) (c :: T) σ Γ) (e : keep Γ c = some (d, Γ')) : ∃ M', Good K f M' H (v :: τ) (.sh d :: T) σ Γ' := by
  cases c with
  | sh d' => cases e; exact ⟨M, G⟩
  | ow t ds => cases e; exact G.freeze0
  | rf t ds => cases e
  | br i =>
    have hs : σ[i]? = some (some v) := G.ok (.inl 0) v _ rfl
    unfold DL.keep at e
    dsimp only at e
    split at e
    · rename_i d' hc
      cases e
      exact ⟨M, G.pop.pushSh (G.ok (.inr i) v _ (ent_slot.mpr ⟨hs, hc⟩))⟩
    · rename_i t ds hc
      cases e
      obtain ⟨M', G'⟩ := G.freezeS hc
      have hc2 : (Γ.set i (some (.sh (.node t ds))))[i]? = some (some (.sh (.node t ds))) := by rw [List.getElem?_set_self (lt_of_get hc)]
      exact ⟨M', G'.pop.pushSh (G'.ok (.inr i) v _ (ent_slot.mpr ⟨hs, hc2⟩))⟩
    · cases e
end
end DL

set_option Elab.async false
set_option linter.all false
set_option maxRecDepth 100000
set_option maxHeartbeats 1000000
/-! readings by mirror functions -/
namespace DL
open PySem PySem.Spec PyProof.Rows L2

/-- an exception of an own class: its fields -/
structure Exc where
  cls : Addr
  ns : List Str
  ds : List D
inductive Res where
  | val (c : Cell)
  | exc (x : Exc)
/-- an expression's mirror -/
abbrev EF := Gam → Option (Res × Gam)
inductive ResB where
  | val (b : Bool)
  | exc (x : Exc)
abbrev TF := Gam → Option (ResB × Gam)
inductive ResL where
  | val (cs : List Cell)
  | exc (x : Exc)
abbrev AF := Gam → Option (ResL × Gam)

section
variable (K : PySem.W.Frag)
def XOk (M : Hp) (d : Addr) (x : Exc) : Prop := ∃ xs, x.ns.length = xs.length ∧ M d = some (.xd (x.ns.zip xs)) ∧ Reps K M xs x.ds
def PostX (W : WX) (f : Frm) (τ : List V) (T : List Cell) (σ : L2.St) (x : Exc) (Γ' : Gam) : Prop :=
  ∀ d H' M', Good K f M' H' τ T σ Γ' → XOk K M' d x → W (.ref x.cls) (some d) σ H'
def PostE (W : WX) (f : Frm) (τ : List V) (T : List Cell) (σ : L2.St) (Q : VK) (r : Res) (Γ' : Gam) : Prop :=
  match r with
  | .val c => ∀ v H' M', Good K f M' H' (v :: τ) (c :: T) σ Γ' → Q v H'
  | .exc x => PostX K W f τ T σ x Γ'
def tE (W : WX) (F : EF) : TE := fun σ H Q => ∃ f M τ T Γ r Γ', Good K f M H τ T σ Γ ∧ F Γ = some (r, Γ') ∧ PostE K W f τ T σ Q r Γ'
def PostB (W : WX) (f : Frm) (τ : List V) (T : List Cell) (σ : L2.St) (Q : Bool → Hp → Prop) (r : ResB) (Γ' : Gam) : Prop :=
  match r with
  | .val b => ∀ H' M', Good K f M' H' τ T σ Γ' → Q b H'
  | .exc x => PostX K W f τ T σ x Γ'
def tB (W : WX) (F : TF) : TT := fun σ H Q => ∃ f M τ T Γ r Γ', Good K f M H τ T σ Γ ∧ F Γ = some (r, Γ') ∧ PostB K W f τ T σ Q r Γ'
def PostL (W : WX) (f : Frm) (τ : List V) (T : List Cell) (σ : L2.St) (Q : List V → Hp → Prop) (r : ResL) (Γ' : Gam) : Prop :=
  match r with
  | .val cs => ∀ vs H' M', vs.length = cs.length → Good K f M' H' (vs.reverse ++ τ) (cs.reverse ++ T) σ Γ' → Q vs H'
  | .exc x => PostX K W f τ T σ x Γ'
def tL (W : WX) (F : AF) : TA := fun σ H Q => ∃ f M τ T Γ r Γ', Good K f M H τ T σ Γ ∧ F Γ = some (r, Γ') ∧ PostL K W f τ T σ Q r Γ'
end

abbrev DE (X : Cx) (W : WX) (e : Expr) (F : EF) : Prop := PE X e (tE X.K W F)
abbrev DT (X : Cx) (W : WX) (e : Expr) (F : TF) : Prop := PT X e (tB X.K W F)
abbrev DA (X : Cx) (W : WX) (es : List Expr) (F : AF) : Prop := PA X es (tL X.K W F)

theorem PEimp {X : Cx} {e : Expr} {t t' : TE} (h : PE X e t) (k : ∀ σ H Q, t' σ H Q → t σ H Q) : PE X e t' := ⟨fun pins s σ H Q I q => h.run pins s σ H Q I (k σ H Q q)⟩
theorem PTimp {X : Cx} {e : Expr} {t t' : TT} (h : PT X e t) (k : ∀ σ H Q, t' σ H Q → t σ H Q) : PT X e t' := ⟨fun pins s σ H Q I q => h.run pins s σ H Q I (k σ H Q q)⟩
theorem PWimp {X : Cx} {e : Expr} {t t' : TT} (h : PW X e t) (k : ∀ σ H Q, t' σ H Q → t σ H Q) : PW X e t' := ⟨fun w pins s σ H Q I q => h.run w pins s σ H Q I (k σ H Q q)⟩
theorem PAimp {X : Cx} {es : List Expr} {t t' : TA} (h : PA X es t) (k : ∀ σ H Q, t' σ H Q → t σ H Q) : PA X es t' := ⟨fun pos pins s σ H Q I q => h.run pos pins s σ H Q I (k σ H Q q)⟩
theorem PEor {X : Cx} {e : Expr} {t t' : TE} (h : PE X e t) (h' : PE X e t') : PE X e (fun σ H Q => t σ H Q ∨ t' σ H Q) := ⟨fun pins s σ H Q I q => q.elim (h.run pins s σ H Q I) (h'.run pins s σ H Q I)⟩

/-! ### one part after another -/
def bindE (A : EF) (k : Cell → EF) : EF := fun Γ => match A Γ with
  | some (.val c, Γ1) => k c Γ1
  | some (.exc x, Γ1) => some (.exc x, Γ1)
  | none => none
def bindB (A : EF) (k : Cell → TF) : TF := fun Γ => match A Γ with
  | some (.val c, Γ1) => k c Γ1
  | some (.exc x, Γ1) => some (.exc x, Γ1)
  | none => none
def bindL (A : AF) (k : List Cell → EF) : EF := fun Γ => match A Γ with
  | some (.val cs, Γ1) => k cs Γ1
  | some (.exc x, Γ1) => some (.exc x, Γ1)
  | none => none
section
variable {K : PySem.W.Frag} {W : WX} {f : Frm} {M H : Hp} {τ : List V} {T : List Cell} {σ : L2.St} {Γ Γ' : Gam} {Q : VK}
/-- the first part runs, the rest is what it is asked for -/
theorem run1 {A : EF} {k : Cell → EF} {r : Res} {R : VK} (G : Good K f M H τ T σ Γ) (e : bindE A k Γ = some (r, Γ')) (p : PostE K W f τ T σ Q r Γ')
    (h : ∀ c Γ1 v H1 M1, Good K f M1 H1 (v :: τ) (c :: T) σ Γ1 → k c Γ1 = some (r, Γ') → R v H1) : tE K W A σ H R := by
  unfold bindE at e
  cases hA : A Γ with
  | none => rw [hA] at e; cases e
  | some q =>
    obtain ⟨ra, Γ1⟩ := q
    rw [hA] at e
    cases ra with
    | val c => exact ⟨f, M, τ, T, Γ, .val c, Γ1, G, hA, fun v H1 M1 G1 => h c Γ1 v H1 M1 G1 e⟩
    | exc x =>
      cases e
      exact ⟨f, M, τ, T, Γ, .exc x, Γ', G, hA, p⟩
theorem PostX.pop {f : Frm} {v : V} {c : Cell} {x : Exc} (p : PostX K W f τ T σ x Γ') : PostX K W f (v :: τ) (c :: T) σ x Γ' := fun d H' M' G' h => p d H' M' G'.pop h
/-- the second part, the first one's value pending -/
theorem run2 {A : EF} {k : Cell → EF} {r : Res} {R : VK} {v : V} {c : Cell} (G : Good K f M H (v :: τ) (c :: T) σ Γ) (e : bindE A k Γ = some (r, Γ')) (p : PostE K W f τ T σ Q r Γ')
    (h : ∀ c' Γ1 v' H1 M1, Good K f M1 H1 (v' :: v :: τ) (c' :: c :: T) σ Γ1 → k c' Γ1 = some (r, Γ') → R v' H1) : tE K W A σ H R := by
  unfold bindE at e
  cases hA : A Γ with
  | none => rw [hA] at e; cases e
  | some q =>
    obtain ⟨ra, Γ1⟩ := q
    rw [hA] at e
    cases ra with
    | val c' => exact ⟨f, M, _, _, Γ, .val c', Γ1, G, hA, fun v' H1 M1 G1 => h c' Γ1 v' H1 M1 G1 e⟩
    | exc x =>
      cases e
      exact ⟨f, M, _, _, Γ, .exc x, Γ', G, hA, PostX.pop p⟩
theorem run3 {A : EF} {k : Cell → EF} {r : Res} {R : VK} {v v2 : V} {c c2 : Cell} (G : Good K f M H (v2 :: v :: τ) (c2 :: c :: T) σ Γ) (e : bindE A k Γ = some (r, Γ')) (p : PostE K W f τ T σ Q r Γ')
    (h : ∀ c' Γ1 v' H1 M1, Good K f M1 H1 (v' :: v2 :: v :: τ) (c' :: c2 :: c :: T) σ Γ1 → k c' Γ1 = some (r, Γ') → R v' H1) : tE K W A σ H R := by
  unfold bindE at e
  cases hA : A Γ with
  | none => rw [hA] at e; cases e
  | some q =>
    obtain ⟨ra, Γ1⟩ := q
    rw [hA] at e
    cases ra with
    | val c' => exact ⟨f, M, _, _, Γ, .val c', Γ1, G, hA, fun v' H1 M1 G1 => h c' Γ1 v' H1 M1 G1 e⟩
    | exc x =>
      cases e
      exact ⟨f, M, _, _, Γ, .exc x, Γ', G, hA, PostX.pop (PostX.pop p)⟩
end

/-! ### names and constants -/
section
variable {X : Cx} {W : WX} {pos : Pos} {e a b : Expr} {A B C : EF}
def eVar (i : Nat) : EF := fun Γ => match Γ[i]? with
  | some (some _) => some (.val (.br i), Γ)
  | _ => none
theorem de_var (i : Nat) {x : Str} (hN : X.N[i]? = some x := by rfl) (hv : Vis X.env.scope x := by first | exact Or.inl rfl | exact Or.inr (Or.inl rfl) | exact Or.inr (Or.inr rfl)) (hd : (x == ("__debug__" : Str)) = false := by decide)
    (hcd : (x == ("__classdict__" : Str)) = false := by decide) : DE X W (.Name x pos) (eVar i) := by
  refine PEimp (pe_var hN hv hd hcd) fun σ H Q h => ?_
  obtain ⟨f, M, τ, T, Γ, r, Γ', G, hF, p⟩ := h
  unfold eVar at hF
  split at hF
  · rename_i c hc
    cases hF
    obtain ⟨v, hs⟩ := G.has i c hc
    exact ⟨v, hs, p v H M (G.pushBr hs)⟩
  · cases hF
/-- a value that is no object -/
def eC (v : V) : EF := fun Γ => some (.val (.sh (.leaf v)), Γ)
theorem de_const {v : V} (h : PE X e (tC v)) : DE X W e (eC v) := by
  refine PEimp h fun σ H Q h => ?_
  obtain ⟨f, M, τ, T, Γ, r, Γ', G, hF, p⟩ := h
  cases hF
  exact p v H M (G.pushSh (by unfold Rep; rfl))
/-- a name of the module that holds data of the written part -/
def eD (d : D) : EF := fun Γ => some (.val (.sh d), Γ)
theorem de_glob {x : Str} {v : V} {d : D} (h : PE X (.Name x pos) (tC v)) (r : Rep X.K (fun _ => none) v d) : DE X W (.Name x pos) (eD d) := by
  refine PEimp h fun σ H Q h => ?_
  obtain ⟨f, M, τ, T, Γ, r', Γ', G, hF, p⟩ := h
  cases hF
  exact p v H M (G.pushSh (Rep.mono (fun _ _ q => by cases q) _ _ r))

/-- kept from here on -/
def eKeep (A : EF) : EF := bindE A fun c Γ => match keep Γ c with
  | some (d, Γ') => some (.val (.sh d), Γ')
  | none => none
theorem de_keep (h : DE X W e A) : DE X W e (eKeep A) := by
  refine PEimp h fun σ H Q h => ?_
  obtain ⟨f, M, τ, T, Γ, r, Γ', G, hF, p⟩ := h
  refine run1 G hF p fun c Γ1 v H1 M1 G1 e => ?_
  split at e
  · rename_i d Γ2 hk
    cases e
    obtain ⟨M2, G2⟩ := G1.keep hk
    exact p v H1 M2 G2
  · cases e

/-! ### operators by values -/
/-- what an operation gives: a value there already, or a new object -/
inductive Out where
  | old (d : D)
  | new (t : Tag) (ds : List D)
def Out.cell : Out → Cell
  | .old d => .sh d
  | .new .tup ds => .sh (.node .tup ds)
  | .new t ds => .ow t ds
/-- the object of a kind, with its items -/
def mkO : Tag → List V → HO
  | .lst, xs => .lst xs
  | .tup, xs => .tup xs
  | .scr, xs => .lst xs
  | .dk ks, xs => .dK (ks.zip xs)
  | .dt ks, xs => .dT (ks.zip xs)
  | .ins C ns, xs => .ins C 0 (ns.zip xs)
def newable : Tag → List D → Prop
  | .dk ks, ds => ks.length = ds.length
  | .dt ks, ds => ks.length = ds.length
  | .ins _ _, _ => False
  | .scr, _ => False
  | _, _ => True
def OutOk (K : PySem.W.Frag) (M H : Hp) (o : Out) (Q : VK) : Prop := match o with
  | .old d => ∀ v, Rep K M v d → Q v H
  | .new t ds => newable t ds ∧ ∀ p xs, H p = none → Reps K M xs ds → Q (.ref p) (upd H p (mkO t xs))
def S1 (K : PySem.W.Frag) (r : V → Hp → VK → Prop) (g : D → Option Out) : Prop := ∀ M H x d o Q, Sub M H → RepH K M H x d → g d = some o → (OutOk K M H o Q → r x H Q)
def S2 (K : PySem.W.Frag) (r : R2) (g : D → D → Option Out) : Prop := ∀ M H x y d e o Q, Sub M H → RepH K M H x d → RepH K M H y e → g d e = some o → (OutOk K M H o Q → r x y H Q)
section
variable {K : PySem.W.Frag} {f : Frm} {M H : Hp} {τ : List V} {T : List Cell} {σ : L2.St} {Γ : Gam} {Q : VK} {o : Out}
/-- what is wanted of an operation's outcome, from what is wanted of its cell -/
theorem Good.out (G : Good K f M H τ T σ Γ) (hn : ∀ t ds, o = .new t ds → newable t ds) (p : ∀ v H' M', Good K f M' H' (v :: τ) (o.cell :: T) σ Γ → Q v H') : OutOk K M H o Q := by
  cases o with
  | old d => exact fun v r => p v H M (G.pushSh r)
  | new t ds =>
    have nw := hn t ds rfl
    refine ⟨nw, fun q xs e r => ?_⟩
    cases t with
    | lst => exact p _ _ M (G.alloc e (by show (upd H q (.lst xs)) q = _; rw [upd_same]) r)
    | tup =>
      obtain ⟨M', G'⟩ := G.allocF e r
      exact p _ _ M' G'
    | dk ks => exact p _ _ M (G.alloc e ⟨by rw [r.length]; exact nw, by show (upd H q (.dK (ks.zip xs))) q = _; rw [upd_same]⟩ r)
    | dt ks => exact p _ _ M (G.alloc e ⟨by rw [r.length]; exact nw, by show (upd H q (.dT (ks.zip xs))) q = _; rw [upd_same]⟩ r)
    | ins C ns => exact nw.elim
    | scr => exact nw.elim
end
def okNew (o : Out) : Bool := match o with
  | .new (.dk ks) ds => ks.length == ds.length
  | .new (.dt ks) ds => ks.length == ds.length
  | .new (.ins _ _) _ => false
  | .new .scr _ => false
  | _ => true
theorem okNew_of {o : Out} (h : okNew o = true) : ∀ t ds, o = .new t ds → newable t ds := by
  rintro t ds rfl
  cases t with
  | lst => trivial
  | tup => trivial
  | dk ks => exact beq_iff_eq.mp h
  | dt ks => exact beq_iff_eq.mp h
  | ins C ns => cases h
  | scr => cases h
def eOut (o : Option Out) : EF := fun Γ => match o with
  | some o => if okNew o then some (.val o.cell, Γ) else none
  | none => none
theorem eOut_some {o : Option Out} {Γ Γ' : Gam} {r : Res} (h : eOut o Γ = some (r, Γ')) : ∃ o', o = some o' ∧ okNew o' = true ∧ r = .val o'.cell ∧ Γ' = Γ := by
  unfold eOut at h
  cases o with
  | none => cases h
  | some o' =>
    dsimp only at h
    split at h
    · rename_i hk; cases h; exact ⟨o', rfl, hk, rfl, rfl⟩
    · cases h
def eUn (g : D → Option Out) (A : EF) : EF := bindE A fun c Γ => match look Γ c with
  | some d => eOut (g d) Γ
  | none => none
def eBin (g : D → D → Option Out) (A B : EF) : EF := bindE A fun c => bindE B fun c' Γ => match look Γ c, look Γ c' with
  | some d, some d' => eOut (g d d') Γ
  | _, _ => none
theorem un_core {r : V → Hp → VK → Prop} {g : D → Option Out} (hs : S1 X.K r g) {σ : L2.St} {H : Hp} {Q : VK} (h : tE X.K W (eUn g A) σ H Q) : (tE X.K W A) σ H fun x H1 => r x H1 Q := by
  obtain ⟨f, M, τ, T, Γ, ra, Γ', G, hF, p⟩ := h
  refine run1 G hF p fun c Γ1 v H1 M1 G1 e => ?_
  split at e
  · rename_i d hd
    obtain ⟨o, ho, hk, rfl, rfl⟩ := eOut_some e
    exact hs M1 H1 v d o Q G1.sub (G1.look (k := .inl 0) rfl hd) ho (G1.pop.out (okNew_of hk) p)
  · cases e
theorem bin_core {r : R2} {g : D → D → Option Out} (hs : S2 X.K r g) {σ : L2.St} {H : Hp} {Q : VK} (h : tE X.K W (eBin g A B) σ H Q) : (tE X.K W A) σ H fun x H1 => (tE X.K W B) σ H1 fun y H2 => r x y H2 Q := by
  obtain ⟨f, M, τ, T, Γ, ra, Γ', G, hF, p⟩ := h
  refine run1 G hF p fun c Γ1 v H1 M1 G1 e => ?_
  refine run2 G1 e p fun c' Γ2 v' H2 M2 G2 e2 => ?_
  split at e2
  · rename_i d d' hd hd'
    obtain ⟨o, ho, hk, rfl, rfl⟩ := eOut_some e2
    exact hs M2 H2 v v' d d' o Q G2.sub (G2.look (k := .inl 1) rfl hd) (G2.look (k := .inl 0) rfl hd') ho (G2.pop.pop.out (okNew_of hk) p)
  · cases e2
/-- a tuple is seen over the frozen heap -/
def TupR (K : PySem.W.Frag) (M : Hp) (x : V) (d : D) : Prop := ∀ ds, d = .node .tup ds → Rep K M x d
theorem TupR.own {K : PySem.W.Frag} {f : Frm} {M H : Hp} {v : V} {t : Tag} {ds : List D} (h : OwnOk K f M H v t ds) : TupR K M v (.node t ds) := by
  intro es e
  cases e
  obtain ⟨a, xs, rfl, h1, h2, _⟩ := h
  exact (h1 : False).elim
theorem Good.lookT {K : PySem.W.Frag} {f : Frm} {M H : Hp} {τ : List V} {T : List Cell} {σ : L2.St} {Γ : Gam} {v : V} {c : Cell} {d : D} (G : Good K f M H τ T σ Γ) {k : Ix} (q : ent τ T σ Γ k = some (v, c)) (e : DL.look Γ c = some d) : TupR K M v d := by
  have h := G.ok k v c q
  cases c with
  | sh d' => cases e; exact fun _ _ => h
  | ow t ds => cases e; exact TupR.own h
  | rf t ds => cases e; exact TupR.own h
  | br i =>
    have hs : σ[i]? = some (some v) := h
    unfold DL.look at e
    dsimp only at e
    split at e
    · rename_i d' hc
      cases e
      exact fun _ _ => G.ok (.inr i) v _ (ent_slot.mpr ⟨hs, hc⟩)
    · rename_i t ds hc
      cases e
      exact TupR.own (G.ok (.inr i) v _ (ent_slot.mpr ⟨hs, hc⟩))
    · rename_i t ds hc
      cases e
      exact TupR.own (G.ok (.inr i) v _ (ent_slot.mpr ⟨hs, hc⟩))
    · cases e
def S2T (K : PySem.W.Frag) (r : R2) (g : D → D → Option Out) : Prop := ∀ M H x y d e o Q, Sub M H → RepH K M H x d → RepH K M H y e → TupR K M x d → TupR K M y e → g d e = some o → (OutOk K M H o Q → r x y H Q)
theorem bin_coreT {r : R2} {g : D → D → Option Out} (hs : S2T X.K r g) {σ : L2.St} {H : Hp} {Q : VK} (h : tE X.K W (eBin g A B) σ H Q) : (tE X.K W A) σ H fun x H1 => (tE X.K W B) σ H1 fun y H2 => r x y H2 Q := by
  obtain ⟨f, M, τ, T, Γ, ra, Γ', G, hF, p⟩ := h
  refine run1 G hF p fun c Γ1 v H1 M1 G1 e => ?_
  refine run2 G1 e p fun c' Γ2 v' H2 M2 G2 e2 => ?_
  split at e2
  · rename_i d d' hd hd'
    obtain ⟨o, ho, hk, rfl, rfl⟩ := eOut_some e2
    exact hs M2 H2 v v' d d' o Q G2.sub (G2.look (k := .inl 1) rfl hd) (G2.look (k := .inl 0) rfl hd') (G2.lookT (k := .inl 1) rfl hd) (G2.lookT (k := .inl 0) rfl hd') ho (G2.pop.pop.out (okNew_of hk) p)
  · cases e2
theorem de_opT {op : Operator} {r : R2} {g : D → D → Option Out} (ho : OpR X (binaryOp op) r) (hs : S2T X.K r g) (ha : DE X W a A) (hb : DE X W b B) : DE X W (.BinOp a op b pos) (eBin g A B) :=
  PEimp (pe_op ho ha hb) fun _ _ _ h => bin_coreT hs h
theorem de_un {op : UnaryOp} {r : V → Hp → VK → Prop} {g : D → Option Out} (ho : UnR X (unaryOp op) r) (hs : S1 X.K r g) (ha : DE X W a A) : DE X W (.UnaryOp op a pos) (eUn g A) :=
  PEimp (pe_un ho ha) fun _ _ _ h => un_core hs h
theorem de_op {op : Operator} {r : R2} {g : D → D → Option Out} (ho : OpR X (binaryOp op) r) (hs : S2 X.K r g) (ha : DE X W a A) (hb : DE X W b B) : DE X W (.BinOp a op b pos) (eBin g A B) :=
  PEimp (pe_op ho ha hb) fun _ _ _ h => bin_core hs h
theorem de_cmp {op : CmpOp} {r : R2} {g : D → D → Option Out} (ho : OpR X (compareOp op) r) (hs : S2 X.K r g) (ha : DE X W a A) (hb : DE X W b B) (hm : behindInMarks op b = false) : DE X W (.Compare a [op] [b] pos) (eBin g A B) :=
  PEimp (pe_cmpR ho ha hb hm) fun _ _ _ h => bin_core hs h
theorem de_ix {r : R2} {g : D → D → Option Out} (ho : IxR X r) (hs : S2 X.K r g) (ha : DE X W a A) (hb : DE X W b B) (hx : PlainIx b) : DE X W (.Subscript a b pos) (eBin g A B) :=
  PEimp (pe_ix ho ha hb hx) fun _ _ _ h => bin_core hs h
/-- a test by the value of an expression that gives a bool -/
def tOf (A : EF) : TF := bindB A fun c Γ => match look Γ c with
  | some (.leaf (.bl k)) => some (.val k, Γ)
  | _ => none
theorem ofB {σ : L2.St} {H : Hp} {Q : Bool → Hp → Prop} (h : DL.tB X.K W (tOf A) σ H Q) : tE X.K W A σ H fun x H' => ∃ k, x = .bl k ∧ Q k H' := by
  obtain ⟨f, M, τ, T, Γ, r, Γ', G, hF, p⟩ := h
  unfold tOf bindB at hF
  cases hA : A Γ with
  | none => rw [hA] at hF; cases hF
  | some q =>
    obtain ⟨ra, Γ1⟩ := q
    rw [hA] at hF
    cases ra with
    | exc x => cases hF; exact ⟨f, M, τ, T, Γ, .exc x, Γ', G, hA, p⟩
    | val c =>
      refine ⟨f, M, τ, T, Γ, .val c, Γ1, G, hA, fun v H1 M1 G1 => ?_⟩
      dsimp only at hF
      split at hF
      · rename_i k hd
        cases hF
        exact ⟨k, G1.look (k := .inl 0) rfl hd, p H1 M1 G1.pop⟩
      · cases hF
theorem dt_cmp {op : CmpOp} {r : R2} {g : D → D → Option Out} (ho : OpR X (compareOp op) r) (hs : S2 X.K r g) (ha : DE X W a A) (hb : DE X W b B) (hm : behindInMarks op b = false) : DT X W (.Compare a [op] [b] pos) (tOf (eBin g A B)) := by
  refine PTimp (pt_cmpR ho ha hb hm) fun σ H Q h => ?_
  exact bin_core hs (ofB h)
theorem dt_val (h : DE X W e A) (he : ∀ whole, isTrue e X.env whole = (do let v ← whole; standAt e.pos; holding [v] (truthy v)) := by intro _; rfl) : DT X W e (tOf A) :=
  PTimp (pt_val h he) fun σ H Q h => ofB h

/-! ### and, or, not, if -/
def tAndD (t u : TF) : TF := fun Γ => match t Γ with
  | some (.val true, Γ1) => u Γ1
  | o => o
def tOrD (t u : TF) : TF := fun Γ => match t Γ with
  | some (.val false, Γ1) => u Γ1
  | o => o
def tNotD (t : TF) : TF := fun Γ => match t Γ with
  | some (.val b, Γ1) => some (.val (!b), Γ1)
  | o => o
variable {tA tB' : TF} {rest : List Expr}
abbrev DW (X : Cx) (W : WX) (e : Expr) (F : TF) : Prop := PW X e (tB X.K W F)
theorem dw_and1 (ha : DT X W a tA) : DW X W (.BoolOp .And [a] pos) tA := pw_and1 ha
theorem dw_or1 (ha : DT X W a tA) : DW X W (.BoolOp .Or [a] pos) tA := pw_or1 ha
theorem dw_and (ha : DT X W a tA) (hb : DW X W (.BoolOp .And (b :: rest) pos) tB') : DW X W (.BoolOp .And (a :: b :: rest) pos) (tAndD tA tB') := by
  refine PWimp (pw_and ha hb) fun σ H Q h => ?_
  obtain ⟨f, M, τ, T, Γ, r, Γ', G, hF, p⟩ := h
  unfold tAndD at hF
  split at hF
  · rename_i Γ1 h1
    exact ⟨f, M, τ, T, Γ, _, Γ1, G, h1, fun H1 M1 G1 => iteT (⟨f, M1, τ, T, Γ1, r, Γ', G1, hF, p⟩)⟩
  · rename_i hne
    refine ⟨f, M, τ, T, Γ, r, Γ', G, hF, ?_⟩
    cases r with
    | exc x => exact p
    | val k => cases k with
      | true => exact (hne Γ' hF).elim
      | false => exact fun H1 M1 G1 => iteF (p H1 M1 G1)
theorem dw_or (ha : DT X W a tA) (hb : DW X W (.BoolOp .Or (b :: rest) pos) tB') : DW X W (.BoolOp .Or (a :: b :: rest) pos) (tOrD tA tB') := by
  refine PWimp (pw_or ha hb) fun σ H Q h => ?_
  obtain ⟨f, M, τ, T, Γ, r, Γ', G, hF, p⟩ := h
  unfold tOrD at hF
  split at hF
  · rename_i Γ1 h1
    exact ⟨f, M, τ, T, Γ, _, Γ1, G, h1, fun H1 M1 G1 => iteF (⟨f, M1, τ, T, Γ1, r, Γ', G1, hF, p⟩)⟩
  · rename_i hne
    refine ⟨f, M, τ, T, Γ, r, Γ', G, hF, ?_⟩
    cases r with
    | exc x => exact p
    | val k => cases k with
      | false => exact (hne Γ' hF).elim
      | true => exact fun H1 M1 G1 => iteT (p H1 M1 G1)
theorem dt_not (ha : DT X W a tA) : DT X W (.UnaryOp .Not a pos) (tNotD tA) := by
  refine PTimp (pt_not ha) fun σ H Q h => ?_
  obtain ⟨f, M, τ, T, Γ, r, Γ', G, hF, p⟩ := h
  unfold tNotD at hF
  split at hF
  · rename_i k Γ1 h1
    cases hF
    exact ⟨f, M, τ, T, Γ, _, Γ', G, h1, p⟩
  · rename_i hne
    refine ⟨f, M, τ, T, Γ, r, Γ', G, hF, ?_⟩
    cases r with
    | exc x => exact p
    | val k => exact (hne k Γ' hF).elim
/-- and, or as values -/
def eAndD (A B : EF) : EF := bindE A fun c Γ => match look Γ c with
  | some (.leaf (.bl true)) => B Γ
  | some (.leaf (.bl false)) => some (.val (.sh (.leaf (.bl false))), Γ)
  | _ => none
def eOrD (A B : EF) : EF := bindE A fun c Γ => match look Γ c with
  | some (.leaf (.bl false)) => B Γ
  | some (.leaf (.bl true)) => some (.val (.sh (.leaf (.bl true))), Γ)
  | _ => none
def eNotD (A : EF) : EF := bindE A fun c Γ => match look Γ c with
  | some (.leaf (.bl k)) => some (.val (.sh (.leaf (.bl (!k)))), Γ)
  | _ => none
theorem de_one {op} (h : DE X W a A) : DE X W (.BoolOp op [a] pos) A := pe_one h
theorem de_and (ha : DE X W a A) (hb : DE X W (.BoolOp .And (b :: rest) pos) B) : DE X W (.BoolOp .And (a :: b :: rest) pos) (eAndD A B) := by
  refine PEimp (pe_and ha hb) fun σ H Q h => ?_
  obtain ⟨f, M, τ, T, Γ, ra, Γ', G, hF, p⟩ := h
  refine run1 G hF p fun c Γ1 v H1 M1 G1 e => ?_
  split at e
  · rename_i hd
    exact ⟨true, G1.look (k := .inl 0) rfl hd, iteT (⟨f, M1, τ, T, Γ1, ra, Γ', G1.pop, e, p⟩)⟩
  · rename_i hd
    cases e
    exact ⟨false, G1.look (k := .inl 0) rfl hd, iteF (p _ H1 M1 (G1.pop.pushSh (by unfold Rep; rfl)))⟩
  · cases e
theorem de_or (ha : DE X W a A) (hb : DE X W (.BoolOp .Or (b :: rest) pos) B) : DE X W (.BoolOp .Or (a :: b :: rest) pos) (eOrD A B) := by
  refine PEimp (pe_or ha hb) fun σ H Q h => ?_
  obtain ⟨f, M, τ, T, Γ, ra, Γ', G, hF, p⟩ := h
  refine run1 G hF p fun c Γ1 v H1 M1 G1 e => ?_
  split at e
  · rename_i hd
    exact ⟨false, G1.look (k := .inl 0) rfl hd, iteF (⟨f, M1, τ, T, Γ1, ra, Γ', G1.pop, e, p⟩)⟩
  · rename_i hd
    cases e
    exact ⟨true, G1.look (k := .inl 0) rfl hd, iteT (p _ H1 M1 (G1.pop.pushSh (by unfold Rep; rfl)))⟩
  · cases e
theorem de_not (ha : DE X W a A) : DE X W (.UnaryOp .Not a pos) (eNotD A) := by
  refine PEimp (pe_not ha) fun σ H Q h => ?_
  obtain ⟨f, M, τ, T, Γ, ra, Γ', G, hF, p⟩ := h
  refine run1 G hF p fun c Γ1 v H1 M1 G1 e => ?_
  split at e
  · rename_i k hd
    cases e
    exact ⟨k, G1.look (k := .inl 0) rfl hd, p _ H1 M1 (G1.pop.pushSh (by unfold Rep; rfl))⟩
  · cases e
def eIf (t : TF) (A B : EF) : EF := fun Γ => match t Γ with
  | some (.val true, Γ1) => A Γ1
  | some (.val false, Γ1) => B Γ1
  | some (.exc x, Γ1) => some (.exc x, Γ1)
  | none => none
theorem de_if {c : Expr} (hc : DT X W c tA) (ha : DE X W a A) (hb : DE X W b B) : DE X W (.IfExp c a b pos) (eIf tA A B) := by
  refine PEimp (pe_ifExp hc ha hb) fun σ H Q h => ?_
  obtain ⟨f, M, τ, T, Γ, r, Γ', G, hF, p⟩ := h
  unfold eIf at hF
  split at hF
  · rename_i Γ1 h1
    exact ⟨f, M, τ, T, Γ, _, Γ1, G, h1, fun H1 M1 G1 => iteT (⟨f, M1, τ, T, Γ1, r, Γ', G1, hF, p⟩)⟩
  · rename_i Γ1 h1
    exact ⟨f, M, τ, T, Γ, _, Γ1, G, h1, fun H1 M1 G1 => iteF (⟨f, M1, τ, T, Γ1, r, Γ', G1, hF, p⟩)⟩
  · rename_i x Γ1 h1
    cases hF
    exact ⟨f, M, τ, T, Γ, _, Γ', G, h1, p⟩
  · cases hF
/-- a < b < c -/
def eChain (g g' : D → D → Option Out) (A B C : EF) : EF := bindE A fun c => bindE B fun c' Γ => match look Γ c, look Γ c' with
  | some d, some d' => match g d d' with
    | some (.old (.leaf (.bl true))) => bindE C (fun c2 Γ2 => match look Γ2 c', look Γ2 c2 with
      | some e, some e' => eOut (g' e e') Γ2
      | _, _ => none) Γ
    | some (.old (.leaf (.bl false))) => some (.val (.sh (.leaf (.bl false))), Γ)
    | _ => none
  | _, _ => none
end

/-! ### arguments, displays -/
section
variable {X : Cx} {W : WX} {pos : Pos} {e a b : Expr} {es : List Expr} {A B : EF} {L : AF}
def aNil : AF := fun Γ => some (.val [], Γ)
def aCons (A : EF) (L : AF) : AF := fun Γ => match A Γ with
  | some (.val c, Γ1) => match L Γ1 with
    | some (.val cs, Γ2) => some (.val (c :: cs), Γ2)
    | o => o
  | some (.exc x, Γ1) => some (.exc x, Γ1)
  | none => none
theorem da_nil : DA X W [] aNil := by
  refine PAimp pa_nil fun σ H Q h => ?_
  obtain ⟨f, M, τ, T, Γ, r, Γ', G, hF, p⟩ := h
  cases hF
  exact p [] H M rfl G
theorem da_cons (ha : DE X W e A) (hr : DA X W es L) (hs : starEach (e :: es) X.env = (false, eval e X.env) :: starEach es X.env := by rfl) : DA X W (e :: es) (aCons A L) := by
  refine PAimp (pa_cons ha hr hs) fun σ H Q h => ?_
  obtain ⟨f, M, τ, T, Γ, r, Γ', G, hF, p⟩ := h
  unfold aCons at hF
  cases hA : A Γ with
  | none => rw [hA] at hF; cases hF
  | some q =>
    obtain ⟨ra, Γ1⟩ := q
    rw [hA] at hF
    cases ra with
    | exc x => cases hF; exact ⟨f, M, τ, T, Γ, .exc x, Γ', G, hA, p⟩
    | val c =>
      refine ⟨f, M, τ, T, Γ, .val c, Γ1, G, hA, fun v H1 M1 G1 => ?_⟩
      dsimp only at hF
      cases hL : L Γ1 with
      | none => rw [hL] at hF; cases hF
      | some q2 =>
        obtain ⟨rl, Γ2⟩ := q2
        rw [hL] at hF
        cases rl with
        | exc x => cases hF; exact ⟨f, M1, _, _, Γ1, .exc x, Γ', G1, hL, PostX.pop p⟩
        | val cs =>
          cases hF
          refine ⟨f, M1, _, _, Γ1, .val cs, Γ', G1, hL, fun vs H2 M2 hl G2 => ?_⟩
          refine p (v :: vs) H2 M2 (by rw [List.length_cons, List.length_cons, hl]) ?_
          rw [List.reverse_cons, List.reverse_cons, List.append_assoc, List.append_assoc]
          exact G2
/-- shared data, all of them -/
def shs : List Cell → Option (List D)
  | [] => some []
  | .sh d :: cs => match shs cs with
    | some ds => some (d :: ds)
    | none => none
  | _ :: _ => none
theorem Good.shs {K : PySem.W.Frag} {f : Frm} {M H : Hp} {σ : L2.St} {Γ : Gam} : ∀ {vs : List V} {cs : List Cell} {ds : List D} {τ : List V} {T : List Cell}, vs.length = cs.length → shs cs = some ds →
    Good K f M H (vs.reverse ++ τ) (cs.reverse ++ T) σ Γ → Reps K M vs ds ∧ Good K f M H τ T σ Γ
  | [], [], ds, τ, T, _, h, G => by cases h; exact ⟨.nil, G⟩
  | [], _ :: _, _, _, _, hl, _, _ => by cases hl
  | _ :: _, [], _, _, _, hl, _, _ => by cases hl
  | v :: vs, c :: cs, ds, τ, T, hl, h, G => by
    rw [List.reverse_cons, List.reverse_cons, List.append_assoc, List.append_assoc] at G
    cases c with
    | sh d =>
      unfold DL.shs at h
      split at h
      · rename_i ds' hd
        cases h
        obtain ⟨r, G'⟩ := Good.shs (τ := v :: τ) (T := .sh d :: T) (by simpa using hl) hd G
        exact ⟨.cons (G'.ok (.inl 0) v _ rfl) r, G'.pop⟩
      · cases h
    | ow t ds' => cases h
    | rf t ds' => cases h
    | br i => cases h
/-- the arguments run, then what is made of them -/
theorem runL {K : PySem.W.Frag} {f : Frm} {M H : Hp} {τ : List V} {T : List Cell} {σ : L2.St} {Γ Γ' : Gam} {Q : VK} {L : AF} {k : List Cell → EF} {r : Res} {R : List V → Hp → Prop} (G : Good K f M H τ T σ Γ) (e : DL.bindL L k Γ = some (r, Γ')) (p : PostE K W f τ T σ Q r Γ')
    (h : ∀ cs Γ1 vs H1 M1, vs.length = cs.length → Good K f M1 H1 (vs.reverse ++ τ) (cs.reverse ++ T) σ Γ1 → k cs Γ1 = some (r, Γ') → R vs H1) : tL K W L σ H R := by
  unfold DL.bindL at e
  cases hA : L Γ with
  | none => rw [hA] at e; cases e
  | some q =>
    obtain ⟨ra, Γ1⟩ := q
    rw [hA] at e
    cases ra with
    | val cs => exact ⟨f, M, τ, T, Γ, .val cs, Γ1, G, hA, fun vs H1 M1 hl G1 => h cs Γ1 vs H1 M1 hl G1 e⟩
    | exc x =>
      cases e
      exact ⟨f, M, τ, T, Γ, .exc x, Γ', G, hA, p⟩
/-- an operation on shared data, by values -/
def SL (K : PySem.W.Frag) (r : List V → Hp → VK → Prop) (g : List D → Option Out) : Prop := ∀ M H xs ds o Q, Sub M H → Reps K M xs ds → g ds = some o → (OutOk K M H o Q → r xs H Q)
def eOfL (g : List D → Option Out) (L : AF) : EF := DL.bindL L fun cs Γ => match shs cs with
  | some ds => eOut (g ds) Γ
  | none => none
theorem l_core {r : List V → Hp → VK → Prop} {g : List D → Option Out} (hs : SL X.K r g) {σ : L2.St} {H : Hp} {Q : VK} (h : tE X.K W (eOfL g L) σ H Q) : (tL X.K W L) σ H fun xs H1 => r xs H1 Q := by
  obtain ⟨f, M, τ, T, Γ, ra, Γ', G, hF, p⟩ := h
  refine runL G hF p fun cs Γ1 vs H1 M1 hl G1 e => ?_
  split at e
  · rename_i ds hd
    obtain ⟨o, ho, hk, rfl, rfl⟩ := eOut_some e
    obtain ⟨rs, G2⟩ := G1.shs hl hd
    exact hs M1 H1 vs ds o Q G2.sub rs ho (G2.out (okNew_of hk) p)
  · cases e
def gTupD (ds : List D) : Option Out := if ds.length ≤ 16777216 then some (.new .tup ds) else none
def gLstD (ds : List D) : Option Out := if ds.length ≤ 16777216 then some (.new .lst ds) else none
theorem sl_tupD {K : PySem.W.Frag} : SL K (fun xs H1 Q => xs.length ≤ sizeLine ∧ ∀ p, H1 p = none → Q (.ref p) (upd H1 p (.tup xs))) gTupD := by
  intro M H xs ds o Q hs r h q
  unfold gTupD at h
  split at h
  · rename_i hl
    cases h
    exact ⟨by rw [r.length, sizeLine_eq]; exact hl, fun p hp => q.2 p xs hp r⟩
  · cases h
theorem sl_lstD {K : PySem.W.Frag} : SL K (fun xs H1 Q => xs.length ≤ sizeLine ∧ ∀ p, H1 p = none → Q (.ref p) (upd H1 p (.lst xs))) gLstD := by
  intro M H xs ds o Q hs r h q
  unfold gLstD at h
  split at h
  · rename_i hl
    cases h
    exact ⟨by rw [r.length, sizeLine_eq]; exact hl, fun p hp => q.2 p xs hp r⟩
  · cases h
theorem de_tup {x1} (h : DA X W es L) : DE X W (.Tuple es x1 pos) (eOfL gTupD L) := PEimp (pe_tup h) fun _ _ _ q => l_core sl_tupD q
theorem de_lst (h : DA X W es L) : DE X W (.List es pos) (eOfL gLstD L) := PEimp (pe_lst h) fun _ _ _ q => l_core sl_lstD q
end
end DL

set_option Elab.async false
set_option linter.all false
set_option maxRecDepth 100000
set_option maxHeartbeats 1000000
/-! statements by mirror functions -/
namespace DL
open PySem PySem.Spec PyProof.Rows L2

inductive Fl where
  | nx (Γ : Gam)
  | rt (c : Cell) (Γ : Gam)
  | bk (Γ : Gam)
  | ct (Γ : Gam)
  | xc (x : Exc) (Γ : Gam)
abbrev GS := Gam → Option Fl

section
variable (K : PySem.W.Frag)
def PostS (W : WX) (f : Frm) (D : Ends) : Fl → Prop
  | .nx Γ' => ∀ σ' H' M', Good K f M' H' [] [] σ' Γ' → D.nx σ' H'
  | .bk Γ' => ∀ σ' H' M', Good K f M' H' [] [] σ' Γ' → D.bk σ' H'
  | .ct Γ' => ∀ σ' H' M', Good K f M' H' [] [] σ' Γ' → D.ct σ' H'
  | .rt c Γ' => ∀ v σ' H' M', Good K f M' H' [v] [c] σ' Γ' → D.rt v H'
  | .xc x Γ' => ∀ σ', PostX K W f [] [] σ' x Γ'
def tS (W : WX) (G : GS) : TS := fun D σ H => ∃ f M Γ o, Good K f M H [] [] σ Γ ∧ G Γ = some o ∧ PostS K W f D o
end
abbrev DS (X : Cx) (W : WX) (s : Stmt) (G : GS) : Prop := PS X s (tS X.K W G)
abbrev DSs (X : Cx) (W : WX) (s : List Stmt) (G : GS) : Prop := PSs X s (tS X.K W G)
theorem PSimp {X : Cx} {s : Stmt} {t t' : TS} (h : PS X s t) (k : ∀ D σ H, t' D σ H → t D σ H) : PS X s t' := ⟨fun pins s σ H D I q => h.run pins s σ H D I (k D σ H q)⟩
theorem PSsimp {X : Cx} {s : List Stmt} {t t' : TS} (h : PSs X s t) (k : ∀ D σ H, t' D σ H → t D σ H) : PSs X s t' := ⟨fun pins s σ H D I q => h.run pins s σ H D I (k D σ H q)⟩

/-! ### frames within frames -/
section
variable {K : PySem.W.Frag} {f : Frm} {M M' H H' : Hp} {τ : List V} {T : List Cell} {σ σ' : L2.St} {Γ Γ' : Gam} {v : V} {c : Cell}
def Frm.at (f : Frm) (M : Hp) : Frm := { f with M0 := M }
theorem Good.inner (G : Good K f M H τ T σ Γ) : Good K (f.at M) M H τ T σ Γ where
  bys := G.bys
  sub := G.sub
  m0 := Sub.refl M
  new := fun a o u h _ => ⟨o, h⟩
  tl := G.tl
  sl := G.sl
  has := G.has
  ok := fun k v c q => by
    have h := G.ok k v c q
    cases c with
    | sh d => exact h
    | ow t ds => exact h
    | rf t ds => exact h
    | br i => exact h
  inj := G.inj
  nbr := G.nbr
  args := G.args
theorem Good.outer {τ' : List V} {T' : List Cell} (G : Good K f M H τ T σ Γ) (G' : Good K (f.at M) M' H' τ' T' σ' Γ') : Good K f M' H' τ' T' σ' Γ' where
  bys := G'.bys
  sub := G'.sub
  m0 := G.m0.trans G'.m0
  new := fun a o u h b => by
    obtain ⟨w, hw⟩ := G'.new a o u h b
    exact G.new a w u hw b
  tl := G'.tl
  sl := G'.sl
  has := G'.has
  ok := fun k v c q => by
    have h := G'.ok k v c q
    cases c with
    | sh d => exact h
    | ow t ds => exact h
    | rf t ds => exact h
    | br i => exact h
  inj := G'.inj
  nbr := G'.nbr
  args := G'.args

/-! ### a slot is stored -/
def isRf : Option (Option Cell) → Bool
  | some (some (.rf _ _)) => true
  | _ => false
def setC (i : Nat) (c : Cell) (Γ : Gam) : Option Gam := if i < Γ.length then (if isRf Γ[i]? then none else some (Γ.set i (some c))) else none
def NoBr (T : List Cell) : Prop := ∀ c ∈ T, ∀ j, c ≠ .br j
theorem NoBr.nil : NoBr [] := fun _ h => by cases h
def Solid : Cell → Prop
  | .sh _ => True
  | .ow _ _ => True
  | _ => False
theorem setC_some {i : Nat} (h : setC i c Γ = some Γ') : i < Γ.length ∧ isRf Γ[i]? = false ∧ Γ' = Γ.set i (some c) := by
  unfold setC at h
  split at h
  · rename_i hl
    split at h
    · cases h
    · rename_i hr
      cases h
      exact ⟨hl, by simpa using hr, rfl⟩
  · cases h
theorem Good.setS {i : Nat} (G : Good K f M H (v :: τ) (c :: T) σ Γ) (hc : Solid c) (hT : NoBr T) (h : setC i c Γ = some Γ') : Good K f M H τ T (σ.set i (some v)) Γ' := by
  obtain ⟨hl, hr, rfl⟩ := setC_some h
  have hlσ : i < σ.length := by rw [G.sl]; exact hl
  have gs : (σ.set i (some v))[i]? = some (some v) := by rw [List.getElem?_set_self hlσ]
  have gg : (Γ.set i (some c))[i]? = some (some c) := by rw [List.getElem?_set_self hl]
  have cs : ∀ k u e, ent τ T (σ.set i (some v)) (Γ.set i (some c)) k = some (u, e) → (k = .inr i ∧ u = v ∧ e = c) ∨ (k ≠ .inr i ∧ ent τ T σ Γ k = some (u, e)) := fun k u e q => by
    match k with
    | .inl j => exact .inr ⟨(by intro z; cases z), q⟩
    | .inr j =>
      obtain ⟨q1, q2⟩ := ent_slot.mp q
      by_cases hj : i = j
      · subst hj
        rw [gs] at q1
        rw [gg] at q2
        cases q1; cases q2
        exact .inl ⟨rfl, rfl, rfl⟩
      · rw [List.getElem?_set_ne hj] at q1 q2
        exact .inr ⟨fun z => hj (by cases z; rfl), ent_slot.mpr ⟨q1, q2⟩⟩
  have lift : ∀ k u e, ent τ T σ Γ k = some (u, e) → ∃ k', k' ≠ .inl 0 ∧ ent (v :: τ) (c :: T) σ Γ k' = some (u, e) := fun k u e q => by
    match k with
    | .inl j => exact ⟨.inl (j + 1), (by intro z; cases z), q⟩
    | .inr j => exact ⟨.inr j, (by intro z; cases z), q⟩
  refine ⟨G.bys, G.sub, G.m0, G.new, G.pop.tl, by rw [List.length_set, List.length_set]; exact G.sl, fun j e q => ?_, fun k u e q => ?_, fun k k' u e u' e' a q q' r r' => ?_, fun j k q => ?_, fun j t ds q => ?_⟩
  · by_cases hj : i = j
    · subst hj; exact ⟨v, gs⟩
    · rw [List.getElem?_set_ne hj] at q ⊢; exact G.has j e q
  · rcases cs k u e q with ⟨k1, u1, e1⟩ | ⟨hk, q2⟩
    · rw [u1, e1]
      have z := G.ok (.inl 0) v c rfl
      cases c with
      | sh d => exact z
      | ow t ds => exact z
      | rf t ds => exact hc.elim
      | br j => exact hc.elim
    · have z := G.pop.ok k u e q2
      cases e with
      | sh d => exact z
      | ow t ds => exact z
      | rf t ds => exact z
      | br j =>
        exfalso
        match k with
        | .inl n => exact hT _ (List.mem_of_getElem? (ent_temp.mp q2).2) j rfl
        | .inr n => exact G.nbr n j (ent_slot.mp q2).2
  · rcases cs k u e q with ⟨k1, u1, e1⟩ | ⟨hk, q2⟩
    · rcases cs k' u' e' q' with ⟨k1', u1', e1'⟩ | ⟨hk', q2'⟩
      · rw [k1, k1']
      · obtain ⟨n, n0, nq⟩ := lift k' u' e' q2'
        rw [u1, e1] at r
        exact (n0 (G.inj (.inl 0) n v c u' e' a rfl nq r r').symm).elim
    · rcases cs k' u' e' q' with ⟨k1', u1', e1'⟩ | ⟨hk', q2'⟩
      · obtain ⟨n, n0, nq⟩ := lift k u e q2
        rw [u1', e1'] at r'
        exact (n0 (G.inj n (.inl 0) u e v c a nq rfl r r')).elim
      · exact G.pop.inj _ _ _ _ _ _ a q2 q2' r r'
  · by_cases hj : i = j
    · subst hj
      rw [gg] at q
      have e := Option.some.inj (Option.some.inj q)
      rw [e] at hc
      exact hc.elim
    · rw [List.getElem?_set_ne hj] at q; exact G.nbr j k q
  · by_cases hj : i = j
    · subst hj
      rw [gg] at q
      have e := Option.some.inj (Option.some.inj q)
      rw [e] at hc
      exact hc.elim
    · rw [List.getElem?_set_ne hj] at q ⊢; exact G.args j t ds q
/-- what a name may hold: what the slot j holds is shared first -/
def solid (Γ : Gam) : Cell → Option (Cell × Gam)
  | .sh d => some (.sh d, Γ)
  | .ow t ds => some (.ow t ds, Γ)
  | .rf _ _ => none
  | .br i => match keep Γ (.br i) with
    | some (d, Γ') => some (.sh d, Γ')
    | none => none
theorem Good.solid {c' : Cell} (G : Good K f M H (v :: τ) (c :: T) σ Γ) (e : solid Γ c = some (c', Γ')) : Solid c' ∧ ∃ M', Good K f M' H (v :: τ) (c' :: T) σ Γ' := by
  cases c with
  | sh d => cases e; exact ⟨trivial, M, G⟩
  | ow t ds => cases e; exact ⟨trivial, M, G⟩
  | rf t ds => cases e
  | br i =>
    unfold DL.solid at e
    dsimp only at e
    split at e
    · rename_i d Γ2 hk
      cases e
      obtain ⟨M', G'⟩ := G.keep hk
      exact ⟨trivial, M', G'⟩
    · cases e
end

/-! ### blocks, small statements -/
section
variable {X : Cx} {W : WX} {pos : Pos} {e : Expr} {st : Stmt} {rest : List Stmt} {A B : EF} {G G' : GS} {t : TF}
def sNil : GS := fun Γ => some (.nx Γ)
def sSeq (G G' : GS) : GS := fun Γ => match G Γ with
  | some (.nx Γ1) => G' Γ1
  | o => o
theorem dss_nil : DSs X W [] sNil := by
  refine PSsimp pss_nil fun D σ H h => ?_
  obtain ⟨f, M, Γ, o, G, hG, p⟩ := h
  cases hG
  exact p σ H M G
theorem seq_core {u : GS} {D : Ends} {σ : L2.St} {H : Hp} (h : tS X.K W (sSeq G u) D σ H) : tS X.K W G { D with nx := tS X.K W u D } σ H := by
  obtain ⟨f, M, Γ, o, g, hG, p⟩ := h
  unfold sSeq at hG
  cases hA : G Γ with
  | none => rw [hA] at hG; cases hG
  | some q =>
    rw [hA] at hG
    cases q with
    | nx Γ1 => exact ⟨f, M, Γ, _, g, hA, fun σ' H' M' G1 => ⟨f, M', Γ1, o, G1, hG, p⟩⟩
    | rt c Γ1 => cases hG; exact ⟨f, M, Γ, _, g, hA, p⟩
    | bk Γ1 => cases hG; exact ⟨f, M, Γ, _, g, hA, p⟩
    | ct Γ1 => cases hG; exact ⟨f, M, Γ, _, g, hA, p⟩
    | xc x Γ1 => cases hG; exact ⟨f, M, Γ, _, g, hA, p⟩
theorem dss_cons (h1 : DS X W st G) (h2 : DSs X W rest G') : DSs X W (st :: rest) (sSeq G G') :=
  PSsimp (pss_cons h1 h2) fun _ _ _ h => seq_core h
theorem dss_one (h1 : DS X W st G) : DSs X W [st] G := pss_one h1
def sPass : GS := fun Γ => some (.nx Γ)
def sBreak : GS := fun Γ => some (.bk Γ)
def sCont : GS := fun Γ => some (.ct Γ)
theorem ds_pass : DS X W (.Pass pos) sPass := by
  refine PSimp ps_pass fun D σ H h => ?_
  obtain ⟨f, M, Γ, o, G, hG, p⟩ := h
  cases hG
  exact p σ H M G
theorem ds_break : DS X W (.Break pos) sBreak := by
  refine PSimp ps_break fun D σ H h => ?_
  obtain ⟨f, M, Γ, o, G, hG, p⟩ := h
  cases hG
  exact p σ H M G
theorem ds_continue : DS X W (.Continue pos) sCont := by
  refine PSimp ps_continue fun D σ H h => ?_
  obtain ⟨f, M, Γ, o, G, hG, p⟩ := h
  cases hG
  exact p σ H M G
/-- an expression, then what is done with its cell -/
def bindS (A : EF) (k : Cell → GS) : GS := fun Γ => match A Γ with
  | some (.val c, Γ1) => k c Γ1
  | some (.exc x, Γ1) => some (.xc x Γ1)
  | none => none
theorem runS {K : PySem.W.Frag} {D : Ends} {k : Cell → GS} {σ : L2.St} {H : Hp} {R : VK} (h : tS K W (bindS A k) D σ H)
    (q : ∀ f c Γ1 v H1 M1 o, Good K f M1 H1 [v] [c] σ Γ1 → k c Γ1 = some o → PostS K W f D o → R v H1) : tE K W A σ H R := by
  obtain ⟨f, M, Γ, o, G, hG, p⟩ := h
  unfold bindS at hG
  cases hA : A Γ with
  | none => rw [hA] at hG; cases hG
  | some z =>
    obtain ⟨ra, Γ1⟩ := z
    rw [hA] at hG
    cases ra with
    | val c => exact ⟨f, M, [], [], Γ, .val c, Γ1, G, hA, fun v H1 M1 G1 => q f c Γ1 v H1 M1 o G1 hG p⟩
    | exc x =>
      cases hG
      exact ⟨f, M, [], [], Γ, .exc x, Γ1, G, hA, p σ⟩
def sExpr (A : EF) : GS := bindS A fun _ Γ => some (.nx Γ)
theorem ds_expr (he : DE X W e A) (hs : swapsWith e none pos.line X.env = pure false := by rfl) : DS X W (.Expr e pos) (sExpr A) :=
  PSimp (ps_expr he hs) fun D σ H h => runS h fun f c Γ1 v H1 M1 o G1 hk p => by cases hk; exact p σ H1 M1 G1.pop
def sRet (A : EF) : GS := bindS A fun c Γ => some (.rt c Γ)
theorem ds_ret (he : DE X W e A) : DS X W (.Return (some e) pos) (sRet A) :=
  PSimp (ps_ret he) fun D σ H h => runS h fun f c Γ1 v H1 M1 o G1 hk p => by cases hk; exact p v σ H1 M1 G1
def sRetN : GS := fun Γ => some (.rt (.sh (.leaf .non)) Γ)
theorem ds_retN : DS X W (.Return none pos) sRetN := by
  refine PSimp ps_retN fun D σ H h => ?_
  obtain ⟨f, M, Γ, o, G, hG, p⟩ := h
  cases hG
  exact p .non σ H M (G.pushSh (by unfold Rep; rfl))
def sIf (t : TF) (G G' : GS) : GS := fun Γ => match t Γ with
  | some (.val true, Γ1) => G Γ1
  | some (.val false, Γ1) => G' Γ1
  | some (.exc x, Γ1) => some (.xc x Γ1)
  | none => none
theorem ds_if {c : Expr} {a b : List Stmt} (hc : DT X W c t) (ha : DSs X W a G) (hb : DSs X W b G') : DS X W (.If c a b pos) (sIf t G G') := by
  refine PSimp (ps_if hc ha hb) fun D σ H h => ?_
  obtain ⟨f, M, Γ, o, g, hG, p⟩ := h
  unfold sIf at hG
  split at hG
  · rename_i Γ1 h1
    exact ⟨f, M, [], [], Γ, _, Γ1, g, h1, fun H1 M1 G1 => iteT ⟨f, M1, Γ1, o, G1, hG, p⟩⟩
  · rename_i Γ1 h1
    exact ⟨f, M, [], [], Γ, _, Γ1, g, h1, fun H1 M1 G1 => iteF ⟨f, M1, Γ1, o, G1, hG, p⟩⟩
  · rename_i x Γ1 h1
    cases hG
    exact ⟨f, M, [], [], Γ, _, Γ1, g, h1, p σ⟩
  · cases hG
/-- x = e -/
def sSet (i : Nat) (A : EF) : GS := bindS A fun c Γ => match solid Γ c with
  | some (c', Γ') => match setC i c' Γ' with
    | some Γ'' => some (.nx Γ'')
    | none => none
  | none => none
theorem ds_set (i : Nat) {x : Str} {pos' : Pos} (he : DE X W e A) (hN : X.N.Nodup) (hi : X.N[i]? = some x := by rfl) (hx : Loc X.env.scope x := by first | exact Or.inl rfl | exact Or.inr rfl)
    (hs : swapsWith e (some (.Name x pos')) pos.line X.env = pure false := by rfl) (hf : X.fn x = true ∨ X.env.scope.names.lookup x = some .local := by first | exact .inl rfl | exact .inr rfl | assumption) : DS X W (.Assign [.Name x pos'] e pos) (sSet i A) := by
  refine PSimp (ps_set hN hi hx he hs hf) fun D σ H h => ?_
  refine runS h fun f c Γ1 v H1 M1 o G1 hk p => ?_
  split at hk
  · rename_i c' Γ2 h2
    obtain ⟨sc, M2, G2⟩ := G1.solid h2
    split at hk
    · rename_i Γ3 h3
      cases hk
      exact p _ H1 M2 (G2.setS sc NoBr.nil h3)
    · cases hk
  · cases hk
/-- the arguments run, then what is done -/
def bindLS (L : AF) (k : List Cell → GS) : GS := fun Γ => match L Γ with
  | some (.val cs, Γ1) => k cs Γ1
  | some (.exc x, Γ1) => some (.xc x Γ1)
  | none => none
theorem runLS {K : PySem.W.Frag} {D : Ends} {L : AF} {k : List Cell → GS} {σ : L2.St} {H : Hp} {R : List V → Hp → Prop} (h : tS K W (bindLS L k) D σ H)
    (q : ∀ f cs Γ1 vs H1 M1 o, vs.length = cs.length → Good K f M1 H1 (vs.reverse ++ []) (cs.reverse ++ []) σ Γ1 → k cs Γ1 = some o → PostS K W f D o → R vs H1) : tL K W L σ H R := by
  obtain ⟨f, M, Γ, o, G, hG, p⟩ := h
  unfold bindLS at hG
  cases hA : L Γ with
  | none => rw [hA] at hG; cases hG
  | some z =>
    obtain ⟨ra, Γ1⟩ := z
    rw [hA] at hG
    cases ra with
    | val cs => exact ⟨f, M, [], [], Γ, .val cs, Γ1, G, hA, fun vs H1 M1 hl G1 => q f cs Γ1 vs H1 M1 o hl G1 hG p⟩
    | exc x =>
      cases hG
      exact ⟨f, M, [], [], Γ, .exc x, Γ1, G, hA, p σ⟩
/-- what a name may hold -/
def eSolid (A : EF) : EF := bindE A fun c Γ => match solid Γ c with
  | some (c', Γ') => some (.val c', Γ')
  | none => none
theorem de_solid (h : DE X W e A) : DE X W e (eSolid A) := by
  refine PEimp h fun σ H Q h => ?_
  obtain ⟨f, M, τ, T, Γ, r, Γ', G, hF, p⟩ := h
  refine run1 G hF p fun c Γ1 v H1 M1 G1 e => ?_
  split at e
  · rename_i c' Γ2 hk
    cases e
    obtain ⟨_, M2, G2⟩ := G1.solid hk
    exact p v H1 M2 G2
  · cases e
def isSolid : Cell → Bool
  | .sh _ => true
  | .ow _ _ => true
  | _ => false
theorem isSolid_of {c : Cell} (h : isSolid c = true) : Solid c := by
  cases c with
  | sh d => trivial
  | ow t ds => trivial
  | rf t ds => cases h
  | br i => cases h
theorem Solid.nobr {c : Cell} (h : Solid c) : ∀ j, c ≠ .br j := by
  rintro j rfl
  exact h
/-- x, y = a, b -/
def kPar (i j : Nat) (cs : List Cell) : GS := fun Γ1 => match cs with
  | [c, e] => if isSolid c && isSolid e then (match setC j e Γ1 with
    | some Γ2 => match setC i c Γ2 with
      | some Γ3 => some (.nx Γ3)
      | none => none
    | none => none) else none
  | _ => none
def sPar (i j : Nat) (L : AF) : GS := bindLS L (kPar i j)
theorem ds_par (i j : Nat) {x y : Str} {a b : Expr} {L : AF} {px py pt : Pos} {kt k2 pt2} (ha : DA X W [a, b] L) (hc : X.calm = true) (hN : X.N.Nodup) (hw : swappedStores [.Tuple [.Name x px, .Name y py] kt pt] (.Tuple [a, b] k2 pt2) X.env = pure (some [x, y]))
    (hi : X.N[i]? = some x := by rfl) (hj : X.N[j]? = some y := by rfl) (hij : i ≠ j := by decide)
    (hx : X.env.scope.names.lookup x = some .local := by rfl) (hy : X.env.scope.names.lookup y = some .local := by rfl)
    (hs : swapsWithSole [.Tuple [.Name x px, .Name y py] kt pt] (.Tuple [a, b] k2 pt2) pos.line X.env = pure false := by rfl) :
    DS X W (.Assign [.Tuple [.Name x px, .Name y py] kt pt] (.Tuple [a, b] k2 pt2) pos) (sPar i j L) := by
  refine PSimp (ps_par hc hN hi hj hij hx hy ha hw hs) fun D σ H h => ?_
  refine runLS h fun f cs Γ1 vs H1 M1 o hl G1 hk p => ?_
  unfold kPar at hk
  split at hk
  · rename_i c e
    split at hk
    · rename_i hse
      rw [Bool.and_eq_true] at hse
      obtain ⟨sc, se⟩ := hse
      split at hk
      · rename_i Γ2 h2
        split at hk
        · rename_i Γ3 h3
          cases hk
          obtain ⟨v, w, rfl⟩ : ∃ v w, vs = [v, w] := by
            match vs, hl with
            | [v, w], _ => exact ⟨v, w, rfl⟩
          have G2 : Good X.K f M1 H1 [w, v] [e, c] σ Γ1 := G1
          have nb : NoBr [c] := fun d hd => by
            rw [List.mem_singleton] at hd
            rw [hd]
            exact (isSolid_of sc).nobr
          refine ⟨v, w, rfl, ?_⟩
          rw [List.set_comm _ _ hij]
          exact p _ H1 M1 ((G2.setS (isSolid_of se) nb h2).setS (isSolid_of sc) NoBr.nil h3)
        · cases hk
      · cases hk
    · cases hk
  · cases hk
end
end DL

set_option Elab.async false
set_option linter.all false
set_option maxRecDepth 100000
set_option maxHeartbeats 1000000
/-! targets, what is walked, loops -/
namespace DL
open PySem PySem.Spec PyProof.Rows L2

section
variable (K : PySem.W.Frag)
/-- a target whose slots are S stores shared data -/
def tG (S : List Nat) (F : D → Gam → Option Gam) : TG := fun v σ H Q => ∃ f M τ T Γ d Γ', NoBr T ∧ Good K f M H τ T σ Γ ∧ Rep K M v d ∧ F d Γ = some Γ' ∧
  ∀ σ' H' M', Good K f M' H' τ T σ' Γ' → (σ'.length = σ.length ∧ ∀ j, j ∉ S → σ'[j]? = σ[j]?) → Q σ' H'
def tGs (S : List Nat) (F : List D → Gam → Option Gam) : TGs := fun vs σ H Q => ∃ f M τ T Γ ds Γ', NoBr T ∧ Good K f M H τ T σ Γ ∧ Reps K M vs ds ∧ F ds Γ = some Γ' ∧
  ∀ σ' H' M', Good K f M' H' τ T σ' Γ' → (σ'.length = σ.length ∧ ∀ j, j ∉ S → σ'[j]? = σ[j]?) → Q σ' H'
end
abbrev DG (X : Cx) (e : Expr) (S : List Nat) (F : D → Gam → Option Gam) : Prop := PG X e (tG X.K S F)
abbrev DGs (X : Cx) (es : List Expr) (S : List Nat) (F : List D → Gam → Option Gam) : Prop := PGs X es (tGs X.K S F)
theorem PGimp {X : Cx} {e : Expr} {t t' : TG} (h : PG X e t) (k : ∀ v σ H Q, t' v σ H Q → t v σ H Q) : PG X e t' := ⟨fun pins s σ H v u Q I r q => h.run pins s σ H v u Q I r (k v σ H Q q)⟩
theorem PGor {X : Cx} {e : Expr} {t t' : TG} (h : PG X e t) (h' : PG X e t') : PG X e (fun v σ H Q => t v σ H Q ∨ t' v σ H Q) := ⟨fun pins s σ H v u Q I r q => q.elim (h.run pins s σ H v u Q I r) (h'.run pins s σ H v u Q I r)⟩
theorem PGsimp {X : Cx} {es : List Expr} {t t' : TGs} (h : PGs X es t) (k : ∀ v σ H Q, t' v σ H Q → t v σ H Q) : PGs X es t' := ⟨fun pins s σ H v u Q I r q => h.run pins s σ H v u Q I r (k v σ H Q q)⟩
section
variable {X : Cx} {W : WX} {pos : Pos} {e : Expr} {es : List Expr} {S S' : List Nat}
def pNm (i : Nat) : D → Gam → Option Gam := fun d => setC i (.sh d)
def pNil : List D → Gam → Option Gam := fun ds Γ => match ds with
  | [] => some Γ
  | _ => none
def pCons (F : D → Gam → Option Gam) (G : List D → Gam → Option Gam) : List D → Gam → Option Gam := fun ds Γ => match ds with
  | d :: ds => match F d Γ with
    | some Γ1 => G ds Γ1
    | none => none
  | [] => none
def pTup (n : Nat) (F : List D → Gam → Option Gam) : D → Gam → Option Gam := fun d Γ => match d with
  | .node .tup ds => if ds.length = n then F ds Γ else none
  | .node .lst ds => if ds.length = n then F ds Γ else none
  | _ => none
theorem dg_name (i : Nat) {x : Str} (hN : X.N.Nodup) (hi : X.N[i]? = some x := by rfl) (hx : Loc X.env.scope x := by first | exact Or.inl rfl | exact Or.inr rfl) (hf : X.fn x = true ∨ X.env.scope.names.lookup x = some .local := by first | exact .inl rfl | exact .inr rfl | assumption) : DG X (.Name x pos) [i] (pNm i) := by
  refine PGimp (pg_name hN hi hx hf) fun v σ H Q h => ?_
  obtain ⟨f, M, τ, T, Γ, d, Γ', nb, G, r, hF, q⟩ := h
  exact q _ H M ((G.pushSh r).setS trivial nb hF) ⟨List.length_set, fun j hj => by rw [List.getElem?_set_ne (fun z => hj (by rw [z]; exact List.mem_singleton_self _))]⟩
theorem dgs_nil : DGs X [] [] pNil := by
  refine PGsimp pgs_nil fun vs σ H Q h => ?_
  obtain ⟨f, M, τ, T, Γ, ds, Γ', nb, G, r, hF, q⟩ := h
  unfold pNil at hF
  split at hF
  · cases hF
    exact ⟨r.nil_of, q σ H M G ⟨rfl, fun _ _ => rfl⟩⟩
  · cases hF
theorem dgs_cons {F : D → Gam → Option Gam} {G : List D → Gam → Option Gam} (h1 : DG X e S F) (h2 : DGs X es S' G) (hs : (assignEach (e :: es) X.env).map (·.2) = assign e X.env :: (assignEach es X.env).map (·.2) := by rfl) : DGs X (e :: es) (S ++ S') (pCons F G) := by
  refine PGsimp (pgs_cons h1 h2 hs) fun vs σ H Q h => ?_
  obtain ⟨f, M, τ, T, Γ, ds, Γ', nb, g, r, hF, q⟩ := h
  unfold pCons at hF
  split at hF
  · rename_i d ds
    split at hF
    · rename_i Γ1 h1
      obtain ⟨x, xs, rfl, r1, r2⟩ := r.cons_of
      refine ⟨x, xs, rfl, f.at M, M, τ, T, Γ, d, Γ1, nb, g.inner, r1, h1, fun σ1 H1 M1 G1 e1 => ?_⟩
      refine ⟨f, M1, τ, T, Γ1, ds, Γ', nb, g.outer G1, Reps.mono G1.m0 _ _ r2, hF, fun σ2 H2 M2 G2 e2 => q σ2 H2 M2 G2 ⟨e2.1.trans e1.1, fun j hj => ?_⟩⟩
      rw [List.mem_append] at hj
      exact (e2.2 j fun z => hj (.inr z)).trans (e1.2 j fun z => hj (.inl z))
    · cases hF
  · cases hF
theorem dg_tup {k : Nat} {G : List D → Gam → Option Gam} {n : Nat} (h : DGs X es S G) (hc : X.calm = true := by rfl) (hn : (assignEach es X.env).length = n := by rfl) (hst : (assignEach es X.env).findIdx? (·.1) = none := by rfl) : DG X (.Tuple es k pos) S (pTup n G) := by
  refine PGimp (PGor (pg_tup (n := n) hc h hn hst) (pg_lst (n := n) hc h hn hst)) fun v σ H Q hh => ?_
  obtain ⟨f, M, τ, T, Γ, d, Γ', nb, g, r, hF, q⟩ := hh
  unfold pTup at hF
  split at hF
  · rename_i ds
    split at hF
    · rename_i hl
      unfold Rep at r
      obtain ⟨a, xs, rfl, ho, rs⟩ := r
      exact .inl ⟨a, xs, rfl, g.sub.sqt ho, by rw [rs.length]; exact hl, f, M, τ, T, Γ, ds, Γ', nb, g, rs, hF, q⟩
    · cases hF
  · rename_i ds
    split at hF
    · rename_i hl
      unfold Rep at r
      obtain ⟨a, xs, rfl, ho, rs⟩ := r
      exact .inr ⟨a, xs, rfl, SqL.of (g.sub _ _ ho), by rw [rs.length]; exact hl, f, M, τ, T, Γ, ds, Γ', nb, g, rs, hF, q⟩
    · cases hF
  · cases hF
/-- target = value, shared -/
def sAsg (P : D → Gam → Option Gam) (A : EF) : GS := bindS (eKeep A) fun c Γ => match c with
  | .sh d => match P d Γ with
    | some Γ' => some (.nx Γ')
    | none => none
  | _ => none
theorem ds_asg {tg : Expr} {P : D → Gam → Option Gam} {A : EF} (he : DE X W e A) (hg : DG X tg S P) (hs : swapsWithSole [tg] e pos.line X.env = pure false := by rfl) (hw : swappedStores [tg] e X.env = pure none := by rfl)
    (h1 : (assignEach [tg] X.env).map (·.2) = [assign tg X.env] := by rfl) : DS X W (.Assign [tg] e pos) (sAsg P A) := by
  refine PSimp (ps_asg (de_keep he) hg hs hw h1) fun D σ H h => ?_
  refine runS h fun f c Γ1 v H1 M1 o G1 hk p => ?_
  split at hk
  · rename_i d
    split at hk
    · rename_i Γ2 h2
      cases hk
      exact ⟨f, M1, [], [], Γ1, d, Γ2, NoBr.nil, G1.pop, G1.ok (.inl 0) v _ rfl, h2, fun σ' H' M' G' _ => p σ' H' M' G'⟩
    · cases hk
  · cases hk
end

/-! ### what is walked -/
inductive ResD where
  | val (ds : List D)
  | exc (x : Exc)
abbrev IF := Gam → Option (ResD × Gam)
section
variable (K : PySem.W.Frag)
def YOk (M H : Hp) (x : V) (H' : Hp) (d : D) : Prop := (H' = H ∧ Rep K M x d) ∨ ∃ p xs es, H p = none ∧ x = .ref p ∧ H' = upd H p (.tup xs) ∧ Reps K M xs es ∧ d = .node .tup es
def Yl (J : It) (M : Hp) (ds : List D) : Prop := ∀ i H, Sub M H → (∀ d, ds[i]? = some d → J.go i H ∧ ∀ x H', J.yld i H x H' → YOk K M H x H' d) ∧ (i = ds.length → J.stop i H)
def tI (W : WX) (F : IF) : TI := fun σ H R => ∃ f M τ T Γ r Γ', Good K f M H τ T σ Γ ∧ F Γ = some (r, Γ') ∧ match r with
  | .val ds => ∀ J H' M', Good K f M' H' τ T σ Γ' → Yl K J M' ds → R J H'
  | .exc x => PostX K W f τ T σ x Γ'
end
abbrev DI (X : Cx) (W : WX) (tg e : Expr) (F : IF) : Prop := PI X tg e (tI X.K W F)
theorem PIimp {X : Cx} {tg e : Expr} {t t' : TI} (h : PI X tg e t) (k : ∀ σ H R, t' σ H R → t σ H R) : PI X tg e t' := ⟨fun pins s σ H R I q => h.run pins s σ H R I (k σ H R q)⟩
theorem PIor {X : Cx} {tg e : Expr} {t t' : TI} (h : PI X tg e t) (h' : PI X tg e t') : PI X tg e (fun σ H R => t σ H R ∨ t' σ H R) := ⟨fun pins s σ H R I q => q.elim (h.run pins s σ H R I) (h'.run pins s σ H R I)⟩
section
variable {K : PySem.W.Frag} {M : Hp}
theorem Yl.list {a : Addr} {xs : List V} {ds : List D} (h : SqL K M a xs) (r : Reps K M xs ds) : Yl K (Itl K a) M ds := fun i H s => ⟨fun d e => by
    obtain ⟨x, ex, rx⟩ := r.get e
    refine ⟨⟨xs, x, s.sql h, ex⟩, fun y H' hy => .inl ⟨hy.1, ?_⟩⟩
    have := hy.2 xs (s.sql h)
    rw [ex] at this
    cases this
    exact rx, fun e => ⟨xs, s.sql h, by rw [r.length, e]; exact Nat.le_refl _⟩⟩
theorem Yl.tup {a : Addr} {xs : List V} {ds : List D} (h : SqT K M a xs) (r : Reps K M xs ds) : Yl K (Itt K a) M ds := fun i H s => ⟨fun d e => by
    obtain ⟨x, ex, rx⟩ := r.get e
    refine ⟨⟨xs, x, s.sqt h, ex⟩, fun y H' hy => .inl ⟨hy.1, ?_⟩⟩
    have := hy.2 xs (s.sqt h)
    rw [ex] at this
    cases this
    exact rx, fun e => ⟨xs, s.sqt h, by rw [r.length, e]; exact Nat.le_refl _⟩⟩
def rangeD (lo : Int) (n : Nat) : List D := (List.range n).map fun (i : Nat) => D.int (lo + (i : Int))
theorem Yl.range {lo : Int} {n : Nat} : Yl K (Itr lo n) M (rangeD lo n) := fun i H s => by
  refine ⟨fun d e => ?_, fun e => ?_⟩
  · unfold rangeD at e
    rw [List.getElem?_map] at e
    by_cases hi : i < n
    · rw [List.getElem?_range hi] at e
      cases e
      exact ⟨hi, fun y H' hy => .inl ⟨hy.1, by unfold Rep; exact hy.2⟩⟩
    · rw [List.getElem?_eq_none (by rw [List.length_range]; omega)] at e
      cases e
  · show n ≤ i
    rw [e]
    unfold rangeD
    rw [List.length_map, List.length_range]
    exact Nat.le_refl _
def signsD (x : Str) : List D := x.cps.toList.map fun c => D.str ⟨#[c]⟩
theorem Yl.signs {x : Str} : Yl K (Its x) M (signsD x) := fun i H s => by
  refine ⟨fun d e => ?_, fun e => ?_⟩
  · unfold signsD at e
    rw [List.getElem?_map] at e
    cases hc : x.cps.toList[i]? with
    | none => rw [hc] at e; cases e
    | some c =>
      rw [hc] at e
      cases e
      have hl := lt_of_get hc
      refine ⟨?_, fun y H' hy => .inl ⟨hy.1, ?_⟩⟩
      · show i < x.cps.size
        simpa using hl
      obtain ⟨c', h1, h2⟩ := hy.2
      have : x.cps[i]? = some c := by simpa using hc
      rw [this] at h1
      cases h1
      unfold Rep
      exact h2
  · show x.cps.size ≤ i
    rw [e]
    unfold signsD
    rw [List.length_map]
    simp
end
section
variable {X : Cx} {W : WX} {pos p : Pos} {e tg : Expr} {A : EF} {L : AF}
/-- a list, a tuple, a text -/
def iSeq (A : EF) : IF := fun Γ => match eKeep A Γ with
  | some (.val (.sh d), Γ1) => (match d with
    | .node .lst ds => some (.val ds, Γ1)
    | .node .scr ds => some (.val ds, Γ1)
    | .node .tup ds => some (.val ds, Γ1)
    | .leaf (.str x) => some (.val (signsD x), Γ1)
    | _ => none)
  | some (.exc x, Γ1) => some (.exc x, Γ1)
  | _ => none
theorem di_seq (he : DE X W e A) : DI X W tg e (iSeq A) := by
  have hk := de_keep he
  refine PIimp (PIor (PIor (pi_list hk) (pi_tup hk)) (pi_str hk)) fun σ H R h => ?_
  obtain ⟨f, M, τ, T, Γ, r, Γ', G, hF, p⟩ := h
  unfold iSeq at hF
  split at hF
  · rename_i d Γ1 hA
    split at hF
    · rename_i ds
      cases hF
      refine .inl (.inl ⟨f, M, τ, T, Γ, _, Γ', G, hA, fun v H1 M1 G1 => ?_⟩)
      have r : Rep X.K M1 v (.node .lst ds) := G1.ok (.inl 0) v _ rfl
      unfold Rep at r
      obtain ⟨a, xs, rfl, ho, rs⟩ := r
      exact ⟨a, rfl, ⟨xs, SqL.of (G1.sub _ _ ho)⟩, p _ _ M1 G1.pop (Yl.list (SqL.of ho) rs)⟩
    · rename_i ds
      cases hF
      refine .inl (.inl ⟨f, M, τ, T, Γ, _, Γ', G, hA, fun v H1 M1 G1 => ?_⟩)
      have r : Rep X.K M1 v (.node .scr ds) := G1.ok (.inl 0) v _ rfl
      unfold Rep at r
      obtain ⟨a, xs, rfl, ho, rs⟩ := r
      exact ⟨a, rfl, ⟨xs, G1.sub.sql ho⟩, p _ _ M1 G1.pop (Yl.list ho rs)⟩
    · rename_i ds
      cases hF
      refine .inl (.inr ⟨f, M, τ, T, Γ, _, Γ', G, hA, fun v H1 M1 G1 => ?_⟩)
      have r : Rep X.K M1 v (.node .tup ds) := G1.ok (.inl 0) v _ rfl
      unfold Rep at r
      obtain ⟨a, xs, rfl, ho, rs⟩ := r
      exact ⟨a, rfl, ⟨xs, G1.sub.sqt ho⟩, p _ _ M1 G1.pop (Yl.tup ho rs)⟩
    · rename_i x
      cases hF
      refine .inr ⟨f, M, τ, T, Γ, _, Γ', G, hA, fun v H1 M1 G1 => ?_⟩
      have r : Rep X.K M1 v (.leaf (.str x)) := G1.ok (.inl 0) v _ rfl
      unfold Rep at r
      exact ⟨x, r, p _ _ M1 G1.pop Yl.signs⟩
    · cases hF
  · rename_i x Γ1 hA
    cases hF
    exact .inl (.inl ⟨f, M, τ, T, Γ, _, Γ', G, hA, p⟩)
  · cases hF
/-- a walk made of shared arguments -/
def iOfL (g : List D → Option (List D)) (L : AF) : IF := fun Γ => match L Γ with
  | some (.val cs, Γ1) => (match shs cs with
    | some ds => match g ds with
      | some es => some (.val es, Γ1)
      | none => none
    | none => none)
  | some (.exc x, Γ1) => some (.exc x, Γ1)
  | none => none
theorem il_core {g : List D → Option (List D)} {σ : L2.St} {H : Hp} {R : It → Hp → Prop} {R' : List V → Hp → Prop} (h : tI X.K W (iOfL g L) σ H R)
    (k : ∀ M H vs ds es, Sub M H → Reps X.K M vs ds → g ds = some es → (∀ J, Yl X.K J M es → R J H) → R' vs H) : tL X.K W L σ H R' := by
  obtain ⟨f, M, τ, T, Γ, r, Γ', G, hF, p⟩ := h
  unfold iOfL at hF
  split at hF
  · rename_i cs Γ1 hA
    split at hF
    · rename_i ds hd
      split at hF
      · rename_i es he
        cases hF
        refine ⟨f, M, τ, T, Γ, _, Γ', G, hA, fun vs H1 M1 hl G1 => ?_⟩
        obtain ⟨rs, G2⟩ := G1.shs hl hd
        exact k M1 H1 vs ds es G2.sub rs he fun J hJ => p J H1 M1 G2 hJ
      · cases hF
    · cases hF
  · rename_i x Γ1 hA
    cases hF
    exact ⟨f, M, τ, T, Γ, _, Γ', G, hA, p⟩
  · cases hF
def gRange1 : List D → Option (List D)
  | [.leaf (.int j)] => if -4611686018427387904 ≤ j ∧ j < 4611686018427387904 then some (rangeD 0 j.toNat) else none
  | _ => none
def gRange2 : List D → Option (List D)
  | [.leaf (.int i), .leaf (.int j)] => if (-4611686018427387904 ≤ i ∧ i < 4611686018427387904) ∧ -4611686018427387904 ≤ j ∧ j < 4611686018427387904 then some (rangeD i (j - i).toNat) else none
  | _ => none
theorem Reps.one {K : PySem.W.Frag} {M : Hp} {vs : List V} {u : V} (r : Reps K M vs [.leaf u]) : vs = [u] := by
  obtain ⟨x, xs, rfl, r1, r2⟩ := r.cons_of
  unfold Rep at r1
  rw [r1, r2.nil_of]
theorem Reps.two {K : PySem.W.Frag} {M : Hp} {vs : List V} {u w : V} (r : Reps K M vs [.leaf u, .leaf w]) : vs = [u, w] := by
  obtain ⟨x, xs, rfl, r1, r2⟩ := r.cons_of
  unfold Rep at r1
  rw [r1, r2.one]
theorem di_range1 {a : Expr} (ha : DA X W [a] L) (hm : X.mg "range" = none) (hg : Gl X "range" := by rfl) (hs : starEach [a] X.env = [(false, eval a X.env)] := by rfl) : DI X W tg (.Call (.Name "range" p) [a] [] pos) (iOfL gRange1 L) := by
  refine PIimp (pi_range1 hg hm ha hs) fun σ H R h => il_core h fun M H vs ds es s rs he q => ?_
  unfold gRange1 at he
  split at he
  · rename_i j
    split at he
    · rename_i hj
      cases he
      exact ⟨j, rs.one, hj.1, hj.2, q _ Yl.range⟩
    · cases he
  · cases he
theorem di_range2 {a b : Expr} (ha : DA X W [a, b] L) (hm : X.mg "range" = none) (hg : Gl X "range" := by rfl) (hs : starEach [a, b] X.env = [(false, eval a X.env), (false, eval b X.env)] := by rfl) (hs2 : starEach [b] X.env = [(false, eval b X.env)] := by rfl) : DI X W tg (.Call (.Name "range" p) [a, b] [] pos) (iOfL gRange2 L) := by
  refine PIimp (pi_range2 hg hm ha hs hs2) fun σ H R h => il_core h fun M H vs ds es s rs he q => ?_
  unfold gRange2 at he
  split at he
  · rename_i i j
    split at he
    · rename_i hj
      cases he
      exact ⟨i, j, rs.two, ⟨hj.1.1, hj.1.2, hj.2.1, hj.2.2⟩, q _ Yl.range⟩
    · cases he
  · cases he
end

/-! ### for -/
def forD (P : D → Gam → Option Gam) (B : GS) : List D → GS
  | [], Γ => some (.nx Γ)
  | d :: r, Γ => match P d Γ with
    | some Γ1 => (match B Γ1 with
      | some (.nx Γ2) => forD P B r Γ2
      | some (.ct Γ2) => forD P B r Γ2
      | some (.bk Γ2) => some (.nx Γ2)
      | o => o)
    | none => none
def sFor (I : IF) (P : D → Gam → Option Gam) (B : GS) : GS := fun Γ => match I Γ with
  | some (.val ds, Γ1) => forD P B ds Γ1
  | some (.exc x, Γ1) => some (.xc x Γ1)
  | none => none
theorem Good.yield {K : PySem.W.Frag} {f : Frm} {M H H' : Hp} {τ : List V} {T : List Cell} {σ : L2.St} {Γ : Gam} {x : V} {d : D} (G : Good K f M H τ T σ Γ) (y : YOk K M H x H' d) : ∃ M', Sub M M' ∧ Good K f M' H' τ T σ Γ ∧ Rep K M' x d := by
  rcases y with ⟨rfl, r⟩ | ⟨p, xs, es, hn, rfl, rfl, rs, rfl⟩
  · exact ⟨M, Sub.refl M, G, r⟩
  · obtain ⟨M', G'⟩ := (G.inner).allocF hn rs
    exact ⟨M', G'.m0, (G.outer G').pop, G'.ok (.inl 0) _ _ rfl⟩
theorem ds_for {X : Cx} {W : WX} {tg iter : Expr} {body : List Stmt} {I : IF} {S : List Nat} {P : D → Gam → Option Gam} {B : GS} {pos : Pos} (hi : DI X W tg iter I) (hg : DG X tg S P) (hb : DSs X W body B) (hp : PassesOwn (model X.prog X.w) X.A X.env X.xe) (hc : X.calm = true := by rfl)
    (hs : ∀ x, foldedSetIterable iter X.env x = pure x := by intro _; rfl) : DS X W (.For tg iter body [] pos) (sFor I P B) := by
  refine PSimp (ps_for hp hc hi hg hb hs) fun D σ H h => ?_
  obtain ⟨f, M, Γ, o, G, hG, p⟩ := h
  unfold sFor at hG
  split at hG
  · rename_i ds Γ1 hI
    refine ⟨f, M, [], [], Γ, .val ds, Γ1, G, hI, fun J H1 M1 G1 hJ => ?_⟩
    refine ⟨fun i m σ H => m = ds.length - i ∧ i ≤ ds.length ∧ ∃ M2 Γ2, Good X.K (f.at M1) M2 H [] [] σ Γ2 ∧ forD P B (ds.drop i) Γ2 = some o, ⟨ds.length, by simp, Nat.zero_le _, M1, Γ1, G1.inner, hG⟩, ?_⟩
    rintro i m σ2 H2 ⟨rfl, hi, M2, Γ2, G2, e2⟩
    obtain ⟨go, stop⟩ := hJ i H2 (G2.m0.trans G2.sub)
    by_cases hlt : i < ds.length
    · have hd : ds[i]? = some ds[i] := List.getElem?_eq_getElem hlt
      obtain ⟨g, y⟩ := go _ hd
      refine .inr ⟨g, fun σ' H' => ∃ M2 Γ2, Good X.K (f.at M1) M2 H' [] [] σ' Γ2 ∧ forD P B (ds.drop (i + 1)) Γ2 = some o, fun σ' H' hN => ⟨ds.length - (i + 1), by omega, rfl, hlt, hN⟩, fun x H' hy => ?_⟩
      have hdrop : ds.drop i = ds[i] :: ds.drop (i + 1) := List.drop_eq_getElem_cons hlt
      rw [hdrop] at e2
      unfold forD at e2
      split at e2
      · rename_i Γ3 h3
        have y' : YOk X.K M2 H2 x H' ds[i] := by
          rcases y x H' hy with ⟨a, b⟩ | ⟨q, xs, es, a, b, c, d, e⟩
          · exact .inl ⟨a, Rep.mono G2.m0 _ _ b⟩
          · exact .inr ⟨q, xs, es, a, b, c, Reps.mono G2.m0 _ _ d, e⟩
        obtain ⟨M3, _, G3, r3⟩ := G2.yield y'
        refine ⟨f.at M1, M3, [], [], Γ2, ds[i], Γ3, NoBr.nil, G3, r3, h3, fun σ4 H4 M4 G4 _ => ?_⟩
        cases hB : B Γ3 with
        | none => rw [hB] at e2; cases e2
        | some b =>
          rw [hB] at e2
          cases b with
          | nx Γ4 => exact ⟨f.at M1, M4, Γ3, _, G4, hB, fun σ' H' M' G' => ⟨M', Γ4, G', e2⟩⟩
          | ct Γ4 => exact ⟨f.at M1, M4, Γ3, _, G4, hB, fun σ' H' M' G' => ⟨M', Γ4, G', e2⟩⟩
          | bk Γ4 =>
            cases e2
            exact ⟨f.at M1, M4, Γ3, _, G4, hB, fun σ' H' M' G' => p σ' H' M' (G1.outer G')⟩
          | rt c Γ4 =>
            cases e2
            exact ⟨f.at M1, M4, Γ3, _, G4, hB, fun v σ' H' M' G' => p v σ' H' M' (G1.outer G')⟩
          | xc x Γ4 =>
            cases e2
            exact ⟨f.at M1, M4, Γ3, _, G4, hB, fun σ' d H' M' G' hx => p σ' d H' M' (G1.outer G') hx⟩
      · cases e2
    · have e : i = ds.length := by omega
      refine .inl ⟨stop e, ?_⟩
      rw [e, List.drop_length] at e2
      cases e2
      exact p σ2 H2 M2 (G1.outer G2)
  · rename_i x Γ1 hI
    cases hG
    exact ⟨f, M, [], [], Γ, .exc x, Γ1, G, hI, p σ⟩
  · cases hG

/-! ### while -/
def whileN (t : TF) (B : GS) : Nat → GS
  | 0, _ => none
  | n + 1, Γ => match t Γ with
    | some (.val true, Γ1) => (match B Γ1 with
      | some (.nx Γ2) => whileN t B n Γ2
      | some (.ct Γ2) => whileN t B n Γ2
      | some (.bk Γ2) => some (.nx Γ2)
      | o => o)
    | some (.val false, Γ1) => some (.nx Γ1)
    | some (.exc x, Γ1) => some (.xc x Γ1)
    | none => none
theorem whileN_succ {t : TF} {B : GS} : ∀ {n : Nat} {Γ : Gam} {o : Fl}, whileN t B n Γ = some o → whileN t B (n + 1) Γ = some o := by
  intro n
  induction n with
  | zero => intro Γ o h; cases h
  | succ n ih =>
    intro Γ o h
    unfold whileN at h ⊢
    cases ht : t Γ with
    | none => rw [ht] at h; cases h
    | some q =>
      obtain ⟨r, Γ1⟩ := q
      rw [ht] at h
      cases r with
      | exc x => exact h
      | val b =>
        cases b with
        | false => exact h
        | true =>
          dsimp only at h ⊢
          cases hB : B Γ1 with
          | none => rw [hB] at h; cases h
          | some z =>
            rw [hB] at h
            cases z with
            | nx Γ2 => exact ih h
            | ct Γ2 => exact ih h
            | bk Γ2 => exact h
            | rt c Γ2 => exact h
            | xc x Γ2 => exact h
theorem whileN_le {t : TF} {B : GS} {n m : Nat} {Γ : Gam} {o : Fl} (h : whileN t B n Γ = some o) (hl : n ≤ m) : whileN t B m Γ = some o := by
  obtain ⟨k, rfl⟩ := Nat.exists_eq_add_of_le hl
  clear hl
  induction k with
  | zero => exact h
  | succ k ih => exact whileN_succ ih
open Classical in
/-- the while's outcome, if it comes to one -/
noncomputable def sWhile (t : TF) (B : GS) : GS := fun Γ => if h : ∃ n o, whileN t B n Γ = some o then some (Classical.choose (Classical.choose_spec h)) else none
theorem sWhile_of {t : TF} {B : GS} {n : Nat} {Γ : Gam} {o : Fl} (h : whileN t B n Γ = some o) : sWhile t B Γ = some o := by
  have hx : ∃ n o, whileN t B n Γ = some o := ⟨n, o, h⟩
  unfold sWhile
  rw [dif_pos hx]
  have h1 := Classical.choose_spec (Classical.choose_spec hx)
  have a := whileN_le h1 (Nat.le_max_left _ n)
  have b := whileN_le h (Nat.le_max_right (Classical.choose hx) n)
  rw [a] at b
  exact b
theorem sWhile_to {t : TF} {B : GS} {Γ : Gam} {o : Fl} (h : sWhile t B Γ = some o) : ∃ n, whileN t B n Γ = some o := by
  unfold sWhile at h
  split at h
  · rename_i hx
    refine ⟨Classical.choose hx, ?_⟩
    have h1 := Classical.choose_spec (Classical.choose_spec hx)
    rw [h1]
    exact h
  · cases h
/-- one turn -/
theorem sWhile_eq (t : TF) (B : GS) (Γ : Gam) : sWhile t B Γ = match t Γ with
    | some (.val true, Γ1) => (match B Γ1 with
      | some (.nx Γ2) => sWhile t B Γ2
      | some (.ct Γ2) => sWhile t B Γ2
      | some (.bk Γ2) => some (.nx Γ2)
      | o => o)
    | some (.val false, Γ1) => some (.nx Γ1)
    | some (.exc x, Γ1) => some (.xc x Γ1)
    | none => none := by
  have one : ∀ n o, whileN t B (n + 1) Γ = some o → (match t Γ with
    | some (.val true, Γ1) => (match B Γ1 with
      | some (.nx Γ2) => sWhile t B Γ2
      | some (.ct Γ2) => sWhile t B Γ2
      | some (.bk Γ2) => some (.nx Γ2)
      | o => o)
    | some (.val false, Γ1) => some (.nx Γ1)
    | some (.exc x, Γ1) => some (.xc x Γ1)
    | none => none) = some o := fun n o h => by
    unfold whileN at h
    split at h
    · rename_i Γ1 h1
      split at h
      · rename_i Γ2 h2; exact sWhile_of h
      · rename_i Γ2 h2; exact sWhile_of h
      · exact h
      · exact h
    · exact h
    · exact h
    · cases h
  cases hw : sWhile t B Γ with
  | some o =>
    obtain ⟨n, hn⟩ := sWhile_to hw
    cases n with
    | zero => cases hn
    | succ n => exact (one n o hn).symm
  | none =>
    have no : ∀ n o, whileN t B n Γ ≠ some o := fun n o h => by rw [sWhile_of h] at hw; cases hw
    split
    · rename_i Γ1 h1
      split
      · rename_i Γ2 h2
        cases h3 : sWhile t B Γ2 with
        | none => rfl
        | some o =>
          obtain ⟨n, hn⟩ := sWhile_to h3
          exact (no (n + 1) o (by unfold whileN; rw [h1]; dsimp only; rw [h2]; exact hn)).elim
      · rename_i Γ2 h2
        cases h3 : sWhile t B Γ2 with
        | none => rfl
        | some o =>
          obtain ⟨n, hn⟩ := sWhile_to h3
          exact (no (n + 1) o (by unfold whileN; rw [h1]; dsimp only; rw [h2]; exact hn)).elim
      · rename_i Γ2 h2
        exact (no 1 _ (by unfold whileN; rw [h1]; dsimp only; rw [h2])).elim
      · rename_i h4 h5 h6
        cases hB : B Γ1 with
        | none => rfl
        | some b =>
          cases b with
          | nx Γ2 => exact (h4 Γ2 hB).elim
          | ct Γ2 => exact (h5 Γ2 hB).elim
          | bk Γ2 => exact (h6 Γ2 hB).elim
          | rt c Γ2 => exact (no 1 _ (by unfold whileN; rw [h1]; dsimp only; rw [hB])).elim
          | xc x Γ2 => exact (no 1 _ (by unfold whileN; rw [h1]; dsimp only; rw [hB])).elim
    · rename_i Γ1 h1
      exact (no 1 _ (by unfold whileN; rw [h1])).elim
    · rename_i x Γ1 h1
      exact (no 1 _ (by unfold whileN; rw [h1])).elim
    · rfl
theorem ds_while {X : Cx} {W : WX} {c : Expr} {body : List Stmt} {t : TF} {B : GS} {pos : Pos} (hc : DT X W c t) (hb : DSs X W body B) (hp : PassesOwn (model X.prog X.w) X.A X.env X.xe) : DS X W (.While c body [] pos) (sWhile t B) := by
  refine PSimp (ps_while hp hc hb) fun D σ H h => ?_
  obtain ⟨f, M, Γ, o, G, hG, p⟩ := h
  obtain ⟨n, hn⟩ := sWhile_to hG
  refine ⟨fun m σ H => ∃ M Γ, Good X.K f M H [] [] σ Γ ∧ whileN t B m Γ = some o, ⟨n, M, Γ, G, hn⟩, ?_⟩
  rintro m σ1 H1 ⟨M1, Γ1, G1, e1⟩
  cases m with
  | zero => cases e1
  | succ m =>
    unfold whileN at e1
    split at e1
    · rename_i Γ2 h2
      refine ⟨f, M1, [], [], Γ1, _, Γ2, G1, h2, fun H2 M2 G2 => iteT ⟨fun σ H => ∃ M Γ, Good X.K f M H [] [] σ Γ ∧ whileN t B m Γ = some o, fun σ' H' q => ⟨m, Nat.lt_succ_self m, q⟩, ?_⟩⟩
      cases hB : B Γ2 with
      | none => rw [hB] at e1; cases e1
      | some b =>
        rw [hB] at e1
        cases b with
        | nx Γ3 => exact ⟨f, M2, Γ2, _, G2, hB, fun σ' H' M' G' => ⟨M', Γ3, G', e1⟩⟩
        | ct Γ3 => exact ⟨f, M2, Γ2, _, G2, hB, fun σ' H' M' G' => ⟨M', Γ3, G', e1⟩⟩
        | bk Γ3 => cases e1; exact ⟨f, M2, Γ2, _, G2, hB, p⟩
        | rt c Γ3 => cases e1; exact ⟨f, M2, Γ2, _, G2, hB, p⟩
        | xc x Γ3 => cases e1; exact ⟨f, M2, Γ2, _, G2, hB, p⟩
    · rename_i Γ2 h2
      cases e1
      exact ⟨f, M1, [], [], Γ1, _, Γ2, G1, h2, fun H2 M2 G2 => iteF (p σ1 H2 M2 G2)⟩
    · rename_i x Γ2 h2
      cases e1
      exact ⟨f, M1, [], [], Γ1, _, Γ2, G1, h2, p σ1⟩
    · cases e1
end DL

set_option Elab.async false
set_option linter.all false
set_option maxRecDepth 100000
set_option maxHeartbeats 1000000
/-! defs and their calls -/
namespace DL
open PySem PySem.Spec PyProof.Rows L2

/-- a def's mirror: its arguments' cells; what it hands back, and the cells behind it -/
abbrev MF := List Cell → Option (Res × List Cell)
section
variable (K : PySem.W.Frag)
def PostF (f : Frm) (vs : List V) (Q : VK) (E : XK) (r : Res) (T' : List Cell) : Prop :=
  match r with
  | .val c => Solid c ∧ ∀ v H' M', Good K f M' H' (v :: vs) (c :: T') [] [] → Q v H'
  | .exc x => ∀ d H' M', Good K f M' H' vs T' [] [] → XOk K M' d x → E (.ref x.cls) (some d) H'
def spM (n : Nat) (F : MF) : Sp := fun vs H Q E => vs.length = n ∧ ∃ f M T r T', Good K f M H vs T [] [] ∧ F T = some (r, T') ∧ PostF K f vs Q E r T'
end
structure RoomG (k : Nat) (A : Around) : Prop where
  room : Room k A
  gd : A.guards = some []
theorem RoomG.mono {j k : Nat} {A : Around} (r : RoomG k A) (h : j ≤ k) : RoomG j A := ⟨r.room.mono h, r.gd⟩
/-- the def at f does what its mirror says -/
structure FnG (P : Program) (w : World) (K : PySem.W.Frag) (mg : Str → Option Value) (base : Heap) (k : Nat) (f : Addr) (fd : FuncData) (ps : List Str) (F : MF) : Prop where
  run : ∀ (A : Around) (outer : List Env) (s : Shared) (H : Hp) (args : Args) (us : List Value) (vs : List V) (Q : VK) (E : XK), RoomG k A → Env0 P w K mg base A outer s H → BindsTo s fd args (ps.zip us) → Vals vs us → spM K ps.length F vs H Q E →
    codeAny (model P w) A (.call (.ref f) args) (CR (L2.CX P w) outer P w H s Q E) s
theorem FnG.mono {P : Program} {w : World} {K : PySem.W.Frag} {mg : Str → Option Value} {base : Heap} {j k : Nat} {f : Addr} {fd : FuncData} {ps : List Str} {F : MF} (h : FnG P w K mg base j f fd ps F) (l : j ≤ k) : FnG P w K mg base k f fd ps F :=
  ⟨fun A outer s H args us vs Q E r => h.run A outer s H args us vs Q E (r.mono l)⟩

/-! ### arguments as a callee gets them -/
/-- b: the slot whose object is lent, and its place among the arguments -/
def argsC (Γ : Gam) : List Cell → Option (List Cell × Option (Nat × Nat))
  | [] => some ([], none)
  | .sh d :: cs => match argsC Γ cs with
    | some (T, b) => some (.sh d :: T, b.map fun p => (p.1, p.2 + 1))
    | none => none
  | .br i :: cs => match argsC Γ cs with
    | some (T, b) => (match Γ[i]? with
      | some (some (.sh d)) => some (.sh d :: T, b.map fun p => (p.1, p.2 + 1))
      | some (some (.ow t ds)) => (match b with
        | none => some (.ow t ds :: T, some (i, 0))
        | some _ => none)
      | some (some (.rf t ds)) => (match b with
        | none => some (.ow t ds :: T, some (i, 0))
        | some _ => none)
      | _ => none)
    | none => none
  | _ :: _ => none
/-- the object lent out, behind the call -/
def putB (Γ : Gam) (b : Option (Nat × Nat)) (T' : List Cell) : Option Gam := match b with
  | none => some Γ
  | some (i, j) => match T'[j]? with
    | some (.ow t ds) => (match Γ[i]? with
      | some (some (.ow _ _)) => some (Γ.set i (some (.ow t ds)))
      | some (some (.rf _ _)) => some (Γ.set i (some (.rf t ds)))
      | _ => none)
    | _ => none
def eCall (m : MF) (dfl : List D) (L : AF) : EF := bindL L fun cs Γ => match argsC Γ cs with
  | some (T, b) => (match m (T ++ dfl.map .sh) with
    | some (r, T') => (match putB Γ b T' with
      | some Γ' => (match r with
        | .val c => some (.val c, Γ')
        | .exc x => some (.exc x, Γ'))
      | none => none)
    | none => none)
  | none => none

theorem argsC_sh {K : PySem.W.Frag} {M : Hp} {σ : L2.St} {Γ : Gam} {T1 : List Cell} {b1 : Option (Nat × Nat)} {v : V} {vs : List V} {d : D} (r0 : Rep K M v d) (l1 : T1.length = vs.length)
    (k1 : ∀ (j : Nat) (v : V) (c : Cell), vs[j]? = some v → T1[j]? = some c → (∃ d, c = .sh d ∧ Rep K M v d) ∨ ∃ t ds i, c = .ow t ds ∧ b1 = some (i, j) ∧ σ[i]? = some (some v) ∧ (Γ[i]? = some (some (.ow t ds)) ∨ Γ[i]? = some (some (.rf t ds))))
    (n1 : ∀ i j, b1 = some (i, j) → ∃ t ds, T1[j]? = some (Cell.ow t ds)) :
    (Cell.sh d :: T1).length = (v :: vs).length ∧ (∀ (j : Nat) (u : V) (c : Cell), (v :: vs)[j]? = some u → (Cell.sh d :: T1)[j]? = some c → (∃ d, c = .sh d ∧ Rep K M u d) ∨ ∃ t ds i, c = .ow t ds ∧ (b1.map fun p => (p.1, p.2 + 1)) = some (i, j) ∧ σ[i]? = some (some u) ∧ (Γ[i]? = some (some (.ow t ds)) ∨ Γ[i]? = some (some (.rf t ds)))) ∧
      (∀ i j, (b1.map fun p => (p.1, p.2 + 1)) = some (i, j) → ∃ t ds, (Cell.sh d :: T1)[j]? = some (Cell.ow t ds)) := by
  refine ⟨by rw [List.length_cons, List.length_cons, l1], fun j u e q r => ?_, fun i j e => ?_⟩
  · cases j with
    | zero => cases q; cases r; exact .inl ⟨d, rfl, r0⟩
    | succ j =>
      rcases k1 j u e q r with z | ⟨t, ds, i, e1, e2, e3⟩
      · exact .inl z
      · exact .inr ⟨t, ds, i, e1, by rw [e2]; rfl, e3⟩
  · cases b1 with
    | none => cases e
    | some p =>
      cases e
      exact n1 p.1 p.2 rfl
theorem argsC_ow {K : PySem.W.Frag} {M : Hp} {σ : L2.St} {Γ : Gam} {T1 : List Cell} {v : V} {vs : List V} {i : Nat} {t : Tag} {ds : List D} (hv : σ[i]? = some (some v)) (hg : Γ[i]? = some (some (.ow t ds)) ∨ Γ[i]? = some (some (.rf t ds))) (l1 : T1.length = vs.length)
    (k1 : ∀ (j : Nat) (v : V) (c : Cell), vs[j]? = some v → T1[j]? = some c → (∃ d, c = .sh d ∧ Rep K M v d) ∨ ∃ t ds i, c = .ow t ds ∧ (none : Option (Nat × Nat)) = some (i, j) ∧ σ[i]? = some (some v) ∧ (Γ[i]? = some (some (.ow t ds)) ∨ Γ[i]? = some (some (.rf t ds)))) :
    (Cell.ow t ds :: T1).length = (v :: vs).length ∧ (∀ (j : Nat) (u : V) (c : Cell), (v :: vs)[j]? = some u → (Cell.ow t ds :: T1)[j]? = some c → (∃ d, c = .sh d ∧ Rep K M u d) ∨ ∃ t ds i', c = .ow t ds ∧ some (i, 0) = some (i', j) ∧ σ[i']? = some (some u) ∧ (Γ[i']? = some (some (.ow t ds)) ∨ Γ[i']? = some (some (.rf t ds)))) ∧
      (∀ i' j, some (i, 0) = some (i', j) → ∃ t' ds', (Cell.ow t ds :: T1)[j]? = some (Cell.ow t' ds')) := by
  refine ⟨by rw [List.length_cons, List.length_cons, l1], fun j u e q r => ?_, fun i' j e => ?_⟩
  · cases j with
    | zero => cases q; cases r; exact .inr ⟨t, ds, i, rfl, rfl, hv, hg⟩
    | succ j =>
      rcases k1 j u e q r with z | ⟨_, _, _, _, z, _⟩
      · exact .inl z
      · cases z
  · cases e
    exact ⟨t, ds, rfl⟩
section
variable {K : PySem.W.Frag} {f : Frm} {M H M' H' : Hp} {τ : List V} {T0 T : List Cell} {σ : L2.St} {Γ : Gam} {b : Option (Nat × Nat)}
/-- the cells one by one: shared data, or the one object that is lent -/
theorem argsC_ok (hs : ∀ (i : Nat) (c : Cell), Γ[i]? = some (some c) → ∃ v, σ[i]? = some (some v) ∧ COk K f M H σ v c) : ∀ {cs T : List Cell} {b : Option (Nat × Nat)} {vs : List V}, vs.length = cs.length → (∀ (j : Nat) (v : V) (c : Cell), vs[j]? = some v → cs[j]? = some c → COk K f M H σ v c) → argsC Γ cs = some (T, b) →
    T.length = vs.length ∧ (∀ (j : Nat) (v : V) (c : Cell), vs[j]? = some v → T[j]? = some c → (∃ d, c = .sh d ∧ Rep K M v d) ∨ ∃ t ds i, c = .ow t ds ∧ b = some (i, j) ∧ σ[i]? = some (some v) ∧ (Γ[i]? = some (some (.ow t ds)) ∨ Γ[i]? = some (some (.rf t ds)))) ∧
      (∀ i j, b = some (i, j) → ∃ t ds, T[j]? = some (Cell.ow t ds))
  | [], T, b, vs, hl, _, h => by
    cases h
    have : vs = [] := List.length_eq_zero_iff.mp hl
    subst this
    exact ⟨rfl, fun j v c e => by simp at e, fun i j e => by cases e⟩
  | c :: cs, T, b, [], hl, _, _ => by cases hl
  | .sh d :: cs, T, b, v :: vs, hl, hc, h => by
    unfold argsC at h
    split at h
    · rename_i T1 b1 h1
      cases h
      obtain ⟨l1, k1, n1⟩ := argsC_ok hs (vs := vs) (by simpa using hl) (fun j u e q r => hc (j + 1) u e q r) h1
      exact argsC_sh (hc 0 _ _ rfl rfl) l1 k1 n1
    · cases h
  | .br i :: cs, T, b, v :: vs, hl, hc, h => by
    have hv : σ[i]? = some (some v) := hc 0 v _ rfl rfl
    unfold argsC at h
    split at h
    · rename_i T1 b1 h1
      obtain ⟨l1, k1, n1⟩ := argsC_ok hs (vs := vs) (by simpa using hl) (fun j u e q r => hc (j + 1) u e q r) h1
      split at h
      · rename_i d hg
        cases h
        obtain ⟨v', hv', k⟩ := hs i _ hg
        rw [hv] at hv'; cases hv'
        exact argsC_sh k l1 k1 n1
      · rename_i t ds hg
        split at h
        · cases h
          exact argsC_ow hv (.inl hg) l1 k1
        · cases h
      · rename_i t ds hg
        split at h
        · cases h
          exact argsC_ow hv (.inr hg) l1 k1
        · cases h
      · cases h
    · cases h
  | .ow _ _ :: _, _, _, _ :: _, _, _, h => by cases h
  | .rf _ _ :: _, _, _, _ :: _, _, _, h => by cases h
/-- several pending values gone -/
theorem Good.drop : ∀ {vs : List V} {cs : List Cell} {τ : List V} {T0 : List Cell}, vs.length = cs.length → Good K f M H (vs ++ τ) (cs ++ T0) σ Γ → Good K f M H τ T0 σ Γ
  | [], [], _, _, _, G => G
  | [], _ :: _, _, _, h, _ => by cases h
  | _ :: _, [], _, _, h, _ => by cases h
  | _ :: vs, _ :: cs, _, _, h, G => Good.drop (by simpa using h) (show Good K f M H (vs ++ _) (cs ++ _) σ Γ from G.pop)
/-- the callers' world, as a callee sees it: all that stands but the object that is lent -/
def callB (H : Hp) (o : Option Addr) : Hp := fun a => if o = some a then none else H a
theorem callB_some {H : Hp} {o : Option Addr} {a : Addr} {u : HO} (h : callB H o a = some u) : o ≠ some a ∧ H a = some u := by
  unfold callB at h
  split at h
  · cases h
  · rename_i n; exact ⟨n, h⟩
theorem callB_of {H : Hp} {o : Option Addr} {a : Addr} {u : HO} (n : o ≠ some a) (h : H a = some u) : callB H o a = some u := by
  unfold callB
  rw [if_neg n]
  exact h
theorem OwnOk.frm {f g : Frm} {v : V} {t : Tag} {ds : List D} (h : OwnOk K f M H v t ds) (k : ∀ a, v = .ref a → g.B a = none) : OwnOk K g M H v t ds := by
  obtain ⟨a, xs, e, h1, h2, h3, _⟩ := h
  exact ⟨a, xs, e, h1, h2, h3, k a e⟩
/-- a call from the caller's state: the callee's state, and the way back -/
theorem Good.call {vs : List V} {cs : List Cell} (G : Good K f M H (vs.reverse ++ τ) (cs.reverse ++ T0) σ Γ) (hl : vs.length = cs.length) (h : argsC Γ cs = some (T, b)) {dvs : List V} {dfl : List D} (hd : Reps K M dvs dfl) :
    ∃ fc, Good K fc M H (vs ++ dvs) (T ++ dfl.map .sh) [] [] ∧ ∀ M' H' T' Γ', putB Γ b T' = some Γ' →
      (Good K fc M' H' (vs ++ dvs) T' [] [] → Good K f M' H' τ T0 σ Γ') ∧ ∀ v c, Solid c → Good K fc M' H' (v :: (vs ++ dvs)) (c :: T') [] [] → Good K f M' H' (v :: τ) (c :: T0) σ Γ' := by
  have hlen : vs.reverse.length = cs.reverse.length := by rw [List.length_reverse, List.length_reverse, hl]
  have G0 := G.drop hlen
  have hcs : ∀ (j : Nat) (v : V) (c : Cell), vs[j]? = some v → cs[j]? = some c → COk K f M H σ v c := fun j v c e1 e2 => by
    have l1 := lt_of_get e1
    have l2 := lt_of_get e2
    refine G.ok (.inl (vs.length - 1 - j)) v c (ent_temp.mpr ⟨?_, ?_⟩)
    · rw [List.getElem?_append_left (by rw [List.length_reverse]; omega), List.getElem?_reverse (by omega), show vs.length - 1 - (vs.length - 1 - j) = j by omega]
      exact e1
    · rw [List.getElem?_append_left (by rw [List.length_reverse]; omega), List.getElem?_reverse (by omega), show cs.length - 1 - (vs.length - 1 - j) = j by omega]
      exact e2
  have hsl : ∀ (i : Nat) (c : Cell), Γ[i]? = some (some c) → ∃ v, σ[i]? = some (some v) ∧ COk K f M H σ v c := fun i c e => by
    obtain ⟨v, hv⟩ := G.has i c e
    exact ⟨v, hv, G.ok (.inr i) v c (ent_slot.mpr ⟨hv, e⟩)⟩
  obtain ⟨lT, kT, nT⟩ := argsC_ok hsl hl hcs h
  -- the address that is lent
  obtain ⟨oa, hoa⟩ : ∃ oa : Option Addr, (b = none → oa = none) ∧ ∀ i j, b = some (i, j) → ∃ a t ds, oa = some a ∧ vs[j]? = some (.ref a) ∧ σ[i]? = some (some (.ref a)) ∧ (Γ[i]? = some (some (.ow t ds)) ∨ Γ[i]? = some (some (.rf t ds))) ∧ OwnOk K f M H (.ref a) t ds := by
    cases b with
    | none => exact ⟨none, fun _ => rfl, fun i j e => by cases e⟩
    | some p =>
      obtain ⟨i, j⟩ := p
      obtain ⟨t, ds, hj⟩ := nT i j rfl
      have lj := lt_of_get hj
      rw [lT] at lj
      have hv := List.getElem?_eq_getElem lj
      rcases kT j vs[j] _ hv hj with ⟨d, z, _⟩ | ⟨t', ds', i', e1, e2, e3, e4⟩
      · cases z
      · cases e1; cases e2
        have ok : OwnOk K f M H vs[j] t ds := by
          rcases e4 with e4 | e4
          · exact G.ok (.inr i) _ _ (ent_slot.mpr ⟨e3, e4⟩)
          · exact G.ok (.inr i) _ _ (ent_slot.mpr ⟨e3, e4⟩)
        obtain ⟨a, xs, ea, r⟩ := id ok
        rw [ea] at hv e3 ok
        refine ⟨some a, (fun e => by cases e), fun i' j' e => ?_⟩
        cases e
        exact ⟨a, t, ds, rfl, hv, e3, e4, ok⟩
  -- who else owns, owns something else
  have others : ∀ k v c a, ent τ T0 σ Γ k = some (v, c) → own v c = some a → oa = some a → ∃ i j, b = some (i, j) ∧ k = .inr i := fun k v c a q r e => by
    cases hb : b with
    | none => rw [hoa.1 hb] at e; cases e
    | some p =>
      obtain ⟨i, j⟩ := p
      obtain ⟨a', t, ds, e1, _, e2, e3, e4⟩ := hoa.2 i j hb
      rw [e1] at e; cases e
      refine ⟨i, j, rfl, ?_⟩
      rcases e3 with e3 | e3
      · exact G0.inj k (.inr i) v c _ _ a q (ent_slot.mpr ⟨e2, e3⟩) r rfl
      · exact G0.inj k (.inr i) v c _ _ a q (ent_slot.mpr ⟨e2, e3⟩) r rfl
  have offM : ∀ a, oa = some a → M a = none ∧ f.B a = none ∧ ∃ o, H a = some o := fun a e => by
    cases hb : b with
    | none => rw [hoa.1 hb] at e; cases e
    | some p =>
      obtain ⟨i, j⟩ := p
      obtain ⟨a', t, ds, e1, _, e2, e3, e4⟩ := hoa.2 i j hb
      rw [e1] at e; cases e
      obtain ⟨a2, xs, ea, h1, h2, h3, h4⟩ := e4
      cases ea
      exact ⟨h3, h4, h1.tracked⟩
  have notB : ∀ {a : Addr}, callB H oa a = none → f.B a = none := fun {a} e => by
    by_cases z : oa = some a
    · exact (offM a z).2.1
    · cases q : f.B a with
      | none => rfl
      | some u => rw [callB_of z (G0.bys a u q)] at e; cases e
  refine ⟨⟨callB H oa, M, []⟩, ?_, ?_⟩
  · -- the callee's state
    have entv : ∀ (j : Nat) (v : V) (c : Cell), ent (vs ++ dvs) (T ++ dfl.map .sh) [] [] (.inl j) = some (v, c) → (∃ d, c = .sh d ∧ Rep K M v d) ∨ ∃ t ds i, c = .ow t ds ∧ b = some (i, j) ∧ σ[i]? = some (some v) ∧ (Γ[i]? = some (some (.ow t ds)) ∨ Γ[i]? = some (some (.rf t ds))) := fun j v c q => by
      obtain ⟨q1, q2⟩ := ent_temp.mp q
      by_cases hj : j < vs.length
      · rw [List.getElem?_append_left hj] at q1
        rw [List.getElem?_append_left (by rw [lT]; exact hj)] at q2
        exact kT j v c q1 q2
      · rw [List.getElem?_append_right (by omega)] at q1
        rw [List.getElem?_append_right (by rw [lT]; omega), List.getElem?_map] at q2
        cases hd2 : dfl[j - T.length]? with
        | none => rw [hd2] at q2; cases q2
        | some d =>
          rw [hd2] at q2
          cases q2
          obtain ⟨x, ex, rx⟩ := hd.get hd2
          rw [lT] at ex
          rw [ex] at q1
          cases q1
          exact .inl ⟨d, rfl, rx⟩
    have noslot : ∀ {v c i}, ent (vs ++ dvs) (T ++ dfl.map .sh) [] [] (.inr i) ≠ some (v, c) := fun {v c i} q => by
      have := (ent_slot.mp q).1
      simp at this
    refine ⟨fun a u e => (callB_some e).2, G.sub, Sub.refl M, fun a o u e _ => ⟨o, e⟩, ?_, rfl, fun i c e => by simp at e, fun k v c q => ?_, fun k k' v c v' c' a q q' r r' => ?_, fun i j e => by simp at e, fun i t ds e => by simp at e⟩
    · rw [List.length_append, List.length_append, List.length_map, lT, hd.length]
    · match k with
      | .inr i => exact (noslot q).elim
      | .inl j =>
        rcases entv j v c q with ⟨d, rfl, r⟩ | ⟨t, ds, i, rfl, hb, hv, hg⟩
        · exact r
        · obtain ⟨a, t', ds', e1, _, e2, e3, e4⟩ := hoa.2 i j hb
          rw [e2] at hv; cases hv
          have ok : OwnOk K f M H (.ref a) t ds := by
            rcases hg with hg | hg
            · exact G.ok (.inr i) _ _ (ent_slot.mpr ⟨e2, hg⟩)
            · exact G.ok (.inr i) _ _ (ent_slot.mpr ⟨e2, hg⟩)
          refine OwnOk.frm ok fun a2 ea => ?_
          cases ea
          show callB H oa a = none
          unfold callB
          rw [if_pos e1]
    · match k, k' with
      | .inr i, _ => exact (noslot q).elim
      | .inl j, .inr i => exact (noslot q').elim
      | .inl j, .inl j' =>
        rcases entv j v c q with ⟨d, rfl, _⟩ | ⟨t, ds, i, rfl, hb, _⟩
        · rw [own_sh] at r; cases r
        · rcases entv j' v' c' q' with ⟨d, rfl, _⟩ | ⟨t', ds', i', rfl, hb', _⟩
          · rw [own_sh] at r'; cases r'
          · rw [hb] at hb'
            cases hb'
            rfl
  · -- the way back
    intro M' H' T' Γ' hp
    have back : Good K ⟨callB H oa, M, []⟩ M' H' (vs ++ dvs) T' [] [] → Good K f M' H' τ T0 σ Γ' ∧ ∀ a, oa = some a → ∃ j t ds, ent (vs ++ dvs) T' [] [] (.inl j) = some (.ref a, .ow t ds) := fun G' => by
      have keepA : ∀ {a : Addr} {o : HO}, oa ≠ some a → H a = some o → H' a = some o := fun {a o} n e => G'.bys a o (callB_of n e)
      have keepN : ∀ {a : Addr} {o : HO}, oa ≠ some a → H a = some o → M a = none → M' a = none := fun {a o} n e m => by
        cases hq : M' a with
        | none => rfl
        | some u =>
          obtain ⟨w, hw⟩ := G'.new a u o hq (callB_of n e)
          have hw' : M a = some w := hw
          rw [m] at hw'; cases hw'
      -- the base: the lent slot told anew
      have base : ∀ Γ1 : Gam, Γ1.length = Γ.length → (∀ (i : Nat) (c : Cell), Γ1[i]? = some (some c) → ((∃ j, b = some (i, j)) ∧ ∃ a t ds, oa = some a ∧ (c = .ow t ds ∨ ∃ t0 ds0, c = .rf t ds ∧ Γ[i]? = some (some (.rf t0 ds0))) ∧ OwnOk K f M' H' (.ref a) t ds) ∨ ((∀ j, b ≠ some (i, j)) ∧ Γ[i]? = some (some c))) → Good K f M' H' τ T0 σ Γ1 := fun Γ1 hln hΓ => by
        have cs1 : ∀ k v c, ent τ T0 σ Γ1 k = some (v, c) → ((∃ i j, k = .inr i ∧ b = some (i, j)) ∧ ∃ a t ds, oa = some a ∧ v = .ref a ∧ (c = .ow t ds ∨ c = .rf t ds) ∧ OwnOk K f M' H' (.ref a) t ds) ∨ ((∀ i j, k = .inr i → b ≠ some (i, j)) ∧ ent τ T0 σ Γ k = some (v, c)) := fun k v c q => by
          match k with
          | .inl j => exact .inr ⟨(fun i j z => by cases z), q⟩
          | .inr i =>
            obtain ⟨q1, q2⟩ := ent_slot.mp q
            rcases hΓ i c q2 with ⟨⟨j, hb⟩, a, t, ds, e1, e2, e3⟩ | ⟨nb, e⟩
            · obtain ⟨a', t', ds', e1', _, e2', _⟩ := hoa.2 i j hb
              rw [e1'] at e1; cases e1
              rw [e2'] at q1; cases q1
              refine .inl ⟨⟨i, j, rfl, hb⟩, a, t, ds, e1', rfl, ?_, e3⟩
              rcases e2 with e2 | ⟨_, _, e2, _⟩
              · exact .inl e2
              · exact .inr e2
            · exact .inr ⟨(fun i' j z => by cases z; exact nb j), ent_slot.mpr ⟨q1, e⟩⟩
        refine ⟨fun a u e => ?_, G'.sub, G0.m0.trans G'.m0, fun a o u e e' => ?_, G0.tl, by rw [hln]; exact G0.sl, fun i c e => ?_, fun k v c q => ?_, fun k k' v c v' c' a q q' r r' => ?_, fun i j e => ?_, fun i t ds e => ?_⟩
        · have n : oa ≠ some a := fun z => by have := (offM a z).2.1; rw [this] at e; cases e
          exact keepA n (G0.bys a u e)
        · have n : oa ≠ some a := fun z => by have := (offM a z).2.1; rw [this] at e'; cases e'
          obtain ⟨w, hw⟩ := G'.new a o u e (callB_of n (G0.bys a u e'))
          exact G0.new a w u hw e'
        · rcases hΓ i c e with ⟨⟨j, hb⟩, _⟩ | ⟨_, e⟩
          · obtain ⟨a, _, _, _, _, e2, _⟩ := hoa.2 i j hb
            exact ⟨_, e2⟩
          · exact G0.has i c e
        · rcases cs1 k v c q with ⟨_, a, t, ds, _, rfl, rfl | rfl, ok⟩ | ⟨nb, q⟩
          · exact ok
          · exact ok
          · have hk : ∀ a, own v c = some a → oa ≠ some a := fun a r z => by
              obtain ⟨i, j, hb, e⟩ := others k v c a q r z
              exact nb i j e hb
            refine (G0.ok k v c q).step G'.m0 fun a r => ?_
            obtain ⟨o, ho⟩ := G0.ownedSome q r
            obtain ⟨_, _, _, _, _, m, _⟩ := (G0.ok k v c q).own_ok r
            exact ⟨by rw [keepA (hk a r) ho, ho], keepN (hk a r) ho m⟩
        · rcases cs1 k v c q with ⟨⟨i, j, ki, hb⟩, a1, t, ds, e1, ev, hc, ok⟩ | ⟨nb, q2⟩
          · have ra : a1 = a := by
              rw [ev] at r
              rcases hc with hc | hc
              · rw [hc] at r; exact Option.some.inj r
              · rw [hc] at r; exact Option.some.inj r
            rcases cs1 k' v' c' q' with ⟨⟨i', j', ki', hb'⟩, _⟩ | ⟨nb', q2'⟩
            · rw [hb] at hb'
              cases hb'
              rw [ki, ki']
            · obtain ⟨i', j', hb', e'⟩ := others k' v' c' a q2' r' (by rw [← ra]; exact e1)
              exact (nb' i' j' e' hb').elim
          · rcases cs1 k' v' c' q' with ⟨⟨i', j', ki', hb'⟩, a1, t, ds, e1, ev, hc, ok⟩ | ⟨nb', q2'⟩
            · have ra : a1 = a := by
                rw [ev] at r'
                rcases hc with hc | hc
                · rw [hc] at r'; exact Option.some.inj r'
                · rw [hc] at r'; exact Option.some.inj r'
              obtain ⟨i, j, hb, e⟩ := others k v c a q2 r (by rw [← ra]; exact e1)
              exact (nb i j e hb).elim
            · exact G0.inj k k' v c v' c' a q2 q2' r r'
        · rcases hΓ i _ e with ⟨_, _, _, _, _, z | ⟨_, _, z, _⟩, _⟩ | ⟨_, e⟩
          · cases z
          · cases z
          · exact G0.nbr i j e
        · rcases hΓ i _ e with ⟨_, _, _, _, _, z | ⟨t0, ds0, _, z⟩, _⟩ | ⟨_, e⟩
          · cases z
          · exact G0.args i t0 ds0 z
          · exact G0.args i t ds e
      cases hb : b with
      | none =>
        rw [hb] at hp
        cases hp
        exact ⟨base Γ rfl fun i c e => .inr ⟨(fun j z => by rw [hb] at z; cases z), e⟩, fun a z => by rw [hoa.1 hb] at z; cases z⟩
      | some p =>
        obtain ⟨i, j⟩ := p
        obtain ⟨a, t0, ds0, e1, ev, e2, e3, e4⟩ := hoa.2 i j hb
        rw [hb] at hp
        unfold putB at hp
        dsimp only at hp
        split at hp
        · rename_i t ds ho
          have hev : (vs ++ dvs)[j]? = some (.ref a) := by rw [List.getElem?_append_left (lt_of_get ev)]; exact ev
          have hen : ent (vs ++ dvs) T' [] [] (.inl j) = some (.ref a, .ow t ds) := ent_temp.mpr ⟨hev, ho⟩
          have ok : OwnOk K f M' H' (.ref a) t ds := OwnOk.frm (G'.ok _ _ _ hen) fun a2 ea => by cases ea; exact (offM a e1).2.1
          refine ⟨?_, fun a' ea' => by rw [e1] at ea'; cases ea'; exact ⟨j, t, ds, hen⟩⟩
          split at hp
          · rename_i t1 ds1 hg
            cases hp
            refine base _ (by rw [List.length_set]) fun i' c e => ?_
            by_cases hi : i = i'
            · subst hi
              rw [List.getElem?_set_self (lt_of_get hg)] at e
              cases e
              exact .inl ⟨⟨j, hb⟩, a, t, ds, e1, .inl rfl, ok⟩
            · rw [List.getElem?_set_ne hi] at e
              exact .inr ⟨(fun j' z => hi (by rw [hb] at z; cases z; rfl)), e⟩
          · rename_i t1 ds1 hg
            cases hp
            refine base _ (by rw [List.length_set]) fun i' c e => ?_
            by_cases hi : i = i'
            · subst hi
              rw [List.getElem?_set_self (lt_of_get hg)] at e
              cases e
              exact .inl ⟨⟨j, hb⟩, a, t, ds, e1, .inr ⟨t1, ds1, rfl, hg⟩, ok⟩
            · rw [List.getElem?_set_ne hi] at e
              exact .inr ⟨(fun j' z => hi (by rw [hb] at z; cases z; rfl)), e⟩
          · cases hp
        · cases hp
    refine ⟨fun G' => (back G').1, fun v c sc G' => ?_⟩
    obtain ⟨G2, lent⟩ := back G'.pop
    have h0 := G'.ok (.inl 0) v c rfl
    refine G2.push ?_ fun a r k v' c' q r' => ?_
    · cases c with
      | sh d => exact h0
      | ow t ds =>
        obtain ⟨a1, xs, ea, h1, h2, h3, h4⟩ := h0
        exact ⟨a1, xs, ea, h1, h2, h3, notB h4⟩
      | rf t ds => exact sc.elim
      | br i => exact sc.elim
    · -- the new object is no one else's
      obtain ⟨_, _, _, _, _, _, hb0⟩ := h0.own_ok r
      by_cases z : oa = some a
      · obtain ⟨j, t, ds, hj⟩ := lent a z
        have z2 := G'.inj (.inl 0) (.inl (j + 1)) v c _ _ a rfl hj r rfl
        cases z2
      · -- then it is new in H, and the others' stand there
        have hH : H a = none := by
          cases q3 : H a with
          | none => rfl
          | some o =>
            have hb0' : callB H oa a = none := hb0
            rw [callB_of z q3] at hb0'; cases hb0'
        have : ent τ T0 σ Γ k = some (v', c') ∨ ∃ i j, b = some (i, j) ∧ k = .inr i := by
          match k with
          | .inl j => exact .inl q
          | .inr i =>
            by_cases hb : ∃ j, b = some (i, j)
            · obtain ⟨j, hb⟩ := hb
              exact .inr ⟨i, j, hb, rfl⟩
            · refine .inl (ent_slot.mpr ⟨(ent_slot.mp q).1, ?_⟩)
              have q2 := (ent_slot.mp q).2
              cases hb' : b with
              | none => rw [hb'] at hp; cases hp; exact q2
              | some p =>
                obtain ⟨i', j'⟩ := p
                have hi : i' ≠ i := fun e => hb ⟨j', by rw [hb', e]⟩
                rw [hb'] at hp
                unfold putB at hp
                dsimp only at hp
                split at hp
                · split at hp
                  · cases hp; rw [List.getElem?_set_ne hi] at q2; exact q2
                  · cases hp; rw [List.getElem?_set_ne hi] at q2; exact q2
                  · cases hp
                · cases hp
        rcases this with q4 | ⟨i, j, hb, rfl⟩
        · obtain ⟨o, ho⟩ := G0.ownedSome q4 r'
          rw [hH] at ho; cases ho
        · obtain ⟨a', _, _, e1, _, e2, _⟩ := hoa.2 i j hb
          have := (ent_slot.mp q).1
          rw [e2] at this
          cases this
          obtain ⟨ea, _⟩ := own_ref r'
          cases ea
          exact z e1
end
end DL

set_option Elab.async false
set_option linter.all false
set_option maxRecDepth 100000
set_option maxHeartbeats 1000000
/-! a def by its body; calls by name, methods, instances -/
namespace DL
open PySem PySem.Spec PyProof.Rows L2

/-! ### a def's frame -/
def toSlot : Cell → Option Cell
  | .sh d => some (.sh d)
  | .ow t ds => some (.rf t ds)
  | _ => none
def startG (n : Nat) (T : List Cell) : Gam := T.map toSlot ++ List.replicate (n - T.length) none
def plainC : Cell → Bool
  | .sh _ => true
  | .ow _ _ => true
  | _ => false
def endC (Γ : Gam) (j : Nat) : Cell → Option Cell
  | .sh d => some (.sh d)
  | .ow _ _ => match Γ[j]? with
    | some (some (.rf t ds)) => some (.ow t ds)
    | _ => none
  | _ => none
def endT (Γ : Gam) : Nat → List Cell → Option (List Cell)
  | _, [] => some []
  | j, c :: T => match endC Γ j c with
    | some c' => (match endT Γ (j + 1) T with
      | some T' => some (c' :: T')
      | none => none)
    | none => none
/-- what is handed back -/
def finC (Γ : Gam) : Cell → Option Cell
  | .sh d => some (.sh d)
  | .ow t ds => some (.ow t ds)
  | .rf _ _ => none
  | .br i => match Γ[i]? with
    | some (some (.sh d)) => some (.sh d)
    | some (some (.ow t ds)) => some (.ow t ds)
    | _ => none
def runD (n : Nat) (G : GS) : MF := fun T => if T.all plainC then (match G (startG n T) with
  | some (.nx Γ) => (match endT Γ 0 T with
    | some T' => some (.val (.sh (.leaf .non)), T')
    | none => none)
  | some (.rt c Γ) => (match finC Γ c, endT Γ 0 T with
    | some c', some T' => some (.val c', T')
    | _, _ => none)
  | some (.xc x Γ) => (match endT Γ 0 T with
    | some T' => some (.exc x, T')
    | none => none)
  | _ => none) else none

section
variable {K : PySem.W.Frag} {f : Frm} {M H M' H' : Hp} {τ : List V} {T T' : List Cell} {σ σ' : L2.St} {Γ Γ' : Gam} {vs : List V} {N : List Str}
theorem endT_get : ∀ {T T' : List Cell} {k : Nat}, endT Γ k T = some T' → T'.length = T.length ∧ ∀ (j : Nat) (c : Cell), T[j]? = some c → ∃ c', T'[j]? = some c' ∧ endC Γ (k + j) c = some c'
  | [], T', k, h => by cases h; exact ⟨rfl, fun j c e => by simp at e⟩
  | c :: T, T', k, h => by
    unfold endT at h
    split at h
    · rename_i c1 h1
      split at h
      · rename_i T1 h2
        cases h
        obtain ⟨l, g⟩ := endT_get h2
        refine ⟨by rw [List.length_cons, List.length_cons, l], fun j c' e => ?_⟩
        cases j with
        | zero => cases e; exact ⟨c1, rfl, h1⟩
        | succ j =>
          obtain ⟨c2, e1, e2⟩ := g j c' e
          refine ⟨c2, e1, ?_⟩
          rw [show k + (j + 1) = k + 1 + j by omega]
          exact e2
      · cases h
    · cases h
theorem startG_get {n : Nat} {j : Nat} {c : Cell} (h : (startG n T)[j]? = some (some c)) : ∃ c', T[j]? = some c' ∧ toSlot c' = some c := by
  unfold startG at h
  by_cases hj : j < T.length
  · rw [List.getElem?_append_left (by rw [List.length_map]; exact hj), List.getElem?_map, List.getElem?_eq_getElem hj] at h
    exact ⟨T[j], List.getElem?_eq_getElem hj, Option.some.inj h⟩
  · rw [List.getElem?_append_right (by rw [List.length_map]; omega)] at h
    have := List.mem_of_getElem? h
    rw [List.mem_replicate] at this
    cases this.2
/-- into the body -/
theorem Good.enter (G : Good K f M H vs T [] []) (hN : vs.length ≤ N.length) : Good K ⟨f.B, M, vs⟩ M H [] [] (L2.start N vs) (startG N.length T) := by
  have hst : ∀ (j : Nat) (v : V), (L2.start N vs)[j]? = some (some v) → vs[j]? = some v := fun j v h => by
    unfold L2.start at h
    by_cases hj : j < vs.length
    · rw [List.getElem?_append_left (by rw [List.length_map]; exact hj), List.getElem?_map, List.getElem?_eq_getElem hj] at h
      rw [List.getElem?_eq_getElem hj]
      exact Option.some.inj h
    · rw [List.getElem?_append_right (by rw [List.length_map]; omega)] at h
      have := List.mem_of_getElem? h
      rw [List.mem_replicate] at this
      cases this.2
  have hst2 : ∀ (j : Nat) (v : V), vs[j]? = some v → (L2.start N vs)[j]? = some (some v) := fun j v h => by
    unfold L2.start
    rw [List.getElem?_append_left (by rw [List.length_map]; exact lt_of_get h), List.getElem?_map, h]
    rfl
  have vOf : ∀ (j : Nat) (c : Cell), T[j]? = some c → ∃ v, vs[j]? = some v := fun j c h => by
    have := lt_of_get h
    rw [← G.tl] at this
    exact ⟨vs[j], List.getElem?_eq_getElem this⟩
  have cs : ∀ k v c, ent [] [] (L2.start N vs) (startG N.length T) k = some (v, c) → ∃ j c', k = .inr j ∧ ent vs T [] [] (.inl j) = some (v, c') ∧ toSlot c' = some c := fun k v c q => by
    match k with
    | .inl j =>
      have := (ent_temp.mp q).1
      simp at this
    | .inr j =>
      obtain ⟨q1, q2⟩ := ent_slot.mp q
      obtain ⟨c', e1, e2⟩ := startG_get q2
      exact ⟨j, c', rfl, ent_temp.mpr ⟨hst j v q1, e1⟩, e2⟩
  refine ⟨G.bys, G.sub, Sub.refl M, fun a o u e _ => ⟨o, e⟩, rfl, ?_, fun j c e => ?_, fun k v c q => ?_, fun k k' v c v' c' a q q' r r' => ?_, fun i j e => ?_, fun i t ds e => ?_⟩
  · unfold L2.start startG
    rw [List.length_append, List.length_append, List.length_map, List.length_map, List.length_replicate, List.length_replicate, G.tl]
  · obtain ⟨c', e1, _⟩ := startG_get e
    obtain ⟨v, hv⟩ := vOf j c' e1
    exact ⟨v, hst2 j v hv⟩
  · obtain ⟨j, c', rfl, q1, e⟩ := cs k v c q
    have h := G.ok _ v c' q1
    cases c' with
    | sh d => cases e; exact h
    | ow t ds => cases e; exact h
    | rf t ds => cases e
    | br i => cases e
  · obtain ⟨j, d, rfl, q1, e⟩ := cs k v c q
    obtain ⟨j', d', rfl, q1', e'⟩ := cs k' v' c' q'
    have back : ∀ {v : V} {c d : Cell}, toSlot d = some c → own v c = some a → own v d = some a := fun {v c d} e r => by
      cases d with
      | sh x => cases e; rw [own_sh] at r; cases r
      | ow t ds => cases e; obtain ⟨rfl, _⟩ := own_ref r; rfl
      | rf t ds => cases e
      | br i => cases e
    have z := G.inj (.inl j) (.inl j') v d v' d' a q1 q1' (back e r) (back e' r')
    cases z
    rfl
  · obtain ⟨c', e1, e2⟩ := startG_get e
    cases c' with
    | sh d => cases e2
    | ow t ds => cases e2
    | rf t ds => cases e2
    | br i => cases e2
  · obtain ⟨c', e1, e2⟩ := startG_get e
    obtain ⟨v, hv⟩ := vOf i c' e1
    rw [hst2 i v hv]
    show some (some v) = some (vs[i]?)
    rw [hv]
/-- out of the body: the arguments' cells behind it -/
theorem Good.stopT (G : Good K f M H vs T [] []) (G' : Good K ⟨f.B, M, vs⟩ M' H' [] [] σ' Γ') (h : endT Γ' 0 T = some T') : Good K f M' H' vs T' [] [] := by
  obtain ⟨lT, gT⟩ := endT_get h
  have inv : ∀ (j : Nat) (c' : Cell), T'[j]? = some c' → ∃ c, T[j]? = some c ∧ endC Γ' j c = some c' := fun j c' e => by
    have hl := lt_of_get e
    rw [lT] at hl
    obtain ⟨c2, e1, e2⟩ := gT j _ (List.getElem?_eq_getElem hl)
    rw [e] at e1; cases e1
    rw [Nat.zero_add] at e2
    exact ⟨_, List.getElem?_eq_getElem hl, e2⟩
  have cs : ∀ k v c, ent vs T' [] [] k = some (v, c) → ∃ j c0, k = .inl j ∧ vs[j]? = some v ∧ T[j]? = some c0 ∧ ((∃ d, c = .sh d ∧ c0 = .sh d) ∨ ∃ t ds, c = .ow t ds ∧ ent [] [] σ' Γ' (.inr j) = some (v, .rf t ds)) := fun k v c q => by
    match k with
    | .inr j =>
      have := (ent_slot.mp q).1
      simp at this
    | .inl j =>
      obtain ⟨q1, q2⟩ := ent_temp.mp q
      obtain ⟨c0, e1, e2⟩ := inv j c q2
      refine ⟨j, c0, rfl, q1, e1, ?_⟩
      cases c0 with
      | sh d => cases e2; exact .inl ⟨d, rfl, rfl⟩
      | ow t ds =>
        unfold endC at e2
        dsimp only at e2
        split at e2
        · rename_i t' ds' hg
          cases e2
          refine .inr ⟨t', ds', rfl, ent_slot.mpr ⟨?_, hg⟩⟩
          rw [G'.args j t' ds' hg]
          show some (vs[j]?) = some (some v)
          rw [q1]
        · cases e2
      | rf t ds => cases e2
      | br i => cases e2
  refine ⟨G'.bys, G'.sub, G.m0.trans G'.m0, fun a o u e e' => ?_, by rw [G.tl, lT], rfl, fun i c e => by simp at e, fun k v c q => ?_, fun k k' v c v' c' a q q' r r' => ?_, fun i j e => by simp at e, fun i t ds e => by simp at e⟩
  · obtain ⟨w, hw⟩ := G'.new a o u e e'
    exact G.new a w u hw e'
  · obtain ⟨j, c0, rfl, hv, hc, ⟨d, rfl, rfl⟩ | ⟨t, ds, rfl, he⟩⟩ := cs k v c q
    · exact Rep.mono G'.m0 _ _ (show Rep K M v d from G.ok (.inl j) v _ (ent_temp.mpr ⟨hv, hc⟩))
    · exact G'.ok _ _ _ he
  · obtain ⟨j, c0, rfl, hv, hc, ⟨d, rfl, rfl⟩ | ⟨t, ds, rfl, he⟩⟩ := cs k v c q
    · rw [own_sh] at r; cases r
    · obtain ⟨j', c0', rfl, hv', hc', ⟨d, rfl, rfl⟩ | ⟨t', ds', rfl, he'⟩⟩ := cs k' v' c' q'
      · rw [own_sh] at r'; cases r'
      · obtain ⟨rfl, _⟩ := own_ref r
        obtain ⟨rfl, _⟩ := own_ref r'
        have z := G'.inj _ _ _ _ _ _ a he he' rfl rfl
        cases z
        rfl
theorem Good.stop {v : V} {c c' : Cell} (G : Good K f M H vs T [] []) (G' : Good K ⟨f.B, M, vs⟩ M' H' [v] [c] σ' Γ') (h : endT Γ' 0 T = some T') (hc : finC Γ' c = some c') : Solid c' ∧ Good K f M' H' (v :: vs) (c' :: T') [] [] := by
  have G2 := G.stopT G'.pop h
  -- whose object c' is
  have key : (∃ d, c' = .sh d ∧ Rep K M' v d) ∨ ∃ t ds k, c' = .ow t ds ∧ ent [v] [c] σ' Γ' k = some (v, .ow t ds) := by
    have h0 := G'.ok (.inl 0) v c rfl
    cases c with
    | sh d => cases hc; exact .inl ⟨d, rfl, h0⟩
    | ow t ds => cases hc; exact .inr ⟨t, ds, .inl 0, rfl, rfl⟩
    | rf t ds => cases hc
    | br i =>
      have hs : σ'[i]? = some (some v) := h0
      unfold finC at hc
      dsimp only at hc
      split at hc
      · rename_i d hg
        cases hc
        exact .inl ⟨d, rfl, G'.ok (.inr i) v _ (ent_slot.mpr ⟨hs, hg⟩)⟩
      · rename_i t ds hg
        cases hc
        exact .inr ⟨t, ds, .inr i, rfl, ent_slot.mpr ⟨hs, hg⟩⟩
      · cases hc
  rcases key with ⟨d, rfl, r⟩ | ⟨t, ds, k, rfl, he⟩
  · exact ⟨trivial, G2.pushSh r⟩
  · refine ⟨trivial, G2.push (OwnOk.frm (G'.ok _ _ _ he) fun a e => ?_) fun a r k' v' c'' q r' => ?_⟩
    · obtain ⟨a1, _, ea, _, _, _, hb⟩ := G'.ok _ _ _ he
      rw [e] at ea
      cases ea
      exact hb
    · -- the arguments' objects are others
      obtain ⟨rfl, _⟩ := own_ref r
      obtain ⟨lT, gT⟩ := endT_get h
      match k' with
      | .inr j =>
        have := (ent_slot.mp q).1
        simp at this
      | .inl j =>
        obtain ⟨q1, q2⟩ := ent_temp.mp q
        have hl := lt_of_get q2
        rw [lT] at hl
        obtain ⟨c2, e1, e2⟩ := gT j _ (List.getElem?_eq_getElem hl)
        rw [q2] at e1
        cases e1
        rw [Nat.zero_add] at e2
        obtain ⟨rfl, _⟩ := own_ref r'
        generalize T[j] = c0 at e2
        cases c0 with
        | sh d => cases e2; rw [own_sh] at r'; cases r'
        | ow t' ds' =>
          unfold endC at e2
          dsimp only at e2
          split at e2
          · rename_i t1 ds1 hg
            cases e2
            have hs : σ'[j]? = some (some (V.ref a)) := by
              rw [G'.args j t1 ds1 hg]
              show some (vs[j]?) = _
              rw [q1]
            have z := G'.inj k (.inr j) _ _ _ _ a he (ent_slot.mpr ⟨hs, hg⟩) rfl rfl
            rw [z] at he
            have := (ent_slot.mp he).2
            rw [hg] at this
            cases this
          · cases e2
        | rf t' ds' => cases e2
        | br i => cases e2
end

/-! ### the rule for a def -/
abbrev W0 (E : XK) : WX := fun cls d _ H => E cls d H
section
variable {P : Program} {w : World} {K : PySem.W.Frag} {mg : Str → Option Value} {base : Heap}
/-- X's own facts that a body's derivation leans on -/
structure BodyX (X : Cx) (W : WX) (k : Nat) : Prop where
  room : RoomG k X.A
  tk : Takes X W
  own : PassesOwn (model X.prog X.w) X.A X.env X.xe
theorem RoomG.deeper {k : Nat} {A : Around} (r : RoomG (k + 1) A) (env : Env) : RoomG k (A.deeper env) := ⟨r.room.deeper env, r.gd⟩
theorem def_ok {x qual : Str} {st : Stmt} {f : Addr} {fd : FuncData} {N ps : List Str} {k : Nat} (F : Fun K x qual st f fd) (S : FnScope N ps (defScope st)) (hl : ps.length ≤ N.length) (G : GS)
    (hbody : ∀ (cdv : Value) (A : Around) (outer : List Env) (s : Shared) (H : Hp) (E : XK), BodyX (cxOf (L2.CX P w) P w K mg base N qual (defScope st) f cdv A outer s H E) (W0 E) k →
      DSs (cxOf (L2.CX P w) P w K mg base N qual (defScope st) f cdv A outer s H E) (W0 E) (defBody st) G) : FnG P w K mg base (k + 1) f fd ps (runD N.length G) := by
  obtain ⟨oc, od, kV, doc, pm, an, cdv, ct, osl, hfd, lk, hcd⟩ := F.ex
  subst hfd
  constructor
  intro A outer s H args us vs Q E room e0 bnd rel hsp
  obtain ⟨hlen, f0, M, T, r, T', g, hrun, post⟩ := hsp
  have inK : K.In s.heap := e0.mod.kin.keeps fun b o q => (e0.bs b o q).1
  have noLim : s.heap.NoLimit := e0.mod.nolimit.keeps fun b o q => (e0.bs b o q).1
  have kinds : ∀ y ∈ ps.zip us, (defScope st).names.lookup y.1 = some .local ∨
      ((defScope st).names.lookup y.1 = some .cell ∧ ((cellsFrom (s.heap.objs.size + 1) (defScope st).names []).lookup y.1).isSome = true) := by
    rintro ⟨n, v⟩ hy
    cases S.par n (List.of_mem_zip hy).1 with
    | inl q => exact Or.inl q
    | inr q => exact Or.inr ⟨q, PySem.W.cellsFrom_some _ _ _ (Or.inl q)⟩
  apply codeAny_call_function room.room.depth (inK _ _ lk) rfl S.co S.gen rfl (PySem.W.codeRec_of inK hcd)
  apply bnd
  apply wpAny_newFunctionEnv_cells S.kind kinds
  intro env henv s1 entered
  subst henv
  refine And.intro (noLim.keeps entered.toInCall.keep) (codeAny_func ?_)
  have start := inv_start (CX := L2.CX P w) (E := E) S room.room.hd e0 hlen rel entered (mg := mg) (cd := cdv) (f := f) (qual := qual)
  have body := hbody cdv A outer s H E ⟨room.deeper _, takes_of rfl rfl rfl rfl, passes_of rfl⟩
  have hg := g.enter (N := N) (by rw [hlen]; exact hl)
  -- what is wanted of each end of the body
  have wish : tS K (W0 E) G { nx := fun _ H' => Q .non H', rt := Q } (L2.start N vs) H := by
    unfold runD at hrun
    split at hrun
    · split at hrun
      · rename_i Γ hG
        split at hrun
        · rename_i T1 hT
          cases hrun
          exact ⟨_, M, _, _, hg, hG, fun σ' H' M' g' => post.2 .non H' M' ((g.stopT g' hT).pushSh (by unfold Rep; rfl))⟩
        · cases hrun
      · rename_i c Γ hG
        split at hrun
        · rename_i c1 T1 hc hT
          cases hrun
          exact ⟨_, M, _, _, hg, hG, fun v σ' H' M' g' => post.2 v H' M' (g.stop g' hT hc).2⟩
        · cases hrun
      · rename_i x Γ hG
        split at hrun
        · rename_i T1 hT
          cases hrun
          exact ⟨_, M, _, _, hg, hG, fun σ' d H' M' g' hx => post d H' M' (g.stopT g' hT) hx⟩
        · cases hrun
      · cases hrun
    · cases hrun
  refine wpAny_mono (body.run [] s1 _ H _ start wish) (fun fl s2 hfl => ?_) fun e s2 he => he
  cases fl with
  | next =>
    obtain ⟨σ2, H2, i2, q2⟩ := hfl
    exact ⟨V.non, H2, i2.os, i2.bare, i2.base, i2.hok, rfl, q2⟩
  | ret u =>
    obtain ⟨v2, σ2, H2, i2, rv, q2⟩ := hfl
    exact ⟨v2, H2, i2.os, i2.bare, i2.base, i2.hok, rv, q2⟩
  | brk =>
    obtain ⟨_, _, _, bad⟩ := hfl
    exact bad.elim
  | cont =>
    obtain ⟨_, _, _, bad⟩ := hfl
    exact bad.elim
end

/-! ### calls -/
section
variable {X : Cx} {W : WX} {k : Nat} {f C : Addr} {fd : FuncData} {ps : List Str} {m : MF} {dvs : List V} {ds : List Value} {dfl : List D} {x nm : Str} {p pos apos : Pos} {e o : Expr} {es : List Expr} {L : AF} {A : EF}
theorem run_fnG {pins : List (Addr × Obj)} {σ : L2.St} {H : Hp} {s : Shared} {Q : VK} {us : List Value} {vs : List V} (F : FnG X.prog X.w X.K X.mg X.base k f fd ps m) (hr : RoomG k X.A) (hb : Binds X.K fd ps ds) (hd : Vals dvs ds) (tk : Takes X W)
    (I : Inv X pins σ H s) (r : Vals vs us) (h : spM X.K ps.length m (vs ++ dvs) H Q (WE W σ)) : wpAny (model X.prog X.w) X.A (call (.ref f) us) (EP X pins σ Q) X.xe s := by
  have both := r.append hd
  have count : (us ++ ds).length = ps.length := both.length.symm.trans h.1
  apply wpAny_call
  apply codeAny_mono (F.run X.A X.stack s H ⟨us, []⟩ (us ++ ds) (vs ++ dvs) Q (WE W σ) hr I.env0 (hb s us I.kIn count) both h)
  rintro (er | fl) s' hq
  · exact passAt tk σ pins H s er s' I hq
  · cases fl with
    | ret u => exact I.after hq
    | next => exact hq.elim
    | brk => exact hq.elim
    | cont => exact hq.elim
/-- f(e, ..): by the mirror; the arguments are n, with the defaults -/
def eCallN (n : Nat) (m : MF) (dfl : List D) (L : AF) : EF := bindL L fun cs Γ => if cs.length + dfl.length = n then (match argsC Γ cs with
  | some (T, b) => (match m (T ++ dfl.map .sh) with
    | some (r, T') => (match putB Γ b T' with
      | some Γ' => (match r with
        | .val c => if isSolid c then some (.val c, Γ') else none
        | .exc x => some (.exc x, Γ'))
      | none => none)
    | none => none)
  | none => none) else none
/-- what the callee is asked, from what is asked of the call -/
theorem callN_core {σ : L2.St} {H : Hp} {Q : VK} {f : Frm} {M : Hp} {τ : List V} {T0 : List Cell} {Γ Γ' : Gam} {r : Res} {cs : List Cell} {vs : List V} {n : Nat} (G : Good X.K f M H (vs.reverse ++ τ) (cs.reverse ++ T0) σ Γ) (hl : vs.length = cs.length) (p : PostE X.K W f τ T0 σ Q r Γ') (hd : Reps X.K M dvs dfl)
    (e : (if cs.length + dfl.length = n then (match argsC Γ cs with
      | some (T, b) => (match m (T ++ dfl.map .sh) with
        | some (r, T') => (match putB Γ b T' with
          | some Γ' => (match r with
            | .val c => if isSolid c then some (Res.val c, Γ') else none
            | .exc x => some (.exc x, Γ'))
          | none => none)
        | none => none)
      | none => none) else none) = some (r, Γ')) : spM X.K n m (vs ++ dvs) H Q (WE W σ) := by
  split at e
  · rename_i hn
    refine ⟨by rw [List.length_append, hl, hd.length]; exact hn, ?_⟩
    split at e
    · rename_i T b hT
      obtain ⟨fc, gc, back⟩ := G.call hl hT hd
      split at e
      · rename_i r1 T' hm
        split at e
        · rename_i Γ1 hp
          refine ⟨fc, M, _, r1, T', gc, hm, ?_⟩
          cases r1 with
          | val c =>
            dsimp only at e
            split at e
            · rename_i sc
              cases e
              exact ⟨isSolid_of sc, fun v H' M' g' => p v H' M' ((back M' H' T' Γ' hp).2 v c (isSolid_of sc) g')⟩
            · cases e
          | exc x =>
            cases e
            exact fun d H' M' g' hx => p d H' M' ((back M' H' T' Γ' hp).1 g') hx
        · cases e
      · cases e
    · cases e
  · cases e
theorem de_call (F : FnG X.prog X.w X.K X.mg X.base k f fd ps m) (hr : RoomG k X.A) (tk : Takes X W) (hm : X.mg x = some (.ref f)) (hk : PySem.W.keepIn X.K (.ref f) = true) (hb : Binds X.K fd ps ds) (hd : Vals dvs ds) (hdf : Reps X.K (fun _ => none) dvs dfl)
    (ha : DA X W (e :: es) L) (hg : Gl X x := by rfl) (hdb : (x == ("__debug__" : Str)) = false := by decide) (he : starEach (e :: es) X.env = (false, eval e X.env) :: starEach es X.env := by rfl) (hpl : (backTo pos (starEach es X.env)).any (·.1) = false := by rfl) :
    DE X W (.Call (.Name x p) (e :: es) [] pos) (eCallN ps.length m dfl L) := by
  refine ⟨fun pins s σ H Q I h => ?_⟩
  obtain ⟨f0, M, τ, T, Γ, r, Γ', G, hF, post⟩ := h
  apply wpAny_Call_Name_kw
  refine ld_glob I hg hm ?_ hdb
  have asked : (tL X.K W L) σ H (fun vs H1 => spM X.K ps.length m (vs ++ dvs) H1 Q (WE W σ)) := runL G hF post fun cs Γ1 vs H1 M1 hl G1 e => callN_core G1 hl post (Reps.mono (fun _ _ q => by cases q) _ _ hdf) e
  refine PySem.W.callWith_K (h₀ := X.base) I.ok.mod.kin hk ?_ he hpl
  refine thn (ha.run pos pins s σ H _ I asked) ?_
  rintro us s1 ⟨vs, H1, I1, rr, q⟩
  exact ⟨I1.kIn, run_fnG F hr hb hd tk I1 rr q⟩
theorem de_call0 (F : FnG X.prog X.w X.K X.mg X.base k f fd ps m) (hr : RoomG k X.A) (tk : Takes X W) (hm : X.mg x = some (.ref f)) (hk : PySem.W.keepIn X.K (.ref f) = true) (hb : Binds X.K fd ps ds) (hd : Vals dvs ds) (hdf : Reps X.K (fun _ => none) dvs dfl)
    (hg : Gl X x := by rfl) (hdb : (x == ("__debug__" : Str)) = false := by decide) : DE X W (.Call (.Name x p) [] [] pos) (eCallN ps.length m dfl aNil) := by
  refine ⟨fun pins s σ H Q I h => ?_⟩
  obtain ⟨f0, M, τ, T, Γ, r, Γ', G, hF, post⟩ := h
  apply wpAny_Call_Name_kw
  refine ld_glob I hg hm ?_ hdb
  have asked : spM X.K ps.length m ([] ++ dvs) H Q (WE W σ) := callN_core (vs := []) (cs := []) (τ := τ) (T0 := T) G rfl post (Reps.mono (fun _ _ q => by cases q) _ _ hdf) hF
  exact PySem.W.callWith_K0 I.kIn hk (run_fnG (us := []) (vs := []) F hr hb hd tk I .nil asked)

/-! ### methods -/
theorem lookup_zip_none {ns : List Str} {xs : List V} {nm : Str} (h : ns.contains nm = false) : (ns.zip xs).lookup nm = none := by
  induction ns generalizing xs with
  | nil => cases xs <;> rfl
  | cons n ns ih =>
    cases xs with
    | nil => rfl
    | cons x xs =>
      rw [List.contains_cons, Bool.or_eq_false_iff] at h
      rw [List.zip_cons_cons, List.lookup_cons, h.1]
      exact ih h.2
def eMethN (C : Addr) (nm : Str) (n : Nat) (m : MF) (dfl : List D) (A : EF) (L : AF) : EF := bindE A fun c Γ => match look Γ c with
  | some (.node (.ins C' ns) _) => if C' = C ∧ ns.contains nm = false then bindL L (fun cs Γ => if (c :: cs).length + dfl.length = n then (match argsC Γ (c :: cs) with
      | some (T, b) => (match m (T ++ dfl.map .sh) with
        | some (r, T') => (match putB Γ b T' with
          | some Γ' => (match r with
            | .val c => if isSolid c then some (.val c, Γ') else none
            | .exc x => some (.exc x, Γ'))
          | none => none)
        | none => none)
      | none => none) else none) Γ else none
  | _ => none
/-- the receiver, then the arguments, then the call -/
theorem meth_core {σ : L2.St} {H : Hp} {Q : VK} (hdf : Reps X.K (fun _ => none) dvs dfl) (h : tE X.K W (eMethN C nm ps.length m dfl A L) σ H Q) :
    (tE X.K W A) σ H fun x H1 => ∃ a dx fs, x = .ref a ∧ H1 a = some (.ins C dx fs) ∧ fs.lookup nm = none ∧ (tL X.K W L) σ H1 fun vs H2 => spM X.K ps.length m (x :: (vs ++ dvs)) H2 Q (WE W σ) := by
  obtain ⟨f0, M, τ, T, Γ, r, Γ', G, hF, post⟩ := h
  refine run1 G hF post fun c Γ1 v H1 M1 G1 e => ?_
  split at e
  · rename_i C' ns ds0 hd
    split at e
    · rename_i hC
      obtain ⟨rfl, hns⟩ := hC
      obtain ⟨a, xs, rfl, ⟨_, dx, ho⟩, _⟩ := G1.look (k := .inl 0) rfl hd
      refine ⟨a, dx, _, rfl, ho, lookup_zip_none hns, ?_⟩
      -- the arguments, the receiver pending
      unfold bindL at e
      cases hL : L Γ1 with
      | none => rw [hL] at e; cases e
      | some z =>
        obtain ⟨rl, Γ2⟩ := z
        rw [hL] at e
        cases rl with
        | exc x =>
          cases e
          exact ⟨f0, M1, _, _, Γ1, .exc x, Γ', G1, hL, PostX.pop post⟩
        | val cs =>
          refine ⟨f0, M1, _, _, Γ1, .val cs, Γ2, G1, hL, fun vs H2 M2 hl G2 => ?_⟩
          have G3 : Good X.K f0 M2 H2 ((V.ref a :: vs).reverse ++ τ) ((c :: cs).reverse ++ T) σ Γ2 := by
            rw [List.reverse_cons, List.reverse_cons, List.append_assoc, List.append_assoc]
            exact G2
          exact callN_core (vs := V.ref a :: vs) G3 (by rw [List.length_cons, List.length_cons, hl]) post (Reps.mono (fun _ _ q => by cases q) _ _ hdf) e
    · cases e
  · cases e
theorem de_meth {pl : Sem Bool} (he : DE X W o A) (c : Cls X.K C) (hm : Meth X.K C nm f) (F : FnG X.prog X.w X.K X.mg X.base k f fd ps m) (hr : RoomG k X.A) (tk : Takes X W) (hb : Binds X.K fd ps ds) (hd : Vals dvs ds) (hdf : Reps X.K (fun _ => none) dvs dfl) (ha : DA X W (e :: es) L)
    (hst : starEach (e :: es) X.env = (false, eval e X.env) :: starEach es X.env := by rfl) (hpl : (backTo pos (starEach es X.env)).any (·.1) = false := by rfl)
    (ht : eval (.Call (.Attribute o nm apos) (e :: es) [] pos) X.env = (eval o X.env >>= fun ov => standAt apos.atName >>= fun _ => holding [ov] (getMethod ov nm pl) >>= fun r => callWith pos r.1 r.2 (backTo pos (starEach (e :: es) X.env)) (backToKw pos (keywordEach [] X.env))) := by rfl) :
    DE X W (.Call (.Attribute o nm apos) (e :: es) [] pos) (eMethN C nm ps.length m dfl A L) := by
  refine ⟨fun pins s σ H Q I h => ?_⟩
  apply PySem.W.methodCall_KW (pl := pl) _ ht
  refine thn (he.run pins s σ H _ I (meth_core hdf h)) ?_
  rintro u s1 ⟨y, H1, I1, ry, a, dx, fs, hy, ea, hl, q⟩
  subst hy
  obtain rfl : u = Value.ref a := ry
  apply getmeth_ok I1 ea c hm hl
  refine PySem.W.callWith_K (first := [.ref a]) (h₀ := X.base) I.ok.mod.kin hm.kp ?_ hst hpl
  refine thn (ha.run pos pins s1 σ H1 _ I1 q) ?_
  rintro us s2 ⟨vs, H2, I2, rr, q2⟩
  exact ⟨I2.kIn, run_fnG (us := .ref a :: us) (vs := .ref a :: vs) F hr hb hd tk I2 (.cons rfl rr) q2⟩
theorem de_meth0 {pl : Sem Bool} (he : DE X W o A) (c : Cls X.K C) (hm : Meth X.K C nm f) (F : FnG X.prog X.w X.K X.mg X.base k f fd ps m) (hr : RoomG k X.A) (tk : Takes X W) (hb : Binds X.K fd ps ds) (hd : Vals dvs ds) (hdf : Reps X.K (fun _ => none) dvs dfl)
    (ht : eval (.Call (.Attribute o nm apos) [] [] pos) X.env = (eval o X.env >>= fun ov => standAt apos.atName >>= fun _ => holding [ov] (getMethod ov nm pl) >>= fun r => callWith pos r.1 r.2 (backTo pos (starEach [] X.env)) (backToKw pos (keywordEach [] X.env))) := by rfl) :
    DE X W (.Call (.Attribute o nm apos) [] [] pos) (eMethN C nm ps.length m dfl A aNil) := by
  refine ⟨fun pins s σ H Q I h => ?_⟩
  apply PySem.W.methodCall_KW (pl := pl) _ ht
  refine thn (he.run pins s σ H _ I (meth_core hdf h)) ?_
  rintro u s1 ⟨y, H1, I1, ry, a, dx, fs, hy, ea, hl, q⟩
  subst hy
  obtain rfl : u = Value.ref a := ry
  apply getmeth_ok I1 ea c hm hl
  have q0 : spM X.K ps.length m (.ref a :: ([] ++ dvs)) H1 Q (WE W σ) := by
    obtain ⟨f1, M1, τ1, T1, Γ1, r1, Γ2, G1, e1, p1⟩ := q
    cases e1
    exact p1 [] H1 M1 rfl G1
  exact PySem.W.callWith_K0 (first := [.ref a]) I1.kIn hm.kp (run_fnG (us := [.ref a]) (vs := [.ref a]) F hr hb hd tk I1 (.cons rfl .nil) q0)
end
end DL

set_option Elab.async false
set_option linter.all false
set_option maxRecDepth 100000
set_option maxHeartbeats 1000000
/-! operators and subscripts on data -/
namespace DL
open PySem PySem.Spec PyProof.Rows L2

section
variable {K : PySem.W.Frag}
theorem S2.left {r r' : R2} {g : D → D → Option Out} (h : S2 K r g) : S2 K (fun x y H Q => r x y H Q ∨ r' x y H Q) g := fun M H x y d e o Q s rx ry hg q => .inl (h M H x y d e o Q s rx ry hg q)
theorem S2.right {r r' : R2} {g : D → D → Option Out} (h : S2 K r' g) : S2 K (fun x y H Q => r x y H Q ∨ r' x y H Q) g := fun M H x y d e o Q s rx ry hg q => .inr (h M H x y d e o Q s rx ry hg q)
/-- + -/
def gAdd : D → D → Option Out
  | .leaf (.int i), .leaf (.int j) => some (.old (.leaf (.int (i + j))))
  | .leaf (.str x), .leaf (.str y) => if x.length + y.length ≤ 16777216 then some (.old (.leaf (.str (x ++ y)))) else none
  | .node .lst xs, .node .lst ys => if xs.length + ys.length ≤ 16777216 then some (.new .lst (xs ++ ys)) else none
  | .node .tup xs, .node .tup ys => if xs.length + ys.length ≤ 16777216 then (if xs.isEmpty then some (.old (.node .tup ys)) else if ys.isEmpty then some (.old (.node .tup xs)) else some (.new .tup (xs ++ ys))) else none
  | _, _ => none
abbrev rAddAll (K : PySem.W.Frag) : R2 := fun x y H Q => (((∃ i j, x = .int i ∧ y = .int j ∧ Q (.int (i + j)) H) ∨ ∃ i j, x = .str i ∧ y = .str j ∧ i.length + j.length ≤ sizeLine ∧ Q (.str (i ++ j)) H) ∨ rCat x y H Q) ∨ rCatA K x y H Q
theorem opAdd {X : Cx} : OpR X (binaryOp .Add) (rAddAll X.K) := ((op_add.or op_add_str).or op_cat).or op_catA
theorem isEmpty_ne {α : Type} {l : List α} (h : l.isEmpty = false) : l ≠ [] := by
  rintro rfl
  cases h
theorem Reps.ne {M : Hp} {xs : List V} {ds : List D} (r : Reps K M xs ds) (h : ds.isEmpty = false) : xs ≠ [] := by
  rintro rfl
  have := r.length
  cases ds with
  | nil => cases h
  | cons d ds => cases this
theorem Reps.none_of {M : Hp} {xs : List V} (r : Reps K M xs []) : xs = [] := List.length_eq_zero_iff.mp r.length
theorem s2Add : S2T K (rAddAll K) gAdd := by
  intro M H x y d e o Q s rx ry tx ty hg q
  unfold gAdd at hg
  split at hg
  · rename_i i j
    cases hg
    exact .inl (.inl (.inl ⟨i, j, rx, ry, q _ (by unfold Rep; rfl)⟩))
  · rename_i a b
    split at hg
    · rename_i hl
      cases hg
      exact .inl (.inl (.inr ⟨a, b, rx, ry, by rw [sizeLine_eq]; exact hl, q _ (by unfold Rep; rfl)⟩))
    · cases hg
  · rename_i xs ys
    split at hg
    · rename_i hl
      cases hg
      obtain ⟨a, us, rfl, h1, r1⟩ := rx
      obtain ⟨b, ws, rfl, h2, r2⟩ := ry
      exact .inl (.inr ⟨a, b, us, ws, rfl, rfl, h1, h2, by rw [r1.length, r2.length, sizeLine_eq]; exact hl, fun p hp => q.2 p _ hp (r1.append r2)⟩)
    · cases hg
  · rename_i xs ys
    split at hg
    · rename_i hl
      obtain ⟨a, us, rfl, h1, r1⟩ := rx
      obtain ⟨b, ws, rfl, h2, r2⟩ := ry
      have hc : (us = [] → Q (.ref b) H) ∧ (us ≠ [] → ws = [] → Q (.ref a) H) ∧ (us ≠ [] → ws ≠ [] → ∀ p, H p = none → Q (.ref p) (upd H p (.tup (us ++ ws)))) := by
        cases xs with
        | nil =>
          have e1 := r1.none_of
          subst e1
          cases hg
          exact ⟨fun _ => q _ (ty _ rfl), fun z => (z rfl).elim, fun z => (z rfl).elim⟩
        | cons x xs =>
          cases ys with
          | nil =>
            have e2 := r2.none_of
            subst e2
            cases hg
            exact ⟨fun z => (r1.ne rfl z).elim, fun _ _ => q _ (tx _ rfl), fun _ z => (z rfl).elim⟩
          | cons y ys =>
            cases hg
            exact ⟨fun z => (r1.ne rfl z).elim, fun _ z => (r2.ne rfl z).elim, fun _ _ p hp => q.2 p _ hp (r1.append r2)⟩
      exact .inr ⟨a, b, us, ws, rfl, rfl, h1, h2, by rw [r1.length, r2.length, sizeLine_eq]; exact hl, hc⟩
    · cases hg
  · cases hg
/-- two ints -/
def gII (C : Int → Int → Bool) (f : Int → Int → V) : D → D → Option Out
  | .leaf (.int i), .leaf (.int j) => if C i j then some (.old (.leaf (f i j))) else none
  | _, _ => none
theorem s2II {C : Int → Int → Bool} {C' : Int → Int → Prop} {f : Int → Int → V} (h : ∀ i j, C i j = true → C' i j) : S2 K (rI C' f) (gII C f) := by
  intro M H x y d e o Q s rx ry hg q
  unfold gII at hg
  split at hg
  · rename_i i j
    split at hg
    · rename_i hc
      cases hg
      exact ⟨i, j, rx, ry, h i j hc, q _ (by unfold Rep; rfl)⟩
    · cases hg
  · cases hg
def gII0 (f : Int → Int → V) : D → D → Option Out
  | .leaf (.int i), .leaf (.int j) => some (.old (.leaf (f i j)))
  | _, _ => none
theorem s2II0 {f : Int → Int → V} : S2 K (rI0 f) (gII0 f) := by
  intro M H x y d e o Q s rx ry hg q
  unfold gII0 at hg
  split at hg
  · rename_i i j
    cases hg
    exact ⟨i, j, rx, ry, q _ (by unfold Rep; rfl)⟩
  · cases hg
def gSub : D → D → Option Out := gII0 fun i j => .int (i - j)
theorem s2Sub : S2 K (rI0 fun i j => .int (i - j)) gSub := s2II0
def cDiv (_ j : Int) : Bool := decide (0 < j ∧ j < 2 ^ 300)
theorem cDiv_ok {i j : Int} (h : cDiv i j = true) : CDivW i j := by
  have h' := of_decide_eq_true h
  exact wide_div (b := 300) h'.1 (by have := h'.2; omega) (by decide) (by decide)
def gFdiv : D → D → Option Out := gII cDiv fun i j => .int (i / j)
theorem s2Fdiv : S2 K (rI CDivW fun i j => .int (i / j)) gFdiv := s2II fun _ _ => cDiv_ok
def gMod : D → D → Option Out := gII (fun _ j => decide (0 < j)) fun i j => .int (i % j)
theorem s2Mod : S2 K (rI (fun _ j => 0 < j) fun i j => .int (i % j)) gMod := s2II fun _ _ h => of_decide_eq_true h
def cMul (i j : Int) : Bool := decide ((-(2 ^ 1000) < i ∧ i < 2 ^ 1000) ∧ -(2 ^ 1000) < j ∧ j < 2 ^ 1000)
theorem cMul_ok {i j : Int} (h : cMul i j = true) : CMulW i j := by
  have h' := of_decide_eq_true h
  exact wide_mul (a := 1000) (b := 1000) (by have := h'.1; omega) (by have := h'.2; omega) (by decide) (by decide) (by decide)
def gMul : D → D → Option Out
  | .leaf (.int i), .leaf (.int j) => if cMul i j then some (.old (.leaf (.int (i * j)))) else none
  | .node .lst xs, .leaf (.int k) => if (-9223372036854775808 ≤ k ∧ k < 9223372036854775808) ∧ xs.length * k.toNat ≤ 16777216 then some (.new .lst (List.replicate k.toNat xs).flatten) else none
  | _, _ => none
theorem opMul {X : Cx} : OpR X (binaryOp .Mult) (fun x y H Q => (rI CMulW fun i j => .int (i * j)) x y H Q ∨ rRep x y H Q) := op_mulW.or op_rep
theorem Reps.flat {M : Hp} {xs : List V} {ds : List D} (r : Reps K M xs ds) : ∀ n, Reps K M (List.replicate n xs).flatten (List.replicate n ds).flatten
  | 0 => .nil
  | n + 1 => by
    rw [List.replicate_succ, List.replicate_succ, List.flatten_cons, List.flatten_cons]
    exact r.append (Reps.flat r n)
theorem s2Mul : S2 K (fun x y H Q => (rI CMulW fun i j => .int (i * j)) x y H Q ∨ rRep x y H Q) gMul := by
  intro M H x y d e o Q s rx ry hg q
  unfold gMul at hg
  split at hg
  · rename_i i j
    split at hg
    · rename_i hc
      cases hg
      exact .inl ⟨i, j, rx, ry, cMul_ok hc, q _ (by unfold Rep; rfl)⟩
    · cases hg
  · rename_i xs k
    split at hg
    · rename_i hc
      cases hg
      obtain ⟨a, us, rfl, h1, r1⟩ := rx
      exact .inr ⟨a, k, us, rfl, ry, h1, hc.1.1, hc.1.2, by rw [r1.length, sizeLine_eq]; exact hc.2, fun p hp => q.2 p _ hp (r1.flat _)⟩
    · cases hg
  · cases hg
def gPow : D → D → Option Out := gII (fun i j => decide (0 ≤ j ∧ j ≤ 1000000 ∧ i.natAbs < 18446744073709551616)) fun i j => .int (i ^ j.toNat)
theorem s2Pow : S2 K (rI CPow fun i j => .int (i ^ j.toNat)) gPow := s2II fun _ _ h => (of_decide_eq_true h : _ ∧ _ ∧ _)
def gNeg : D → Option Out
  | .leaf (.int i) => some (.old (.leaf (.int (-i))))
  | _ => none
theorem s1Neg : S1 K (rU fun i => .int (-i)) gNeg := by
  intro M H x d o Q s rx hg q
  unfold gNeg at hg
  split at hg
  · rename_i i
    cases hg
    exact ⟨i, rx, q _ (by unfold Rep; rfl)⟩
  · cases hg

/-! ### order -/
def strLt (x y : Str) : Bool := decide (x.cps.toList < y.cps.toList)
def gLt : D → D → Option Out
  | .leaf (.int i), .leaf (.int j) => some (.old (.leaf (.bl (decide (i < j)))))
  | .leaf (.str x), .leaf (.str y) => some (.old (.leaf (.bl (strLt x y))))
  | _, _ => none
theorem s2Lt : S2 K (fun x y H Q => (rI0 fun i j => .bl (decide (i < j))) x y H Q ∨ ∃ i j, x = .str i ∧ y = .str j ∧ Q (.bl (decide (i.cps.toList < j.cps.toList))) H) gLt := by
  intro M H x y d e o Q s rx ry hg q
  unfold gLt at hg
  split at hg
  · rename_i i j
    cases hg
    exact .inl ⟨i, j, rx, ry, q _ (by unfold Rep; rfl)⟩
  · rename_i i j
    cases hg
    exact .inr ⟨i, j, rx, ry, q _ (by unfold Rep; rfl)⟩
  · cases hg
theorem opLt {X : Cx} : OpR X (compareOp .Lt) (fun x y H Q => (rI0 fun i j => .bl (decide (i < j))) x y H Q ∨ ∃ i j, x = .str i ∧ y = .str j ∧ Q (.bl (decide (i.cps.toList < j.cps.toList))) H) := op_lt.or op_lt_str
def gLe : D → D → Option Out := gII0 fun i j => .bl (decide (i ≤ j))
theorem s2Le : S2 K (rI0 fun i j => .bl (decide (i ≤ j))) gLe := s2II0
def gGt : D → D → Option Out := gII0 fun i j => .bl (decide (j < i))
theorem s2Gt : S2 K (rI0 fun i j => .bl (decide (j < i))) gGt := s2II0
def gGe : D → D → Option Out := gII0 fun i j => .bl (decide (j ≤ i))
theorem s2Ge : S2 K (rI0 fun i j => .bl (decide (j ≤ i))) gGe := s2II0

/-! ### data as the library has it -/
mutual
def toP : D → Option PyData
  | .leaf .non => some .none
  | .leaf (.bl b) => some (.bool b)
  | .leaf (.int i) => some (.int i)
  | .leaf (.str x) => some (.str x)
  | .leaf _ => none
  | .node .lst ds => match toPs ds with
    | some ps => some (.list ps)
    | none => none
  | .node .tup ds => match toPs ds with
    | some ps => some (.tuple ps)
    | none => none
  | .node .scr ds => match toPs ds with
    | some ps => some (.list ps)
    | none => none
  | .node _ _ => none
def toPs : List D → Option (List PyData)
  | [] => some []
  | d :: ds => match toP d, toPs ds with
    | some p, some ps => some (p :: ps)
    | _, _ => none
end
mutual
theorem dp_of {H : Hp} : ∀ (d : D) (v : V) (p : PyData), Rep K H v d → toP d = some p → Dp K H v p
  | .leaf .non, v, p, r, h => by unfold Rep at r; subst r; unfold toP at h; cases h; exact .non
  | .leaf (.bl b), v, p, r, h => by unfold Rep at r; subst r; unfold toP at h; cases h; exact .bl b
  | .leaf (.int i), v, p, r, h => by unfold Rep at r; subst r; unfold toP at h; cases h; exact .int i
  | .leaf (.str x), v, p, r, h => by unfold Rep at r; subst r; unfold toP at h; cases h; exact .str x
  | .leaf (.byt x), v, p, r, h => by unfold toP at h; cases h
  | .leaf (.flt x), v, p, r, h => by unfold toP at h; cases h
  | .leaf (.ref x), v, p, r, h => by unfold toP at h; cases h
  | .leaf (.ty x), v, p, r, h => by unfold toP at h; cases h
  | .node .lst ds, v, p, r, h => by
    unfold Rep at r
    obtain ⟨a, xs, rfl, ho, rs⟩ := r
    unfold toP at h
    split at h
    · rename_i ps hp; cases h; exact .lst (.of ho) (dps_of ds xs ps rs hp)
    · cases h
  | .node .scr ds, v, p, r, h => by
    unfold Rep at r
    obtain ⟨a, xs, rfl, ho, rs⟩ := r
    unfold toP at h
    split at h
    · rename_i ps hp; cases h; exact .lst ho (dps_of ds xs ps rs hp)
    · cases h
  | .node .tup ds, v, p, r, h => by
    unfold Rep at r
    obtain ⟨a, xs, rfl, ho, rs⟩ := r
    unfold toP at h
    split at h
    · rename_i ps hp; cases h; exact .tup ho (dps_of ds xs ps rs hp)
    · cases h
  | .node (.dk _) ds, v, p, r, h => by unfold toP at h; cases h
  | .node (.dt _) ds, v, p, r, h => by unfold toP at h; cases h
  | .node (.ins _ _) ds, v, p, r, h => by unfold toP at h; cases h
theorem dps_of {H : Hp} : ∀ (ds : List D) (xs : List V) (ps : List PyData), Reps K H xs ds → toPs ds = some ps → DpAll K H xs ps
  | [], xs, ps, r, h => by
    unfold toPs at h; cases h
    rw [r.nil_of]
    exact .nil
  | d :: ds, xs, ps, r, h => by
    obtain ⟨x, ys, rfl, r1, r2⟩ := r.cons_of
    unfold toPs at h
    split at h
    · rename_i p q h1 h2
      cases h
      exact .cons (dp_of d x p r1 h1) (dps_of ds ys q r2 h2)
    · cases h
end
/-- == -/
def eqD (d e : D) : Option Bool := match d, e with
  | .leaf u, .leaf w => if scal u w then some (decide (u = w)) else none
  | _, _ => match toP d, toP e with
    | some p, some q => if SeqAt.shaped p && SeqAt.shaped q then some (PyData.eqv p q) else none
    | _, _ => none
def gEq (d e : D) : Option Out := match eqD d e with
  | some b => some (.old (.leaf (.bl b)))
  | none => none
def gNe (d e : D) : Option Out := match eqD d e with
  | some b => some (.old (.leaf (.bl (!b))))
  | none => none
theorem opEq {X : Cx} {k : Nat} (hr : RoomG k X.A) : OpR X (compareOp .Eq) (fun x y H Q => rEq x y H Q ∨ rEqD X.K x y H Q) := op_eq.or (op_eqD hr.room.units)
theorem opNe {X : Cx} {k : Nat} (hr : RoomG k X.A) : OpR X (compareOp .NotEq) (fun x y H Q => rNe x y H Q ∨ rNeD X.K x y H Q) := op_ne.or (op_neD hr.room.units)
theorem eqD_of {M H : Hp} {x y : V} {d e : D} {b : Bool} (s : Sub M H) (rx : RepH K M H x d) (ry : RepH K M H y e) (h : eqD d e = some b) : (scal x y = true ∧ b = decide (x = y)) ∨ ∃ p q, Dp K H x p ∧ Dp K H y q ∧ SeqAt.shaped p = true ∧ SeqAt.shaped q = true ∧ b = PyData.eqv p q := by
  have gen : (match toP d, toP e with
    | some p, some q => if SeqAt.shaped p && SeqAt.shaped q then some (PyData.eqv p q) else none
    | _, _ => none) = some b → ∃ p q, Dp K H x p ∧ Dp K H y q ∧ SeqAt.shaped p = true ∧ SeqAt.shaped q = true ∧ b = PyData.eqv p q := fun h => by
    split at h
    · rename_i p q h1 h2
      split at h
      · rename_i hs
        rw [Bool.and_eq_true] at hs
        cases h
        exact ⟨p, q, dp_of d x p (rx.full s) h1, dp_of e y q (ry.full s) h2, hs.1, hs.2, rfl⟩
      · cases h
    · cases h
  cases d with
  | leaf u =>
    cases e with
    | leaf w =>
      unfold eqD at h
      dsimp only at h
      split at h
      · rename_i hs
        cases h
        cases (show x = u from rx)
        cases (show y = w from ry)
        exact .inl ⟨hs, rfl⟩
      · cases h
    | node t ds => exact .inr (gen h)
  | node t ds => exact .inr (gen h)
theorem s2Eq : S2 K (fun x y H Q => rEq x y H Q ∨ rEqD K x y H Q) gEq := by
  intro M H x y d e o Q s rx ry hg q
  unfold gEq at hg
  split at hg
  · rename_i b hb
    cases hg
    rcases eqD_of s rx ry hb with ⟨hs, rfl⟩ | ⟨p1, q1, h1, h2, h3, h4, rfl⟩
    · exact .inl ⟨hs, q _ (by unfold Rep; rfl)⟩
    · exact .inr ⟨p1, q1, h1, h2, h3, h4, q _ (by unfold Rep; rfl)⟩
  · cases hg
theorem s2Ne : S2 K (fun x y H Q => rNe x y H Q ∨ rNeD K x y H Q) gNe := by
  intro M H x y d e o Q s rx ry hg q
  unfold gNe at hg
  split at hg
  · rename_i b hb
    cases hg
    rcases eqD_of s rx ry hb with ⟨hs, rfl⟩ | ⟨p1, q1, h1, h2, h3, h4, rfl⟩
    · exact .inl ⟨hs, q _ (by unfold Rep; rfl)⟩
    · exact .inr ⟨p1, q1, h1, h2, h3, h4, q _ (by unfold Rep; rfl)⟩
  · cases hg
/-- is None -/
def isNon : D → Bool
  | .leaf u => decide (u = .non)
  | .node _ _ => false
def gIsN : D → D → Option Out := fun d e => match e with
  | .leaf .non => some (.old (.leaf (.bl (isNon d))))
  | _ => none
def gNotN : D → D → Option Out := fun d e => match e with
  | .leaf .non => some (.old (.leaf (.bl (!isNon d))))
  | _ => none
theorem isNon_of {M H : Hp} {x : V} {d : D} (r : RepH K M H x d) : decide (x = .non) = isNon d := by
  cases d with
  | leaf u => cases (show x = u from r); rfl
  | node t ds =>
    obtain ⟨a, xs, rfl, _⟩ := r
    rfl
theorem s2IsN : S2 K (fun x y H Q => y = .non ∧ Q (.bl (decide (x = .non))) H) gIsN := by
  intro M H x y d e o Q s rx ry hg q
  unfold gIsN at hg
  split at hg
  · cases hg
    exact ⟨ry, by rw [isNon_of rx]; exact q _ (by unfold Rep; rfl)⟩
  · cases hg
theorem s2NotN : S2 K (fun x y H Q => y = .non ∧ Q (.bl (!decide (x = .non))) H) gNotN := by
  intro M H x y d e o Q s rx ry hg q
  unfold gNotN at hg
  split at hg
  · cases hg
    exact ⟨ry, by rw [isNon_of rx]; exact q _ (by unfold Rep; rfl)⟩
  · cases hg

/-! ### subscripts -/
/-- what a dict holds: keys and items side by side -/
def getK {κ α : Type} [DecidableEq κ] (k : κ) : List κ → List α → Option α
  | k' :: ks, x :: xs => if k' = k then some x else getK k ks xs
  | _, _ => none
theorem getK_val {κ : Type} [DecidableEq κ] {M : Hp} {k : κ} : ∀ {ks : List κ} {xs : List V} {ds : List D}, Reps K M xs ds → (∀ d, getK k ks ds = some d → ∃ v, valV (ks.zip xs) k = some v ∧ Rep K M v d) ∧ (getK k ks ds = none → valV (ks.zip xs) k = none)
  | [], xs, ds, r => by
    refine ⟨(fun d h => by cases ds <;> cases h), fun _ => by cases xs <;> rfl⟩
  | k' :: ks, [], [], r => ⟨(fun d h => by cases h), fun _ => rfl⟩
  | k' :: ks, [], _ :: _, r => by unfold Reps at r; exact r.elim
  | k' :: ks, _ :: _, [], r => by unfold Reps at r; exact r.elim
  | k' :: ks, x :: xs, d :: ds, r => by
    obtain ⟨r1, r2⟩ := r.of_cons
    obtain ⟨i1, i2⟩ := getK_val (k := k) (ks := ks) r2
    rw [List.zip_cons_cons]
    by_cases hk : k' = k
    · rw [valV_pos (p := (k', x)) hk]
      refine ⟨fun e h => ?_, fun h => ?_⟩
      · unfold getK at h
        rw [if_pos hk] at h
        cases h
        exact ⟨x, rfl, r1⟩
      · unfold getK at h
        rw [if_pos hk] at h
        cases h
    · rw [valV_neg (p := (k', x)) hk]
      refine ⟨fun e h => ?_, fun h => ?_⟩
      · unfold getK at h
        rw [if_neg hk] at h
        exact i1 e h
      · unfold getK at h
        rw [if_neg hk] at h
        exact i2 h
theorem atI_reps {M : Hp} {xs : List V} {ds : List D} {i : Int} {d : D} (r : Reps K M xs ds) (h : atI ds i = some d) : ∃ v, atI xs i = some v ∧ Rep K M v d := by
  unfold atI at h ⊢
  rw [r.length]
  cases hn : ixN ds.length i with
  | none => rw [hn] at h; cases h
  | some j =>
    rw [hn] at h
    exact r.get h
def gIx : D → D → Option Out
  | .node .lst ds, .leaf (.int i) => (atI ds i).map .old
  | .node .tup ds, .leaf (.int i) => (atI ds i).map .old
  | .node .scr ds, .leaf (.int i) => (atI ds i).map .old
  | .leaf (.str z), .leaf (.int i) => if z.length ≤ 16777216 then (atI z.cps.toList i).map fun c => .old (.leaf (.str ⟨#[c]⟩)) else none
  | _, _ => none
theorem opIx {X : Cx} : IxR X (fun x y H Q => (rIxL X.K x y H Q ∨ rIxT X.K x y H Q) ∨ rIxS x y H Q) := fun value slice pins s σ H x y v u Q I rx ry q hs =>
  ix_seq value slice pins s σ H x y v u Q I rx ry (q.elim (fun z => z.elim .inl fun z => .inr (.inl z)) fun z => .inr (.inr z)) hs
theorem s2Ix : S2 K (fun x y H Q => (rIxL K x y H Q ∨ rIxT K x y H Q) ∨ rIxS x y H Q) gIx := by
  intro M H x y d e o Q s rx ry hg q
  have seq : ∀ {ds : List D} {xs : List V} {i : Int}, Reps K M xs ds → (atI ds i).map Out.old = some o → ∃ v, atI xs i = some v ∧ Q v H := fun {ds xs i} r h => by
    cases ha : atI ds i with
    | none => rw [ha] at h; cases h
    | some d =>
      rw [ha] at h
      cases h
      obtain ⟨v, h1, h2⟩ := atI_reps r ha
      exact ⟨v, h1, q v h2⟩
  unfold gIx at hg
  split at hg
  · rename_i ds i
    obtain ⟨a, xs, rfl, ho, rs⟩ := rx
    obtain ⟨v, h1, h2⟩ := seq rs hg
    exact .inl (.inl ⟨a, xs, i, v, rfl, ry, .of ho, h1, h2⟩)
  · rename_i ds i
    obtain ⟨a, xs, rfl, ho, rs⟩ := rx
    obtain ⟨v, h1, h2⟩ := seq rs hg
    exact .inl (.inr ⟨a, xs, i, v, rfl, ry, ho, h1, h2⟩)
  · rename_i ds i
    obtain ⟨a, xs, rfl, ho, rs⟩ := rx
    obtain ⟨v, h1, h2⟩ := seq rs hg
    exact .inl (.inl ⟨a, xs, i, v, rfl, ry, ho, h1, h2⟩)
  · rename_i z i
    split at hg
    · rename_i hl
      cases hc : atI z.cps.toList i with
      | none => rw [hc] at hg; cases hg
      | some c =>
        rw [hc] at hg
        cases hg
        exact .inr ⟨z, i, c, rx, ry, by rw [sizeLine_eq]; exact hl, hc, q _ (by unfold Rep; rfl)⟩
    · cases hg
  · cases hg
/-- d[k], k an int or a text -/
def gGet : D → D → Option Out
  | .node (.dk ks) ds, .leaf (.int i) => (getK (Sum.inl i) ks ds).map .old
  | .node (.dk ks) ds, .leaf (.str x) => (getK (Sum.inr x) ks ds).map .old
  | _, _ => none
def rGet : R2 := fun x y H Q => ∃ a v, x = .ref a ∧ DGet H a y (some v) ∧ Q v H
theorem s2Get : S2 K rGet gGet := by
  intro M H x y d e o Q s rx ry hg q
  unfold gGet at hg
  split at hg
  · rename_i ks ds i
    obtain ⟨a, xs, rfl, ⟨hl, ho⟩, rs⟩ := rx
    cases hk : getK (Sum.inl i : Key) ks ds with
    | none => rw [hk] at hg; cases hg
    | some d =>
      rw [hk] at hg
      cases hg
      obtain ⟨v, h1, h2⟩ := (getK_val rs).1 d hk
      exact ⟨a, v, rfl, .inl ⟨_, Sum.inl i, ho, ry, h1.symm⟩, q v h2⟩
  · rename_i ks ds z
    obtain ⟨a, xs, rfl, ⟨hl, ho⟩, rs⟩ := rx
    cases hk : getK (Sum.inr z : Key) ks ds with
    | none => rw [hk] at hg; cases hg
    | some d =>
      rw [hk] at hg
      cases hg
      obtain ⟨v, h1, h2⟩ := (getK_val rs).1 d hk
      exact ⟨a, v, rfl, .inl ⟨_, Sum.inr z, ho, ry, h1.symm⟩, q v h2⟩
  · cases hg
end
section
variable {X : Cx} {W : WX} {pos p2 : Pos} {a b o i e : Expr} {A B : EF} {k : Nat}
theorem de_dget (ha : DE X W o A) (hb : DE X W i B) (hr : RoomG k X.A) (hs : NoSl i := by exact fun _ _ => rfl) : DE X W (.Subscript o i pos) (eBin gGet A B) := by
  refine PEimp (pe_dget (hu_of hr.room) ha hb hs) fun σ H Q h => ?_
  exact bin_core s2Get h
theorem eBin_or {g g' : D → D → Option Out} {t t' : TE} (h : PE X e t) (h' : PE X e t') (k1 : ∀ σ H Q, tE X.K W (eBin g A B) σ H Q → t σ H Q) (k2 : ∀ σ H Q, tE X.K W (eBin g' A B) σ H Q → t' σ H Q) :
    PE X e (fun σ H Q => tE X.K W (eBin g A B) σ H Q ∨ tE X.K W (eBin g' A B) σ H Q) := ⟨fun pins s σ H Q I q => q.elim (fun z => h.run pins s σ H Q I (k1 σ H Q z)) fun z => h'.run pins s σ H Q I (k2 σ H Q z)⟩
/-- slices -/
def cutD {α : Type} (xs : List α) (lo hi : Option Int) : List α := (xs.drop (HT.sIx xs.length 0 lo)).take (HT.sIx xs.length xs.length hi - HT.sIx xs.length 0 lo)
inductive ResO where
  | val (o : Option Int)
  | exc (x : Exc)
abbrev OF := Gam → Option (ResO × Gam)
def oNone : OF := fun Γ => some (.val none, Γ)
def oSome (A : EF) : OF := fun Γ => match A Γ with
  | some (.val c, Γ1) => (match look Γ1 c with
    | some (.leaf (.int i)) => some (.val (some i), Γ1)
    | _ => none)
  | some (.exc x, Γ1) => some (.exc x, Γ1)
  | none => none
def tO (K : PySem.W.Frag) (W : WX) (F : OF) : TO := fun σ H Q => ∃ f M τ T Γ r Γ', Good K f M H τ T σ Γ ∧ F Γ = some (r, Γ') ∧ match r with
  | .val o => ∀ H' M', Good K f M' H' τ T σ Γ' → Q o H'
  | .exc x => PostX K W f τ T σ x Γ'
abbrev DO (X : Cx) (W : WX) (e : Option Expr) (F : OF) : Prop := PO X e (tO X.K W F)
theorem POimp {e : Option Expr} {t t' : TO} (h : PO X e t) (k : ∀ σ H Q, t' σ H Q → t σ H Q) : PO X e t' := ⟨fun pins s σ H Q I q => h.run pins s σ H Q I (k σ H Q q)⟩
theorem do_none : DO X W none oNone := by
  refine POimp po_none fun σ H Q h => ?_
  obtain ⟨f, M, τ, T, Γ, r, Γ', G, hF, p⟩ := h
  cases hF
  exact p H M G
theorem do_some (h : DE X W e A) : DO X W (some e) (oSome A) := by
  refine POimp (po_some h) fun σ H Q h => ?_
  obtain ⟨f, M, τ, T, Γ, r, Γ', G, hF, p⟩ := h
  unfold oSome at hF
  split at hF
  · rename_i c Γ1 hA
    split at hF
    · rename_i i hi
      cases hF
      exact ⟨f, M, τ, T, Γ, _, Γ', G, hA, fun v H1 M1 G1 => ⟨i, G1.look (k := .inl 0) rfl hi, p H1 M1 G1.pop⟩⟩
    · cases hF
  · rename_i x Γ1 hA
    cases hF
    exact ⟨f, M, τ, T, Γ, _, Γ', G, hA, p⟩
  · cases hF
def gCut (lo hi : Option Int) : D → Option Out
  | .node .lst ds => some (.new .lst (cutD ds lo hi))
  | .node .scr ds => some (.new .lst (cutD ds lo hi))
  | .node .tup ds => if HT.sIx ds.length 0 lo = 0 ∧ HT.sIx ds.length ds.length hi = ds.length then some (.old (.node .tup ds)) else some (.new .tup (cutD ds lo hi))
  | .leaf (.str z) => if z.length ≤ 16777216 then some (.old (.leaf (.str (cutS z lo hi)))) else none
  | _ => none
def eSlice (A : EF) (F F' : OF) : EF := bindE A fun c Γ => match F Γ with
  | some (.val lo, Γ1) => (match F' Γ1 with
    | some (.val hi, Γ2) => (match look Γ2 c with
      | some d => eOut (gCut lo hi d) Γ2
      | none => none)
    | some (.exc x, Γ2) => some (.exc x, Γ2)
    | none => none)
  | some (.exc x, Γ1) => some (.exc x, Γ1)
  | none => none
theorem cut_reps {K : PySem.W.Frag} {M : Hp} {xs : List V} {ds : List D} {lo hi : Option Int} (r : Reps K M xs ds) : Reps K M (cutV xs lo hi) (cutD ds lo hi) := by
  unfold cutV cutD
  rw [r.length]
  exact (r.drop _).take _
theorem de_slice {lo hi : Option Expr} {F F' : OF} (he : DE X W e A) (hl : DO X W lo F) (hu : DO X W hi F') : DE X W (.Subscript e (.Slice lo hi none p2) pos) (eSlice A F F') := by
  refine PEimp (pe_slice ((sl_list.or sl_tupA).or sl_str) he hl hu) fun σ H Q h => ?_
  obtain ⟨f, M, τ, T, Γ, r, Γ', G, hF, p⟩ := h
  refine run1 G hF p fun c Γ1 v H1 M1 G1 e => ?_
  split at e
  · rename_i l Γ2 h1
    refine ⟨f, M1, _, _, Γ1, _, Γ2, G1, h1, fun H2 M2 G2 => ?_⟩
    split at e
    · rename_i u Γ3 h2
      refine ⟨f, M2, _, _, Γ2, _, Γ3, G2, h2, fun H3 M3 G3 => ?_⟩
      split at e
      · rename_i d hd
        obtain ⟨o, ho, hk, rfl, rfl⟩ := eOut_some e
        have rd := G3.look (k := .inl 0) rfl hd
        have q := G3.pop.out (okNew_of hk) p
        unfold gCut at ho
        split at ho
        · rename_i ds
          cases ho
          obtain ⟨a, xs, rfl, h3, rs⟩ := rd
          exact .inl (.inl ⟨a, xs, rfl, .of h3, fun p hp => q.2 p _ hp (cut_reps rs)⟩)
        · rename_i ds
          cases ho
          obtain ⟨a, xs, rfl, h3, rs⟩ := rd
          exact .inl (.inl ⟨a, xs, rfl, h3, fun p hp => q.2 p _ hp (cut_reps rs)⟩)
        · rename_i ds
          split at ho
          · rename_i hn
            cases ho
            obtain ⟨a, xs, rfl, h3, rs⟩ := rd
            exact .inl (.inr ⟨a, xs, rfl, h3, fun _ => q _ (G3.lookT (k := .inl 0) rfl hd _ rfl), fun z => (z (by rw [rs.length]; exact hn)).elim⟩)
          · rename_i hn
            cases ho
            obtain ⟨a, xs, rfl, h3, rs⟩ := rd
            exact .inl (.inr ⟨a, xs, rfl, h3, fun z => (hn (by rw [← rs.length]; exact z)).elim, fun _ p hp => q.2 p _ hp (cut_reps rs)⟩)
        · rename_i z
          split at ho
          · rename_i hz
            cases ho
            exact .inr ⟨z, rd, by rw [sizeLine_eq]; exact hz, q _ (by unfold Rep; rfl)⟩
          · cases ho
        · cases ho
      · cases e
    · rename_i x Γ3 h2
      cases e
      exact ⟨f, M2, _, _, Γ2, _, Γ', G2, h2, PostX.pop p⟩
    · cases e
  · rename_i x Γ2 h1
    cases e
    exact ⟨f, M1, _, _, Γ1, _, Γ', G1, h1, PostX.pop p⟩
  · cases e
/-- a < b < c -/
theorem de_chain {C : EF} {op op' : CmpOp} {r r' : R2} {g g' : D → D → Option Out} (ho : OpR X (compareOp op) r) (ho' : OpR X (compareOp op') r') (hs : S2 X.K r g) (hs' : S2 X.K r' g')
    (pe : PE X e (tChain r r' (tE X.K W A) (tE X.K W B) (tE X.K W C))) : DE X W e (eChain g g' A B C) := by
  refine PEimp pe fun σ H Q h => ?_
  obtain ⟨f, M, τ, T, Γ, rr, Γ', G, hF, p⟩ := h
  refine run1 G hF p fun c1 Γ1 v H1 M1 G1 e1 => ?_
  refine run2 G1 e1 p fun c2 Γ2 v' H2 M2 G2 e2 => ?_
  split at e2
  · rename_i d d' hd hd'
    split at e2
    · rename_i hg
      refine hs M2 H2 v v' d d' _ _ G2.sub (G2.look (k := .inl 1) rfl hd) (G2.look (k := .inl 0) rfl hd') hg fun w hw => ?_
      unfold Rep at hw
      refine ⟨true, hw, iteT ?_⟩
      refine run3 G2 e2 p fun c3 Γ3 v3 H3 M3 G3 e3 => ?_
      split at e3
      · rename_i d2 d3 h2 h3
        obtain ⟨o, ho, hk, rfl, rfl⟩ := eOut_some e3
        exact hs' M3 H3 v' v3 d2 d3 o Q G3.sub (G3.look (k := .inl 1) rfl h2) (G3.look (k := .inl 0) rfl h3) ho (G3.pop.pop.pop.out (okNew_of hk) p)
      · cases e3
    · rename_i hg
      cases e2
      refine hs M2 H2 v v' d d' _ _ G2.sub (G2.look (k := .inl 1) rfl hd) (G2.look (k := .inl 0) rfl hd') hg fun w hw => ?_
      unfold Rep at hw
      exact ⟨false, hw, iteF (p _ H2 M2 (G2.pop.pop.pushSh (by unfold Rep; rfl)))⟩
    · cases e2
  · cases e2
end
end DL

set_option Elab.async false
set_option linter.all false
set_option maxRecDepth 100000
set_option maxHeartbeats 1000000
/-! built-ins by values, changes of owned objects -/
namespace DL
open PySem PySem.Spec PyProof.Rows L2

/-! ### built-in calls -/
section
variable {K : PySem.W.Frag}
def RepHs (K : PySem.W.Frag) (M H : Hp) : List V → List D → Prop
  | [], [] => True
  | x :: xs, d :: ds => RepH K M H x d ∧ RepHs K M H xs ds
  | [], _ :: _ => False
  | _ :: _, [] => False
theorem RepHs.one {M H : Hp} {xs : List V} {d : D} (r : RepHs K M H xs [d]) : ∃ x, xs = [x] ∧ RepH K M H x d := by
  match xs, r with
  | [x], r => exact ⟨x, rfl, r.1⟩
theorem RepHs.two {M H : Hp} {xs : List V} {d e : D} (r : RepHs K M H xs [d, e]) : ∃ x y, xs = [x, y] ∧ RepH K M H x d ∧ RepH K M H y e := by
  match xs, r with
  | [x, y], r => exact ⟨x, y, rfl, r.1, r.2.1⟩
def lookL (Γ : Gam) : List Cell → Option (List D)
  | [] => some []
  | c :: cs => match look Γ c, lookL Γ cs with
    | some d, some ds => some (d :: ds)
    | _, _ => none
theorem Good.lookL {f : Frm} {M H : Hp} {σ : L2.St} {Γ : Gam} : ∀ {vs : List V} {cs : List Cell} {ds : List D} {τ : List V} {T : List Cell}, vs.length = cs.length → lookL Γ cs = some ds →
    Good K f M H (vs.reverse ++ τ) (cs.reverse ++ T) σ Γ → RepHs K M H vs ds ∧ Good K f M H τ T σ Γ
  | [], [], ds, τ, T, _, h, G => by cases h; exact ⟨trivial, G⟩
  | [], _ :: _, _, _, _, hl, _, _ => by cases hl
  | _ :: _, [], _, _, _, hl, _, _ => by cases hl
  | v :: vs, c :: cs, ds, τ, T, hl, h, G => by
    rw [List.reverse_cons, List.reverse_cons, List.append_assoc, List.append_assoc] at G
    unfold DL.lookL at h
    split at h
    · rename_i d ds' h1 h2
      cases h
      obtain ⟨r, G'⟩ := Good.lookL (τ := v :: τ) (T := c :: T) (by simpa using hl) h2 G
      exact ⟨⟨G'.look (k := .inl 0) rfl h1, r⟩, G'.pop⟩
    · cases h
def SH (K : PySem.W.Frag) (r : List V → Hp → VK → Prop) (g : List D → Option Out) : Prop := ∀ M H xs ds o Q, Sub M H → RepHs K M H xs ds → g ds = some o → (OutOk K M H o Q → r xs H Q)
def eBI (g : List D → Option Out) (L : AF) : EF := bindL L fun cs Γ => match lookL Γ cs with
  | some ds => eOut (g ds) Γ
  | none => none
end
section
variable {X : Cx} {W : WX} {pos p : Pos} {x : Str} {e : Expr} {es : List Expr} {L : AF} {id T : String} {r : List V → Hp → VK → Prop} {g : List D → Option Out} {k : Nat}
theorem bi_core (hs : SH X.K r g) {σ : L2.St} {H : Hp} {Q : VK} (h : tE X.K W (eBI g L) σ H Q) : (tL X.K W L) σ H fun xs H1 => r xs H1 Q := by
  obtain ⟨f, M, τ, T, Γ, ra, Γ', G, hF, p⟩ := h
  refine runL G hF p fun cs Γ1 vs H1 M1 hl G1 e => ?_
  split at e
  · rename_i ds hd
    obtain ⟨o, ho, hk, rfl, rfl⟩ := eOut_some e
    obtain ⟨rs, G2⟩ := G1.lookL hl hd
    exact hs M1 H1 vs ds o Q G2.sub rs ho (G2.out (okNew_of hk) p)
  · cases e
theorem de_callB (hc : CallR X (.builtin id) r) (hs : SH X.K r g) (hm : X.mg x = none) (hv : bootBuiltins x = some (.builtin id)) (ha : DA X W (e :: es) L) (hg : Gl X x := by rfl) (hn : x ≠ "__name__" := by decide) (hdb : (x == ("__debug__" : Str)) = false := by decide)
    (he : starEach (e :: es) X.env = (false, eval e X.env) :: starEach es X.env := by rfl) (hpl : (backTo pos (starEach es X.env)).any (·.1) = false := by rfl) : DE X W (.Call (.Name x p) (e :: es) [] pos) (eBI g L) :=
  PEimp (pe_callB hc hg hm hv ha hn hdb he hpl) fun _ _ _ h => bi_core hs h
theorem de_callTy (hc : CallR X (.type T) r) (hs : SH X.K r g) (hm : X.mg x = none) (hv : bootBuiltins x = some (.type T)) (ha : DA X W (e :: es) L) (hg : Gl X x := by rfl) (hn : x ≠ "__name__" := by decide) (hdb : (x == ("__debug__" : Str)) = false := by decide)
    (he : starEach (e :: es) X.env = (false, eval e X.env) :: starEach es X.env := by rfl) (hpl : (backTo pos (starEach es X.env)).any (·.1) = false := by rfl) : DE X W (.Call (.Name x p) (e :: es) [] pos) (eBI g L) :=
  PEimp (pe_callTy hc hg hm hv ha hn hdb he hpl) fun _ _ _ h => bi_core hs h
theorem CallRor {f : Value} {r r' : List V → Hp → VK → Prop} (h : CallR X f r) (h' : CallR X f r') : CallR X f (fun xs H Q => r xs H Q ∨ r' xs H Q) := fun pins s σ H xs us Q I rv q => q.elim (h pins s σ H xs us Q I rv) (h' pins s σ H xs us Q I rv)
end

/-- len -/
def gLen : List D → Option Out
  | [.node .lst ds] => some (.old (.leaf (.int ds.length)))
  | [.node .tup ds] => some (.old (.leaf (.int ds.length)))
  | [.node .scr ds] => some (.old (.leaf (.int ds.length)))
  | [.node (.dk _) ds] => some (.old (.leaf (.int ds.length)))
  | [.leaf (.str z)] => if z.length ≤ 16777216 then some (.old (.leaf (.int z.length))) else none
  | _ => none
theorem call_lenDK {X : Cx} : CallR X (.builtin "len") (fun xs H Q => ∃ a kvs, xs = [.ref a] ∧ Rd H a (.dK kvs) ∧ Q (.int kvs.length) H) := by
  intro pins s σ H xs us Q I r h
  obtain ⟨a, kvs, rfl, hd, q⟩ := h
  obtain rfl := Vals.ref1 r
  exact d_len I hd fun t s' I' => ⟨.int kvs.length, H, I', ⟨t, rfl⟩, q⟩
theorem opLen {X : Cx} : CallR X (.builtin "len") (fun xs H Q => (∃ x n, xs = [x] ∧ LenV X.K x H n ∧ Q (.int n) H) ∨ ∃ a kvs, xs = [.ref a] ∧ Rd H a (.dK kvs) ∧ Q (.int kvs.length) H) := CallRor call_len call_lenDK
theorem shLen {K : PySem.W.Frag} : SH K (fun xs H Q => (∃ x n, xs = [x] ∧ LenV K x H n ∧ Q (.int n) H) ∨ ∃ a kvs, xs = [.ref a] ∧ Rd H a (.dK kvs) ∧ Q (.int kvs.length) H) gLen := by
  intro M H xs ds o Q s r h q
  unfold gLen at h
  split at h
  · cases h
    obtain ⟨x, rfl, a, ys, rfl, ho, rs⟩ := r.one
    exact .inl ⟨_, _, rfl, .inl ⟨ys, .of ho, rfl⟩, by rw [rs.length]; exact q _ (by unfold Rep; rfl)⟩
  · cases h
    obtain ⟨x, rfl, a, ys, rfl, ho, rs⟩ := r.one
    exact .inl ⟨_, _, rfl, .inr ⟨ys, ho, rfl⟩, by rw [rs.length]; exact q _ (by unfold Rep; rfl)⟩
  · cases h
    obtain ⟨x, rfl, a, ys, rfl, ho, rs⟩ := r.one
    exact .inl ⟨_, _, rfl, .inl ⟨ys, ho, rfl⟩, by rw [rs.length]; exact q _ (by unfold Rep; rfl)⟩
  · rename_i ks ds
    cases h
    obtain ⟨x, rfl, a, ys, rfl, ⟨hl, ho⟩, rs⟩ := r.one
    refine .inr ⟨a, _, rfl, ho, ?_⟩
    rw [List.length_zip, hl, Nat.min_self, rs.length]
    exact q _ (by unfold Rep; rfl)
  · rename_i z
    split at h
    · rename_i hz
      cases h
      obtain ⟨x, rfl, hx⟩ := r.one
      cases (show x = V.str z from hx)
      exact .inl ⟨_, _, rfl, ⟨by rw [sizeLine_eq]; exact hz, rfl⟩, q _ (by unfold Rep; rfl)⟩
    · cases h
  · cases h
/-- abs, min and max of two ints -/
def gAbs : List D → Option Out
  | [.leaf (.int i)] => some (.old (.leaf (.int (if i < 0 then -i else i))))
  | _ => none
theorem shAbs {K : PySem.W.Frag} : SH K (fun xs H Q => ∃ i, xs = [.int i] ∧ Q (.int (if i < 0 then -i else i)) H) gAbs := by
  intro M H xs ds o Q s r h q
  unfold gAbs at h
  split at h
  · rename_i i
    cases h
    obtain ⟨x, rfl, hx⟩ := r.one
    cases (show x = V.int i from hx)
    exact ⟨i, rfl, q _ (by unfold Rep; rfl)⟩
  · cases h
def gMin2 : List D → Option Out
  | [.leaf (.int i), .leaf (.int j)] => some (.old (.leaf (.int (if j < i then j else i))))
  | _ => none
def gMax2 : List D → Option Out
  | [.leaf (.int i), .leaf (.int j)] => some (.old (.leaf (.int (if j > i then j else i))))
  | _ => none
theorem shMin2 {K : PySem.W.Frag} : SH K (fun xs H Q => ∃ i j, xs = [.int i, .int j] ∧ Q (.int (if j < i then j else i)) H) gMin2 := by
  intro M H xs ds o Q s r h q
  unfold gMin2 at h
  split at h
  · rename_i i j
    cases h
    obtain ⟨x, y, rfl, hx, hy⟩ := r.two
    cases (show x = V.int i from hx)
    cases (show y = V.int j from hy)
    exact ⟨i, j, rfl, q _ (by unfold Rep; rfl)⟩
  · cases h
theorem shMax2 {K : PySem.W.Frag} : SH K (fun xs H Q => ∃ i j, xs = [.int i, .int j] ∧ Q (.int (if j > i then j else i)) H) gMax2 := by
  intro M H xs ds o Q s r h q
  unfold gMax2 at h
  split at h
  · rename_i i j
    cases h
    obtain ⟨x, y, rfl, hx, hy⟩ := r.two
    cases (show x = V.int i from hx)
    cases (show y = V.int j from hy)
    exact ⟨i, j, rfl, q _ (by unfold Rep; rfl)⟩
  · cases h
/-- list(x), tuple(a list) -/
def gList : List D → Option Out
  | [.node .lst ds] => some (.new .lst ds)
  | [.node .tup ds] => some (.new .lst ds)
  | [.node .scr ds] => some (.new .lst ds)
  | _ => none
theorem shList {K : PySem.W.Frag} : SH K (fun xs H Q => ∃ p ys, xs = [.ref p] ∧ (SqL K H p ys ∨ SqT K H p ys) ∧ ∀ l, H l = none → Q (.ref l) (upd H l (.lst ys))) gList := by
  intro M H xs ds o Q s r h q
  unfold gList at h
  split at h
  · cases h
    obtain ⟨x, rfl, a, ys, rfl, ho, rs⟩ := r.one
    exact ⟨a, ys, rfl, .inl (.of ho), fun l hl => q.2 l ys hl rs⟩
  · cases h
    obtain ⟨x, rfl, a, ys, rfl, ho, rs⟩ := r.one
    exact ⟨a, ys, rfl, .inr ho, fun l hl => q.2 l ys hl rs⟩
  · cases h
    obtain ⟨x, rfl, a, ys, rfl, ho, rs⟩ := r.one
    exact ⟨a, ys, rfl, .inl ho, fun l hl => q.2 l ys hl rs⟩
  · cases h
def gTuple : List D → Option Out
  | [.node .lst ds] => some (.new .tup ds)
  | [.node .scr ds] => some (.new .tup ds)
  | _ => none
theorem shTuple {K : PySem.W.Frag} : SH K (fun xs H Q => ∃ p ys, xs = [.ref p] ∧ ((SqL K H p ys ∧ ∀ l, H l = none → Q (.ref l) (upd H l (.tup ys))) ∨ (SqT K H p ys ∧ Q (.ref p) H))) gTuple := by
  intro M H xs ds o Q s r h q
  unfold gTuple at h
  split at h
  · cases h
    obtain ⟨x, rfl, a, ys, rfl, ho, rs⟩ := r.one
    exact ⟨a, ys, rfl, .inl ⟨.of ho, fun l hl => q.2 l ys hl rs⟩⟩
  · cases h
    obtain ⟨x, rfl, a, ys, rfl, ho, rs⟩ := r.one
    exact ⟨a, ys, rfl, .inl ⟨ho, fun l hl => q.2 l ys hl rs⟩⟩
  · cases h
/-- sum, max, min of a list of ints; all, any of a list of bools -/
def intsOf : List D → Option (List Int)
  | [] => some []
  | .leaf (.int i) :: ds => (intsOf ds).map (i :: ·)
  | _ :: _ => none
theorem intsOf_reps {K : PySem.W.Frag} {M : Hp} : ∀ {ds : List D} {ns : List Int} {xs : List V}, intsOf ds = some ns → Reps K M xs ds → xs = ns.map V.int
  | [], ns, xs, h, r => by cases h; exact r.nil_of
  | .leaf (.int i) :: ds, ns, xs, h, r => by
    obtain ⟨x, ys, rfl, r1, r2⟩ := r.cons_of
    unfold intsOf at h
    cases hd : intsOf ds with
    | none => rw [hd] at h; cases h
    | some ms =>
      rw [hd] at h
      cases h
      unfold Rep at r1
      rw [r1, intsOf_reps hd r2]
      rfl
  | .leaf .non :: _, _, _, h, _ => by cases h
  | .leaf (.bl _) :: _, _, _, h, _ => by cases h
  | .leaf (.str _) :: _, _, _, h, _ => by cases h
  | .leaf (.byt _) :: _, _, _, h, _ => by cases h
  | .leaf (.flt _) :: _, _, _, h, _ => by cases h
  | .leaf (.ref _) :: _, _, _, h, _ => by cases h
  | .leaf (.ty _) :: _, _, _, h, _ => by cases h
  | .node _ _ :: _, _, _, h, _ => by cases h
def blsOf : List D → Option (List Bool)
  | [] => some []
  | .leaf (.bl b) :: ds => (blsOf ds).map (b :: ·)
  | _ :: _ => none
theorem blsOf_reps {K : PySem.W.Frag} {M : Hp} : ∀ {ds : List D} {ns : List Bool} {xs : List V}, blsOf ds = some ns → Reps K M xs ds → xs = ns.map V.bl
  | [], ns, xs, h, r => by cases h; exact r.nil_of
  | .leaf (.bl i) :: ds, ns, xs, h, r => by
    obtain ⟨x, ys, rfl, r1, r2⟩ := r.cons_of
    unfold blsOf at h
    cases hd : blsOf ds with
    | none => rw [hd] at h; cases h
    | some ms =>
      rw [hd] at h
      cases h
      unfold Rep at r1
      rw [r1, blsOf_reps hd r2]
      rfl
  | .leaf .non :: _, _, _, h, _ => by cases h
  | .leaf (.int _) :: _, _, _, h, _ => by cases h
  | .leaf (.str _) :: _, _, _, h, _ => by cases h
  | .leaf (.byt _) :: _, _, _, h, _ => by cases h
  | .leaf (.flt _) :: _, _, _, h, _ => by cases h
  | .leaf (.ref _) :: _, _, _, h, _ => by cases h
  | .leaf (.ty _) :: _, _, _, h, _ => by cases h
  | .node _ _ :: _, _, _, h, _ => by cases h
def gSum : List D → Option Out
  | [.node .lst ds] => (intsOf ds).map fun ns => .old (.leaf (.int ns.sum))
  | _ => none
theorem shSum {K : PySem.W.Frag} : SH K (rSum K) gSum := by
  intro M H xs ds o Q s r h q
  unfold gSum at h
  split at h
  · rename_i ds
    obtain ⟨x, rfl, a, ys, rfl, ho, rs⟩ := r.one
    cases hd : intsOf ds with
    | none => rw [hd] at h; cases h
    | some ns =>
      rw [hd] at h
      cases h
      obtain rfl := intsOf_reps hd rs
      exact ⟨a, ns, rfl, .of ho, q _ (by unfold Rep; rfl)⟩
  · cases h
def gAll : List D → Option Out
  | [.node .lst ds] => (blsOf ds).map fun bs => .old (.leaf (.bl (bs.all id)))
  | _ => none
theorem shAll {K : PySem.W.Frag} : SH K (rAll K) gAll := by
  intro M H xs ds o Q s r h q
  unfold gAll at h
  split at h
  · rename_i ds
    obtain ⟨x, rfl, a, ys, rfl, ho, rs⟩ := r.one
    cases hd : blsOf ds with
    | none => rw [hd] at h; cases h
    | some ns =>
      rw [hd] at h
      cases h
      obtain rfl := blsOf_reps hd rs
      exact ⟨a, ns, rfl, .of ho, q _ (by unfold Rep; rfl)⟩
  · cases h
def gAny : List D → Option Out
  | [.node .lst ds] => (blsOf ds).map fun bs => .old (.leaf (.bl (bs.any id)))
  | _ => none
theorem shAny {K : PySem.W.Frag} : SH K (rAny K) gAny := by
  intro M H xs ds o Q s r h q
  unfold gAny at h
  split at h
  · rename_i ds
    obtain ⟨x, rfl, a, ys, rfl, ho, rs⟩ := r.one
    cases hd : blsOf ds with
    | none => rw [hd] at h; cases h
    | some ns =>
      rw [hd] at h
      cases h
      obtain rfl := blsOf_reps hd rs
      exact ⟨a, ns, rfl, .of ho, q _ (by unfold Rep; rfl)⟩
  · cases h
/-- max(xs), min(xs): lists and tuples of ints -/
def maxI : List Int → Int
  | [] => 0
  | n :: ns => ns.foldl max n
def minI : List Int → Int
  | [] => 0
  | n :: ns => ns.foldl min n
theorem foldl_max_ge : ∀ (ns : List Int) (n : Int), n ≤ ns.foldl max n ∧ (∀ y ∈ ns, y ≤ ns.foldl max n) ∧ (ns.foldl max n = n ∨ ns.foldl max n ∈ ns)
  | [], n => ⟨Int.le_refl _, (fun y h => by cases h), .inl rfl⟩
  | m :: ns, n => by
    obtain ⟨h1, h2, h3⟩ := foldl_max_ge ns (max n m)
    rw [List.foldl_cons]
    refine ⟨by omega, fun y hy => ?_, ?_⟩
    · rcases List.mem_cons.mp hy with rfl | hy
      · omega
      · exact h2 y hy
    · rcases h3 with h3 | h3
      · by_cases hm : n ≤ m
        · right
          rw [h3, show max n m = m by omega]
          exact List.mem_cons_self
        · left
          rw [h3]
          omega
      · right
        exact List.mem_cons_of_mem _ h3
theorem foldl_min_le : ∀ (ns : List Int) (n : Int), ns.foldl min n ≤ n ∧ (∀ y ∈ ns, ns.foldl min n ≤ y) ∧ (ns.foldl min n = n ∨ ns.foldl min n ∈ ns)
  | [], n => ⟨Int.le_refl _, (fun y h => by cases h), .inl rfl⟩
  | m :: ns, n => by
    obtain ⟨h1, h2, h3⟩ := foldl_min_le ns (min n m)
    rw [List.foldl_cons]
    refine ⟨by omega, fun y hy => ?_, ?_⟩
    · rcases List.mem_cons.mp hy with rfl | hy
      · omega
      · exact h2 y hy
    · rcases h3 with h3 | h3
      · by_cases hm : m ≤ n
        · right
          rw [h3, show min n m = m by omega]
          exact List.mem_cons_self
        · left
          rw [h3]
          omega
      · right
        exact List.mem_cons_of_mem _ h3
theorem maxI_mem {ns : List Int} (h : ns ≠ []) : maxI ns ∈ ns ∧ ∀ y ∈ ns, y ≤ maxI ns := by
  cases ns with
  | nil => exact (h rfl).elim
  | cons n ns =>
    obtain ⟨h1, h2, h3⟩ := foldl_max_ge ns n
    dsimp only [maxI]
    refine ⟨?_, fun y hy => ?_⟩
    · rcases h3 with h3 | h3
      · rw [h3]; exact List.mem_cons_self
      · exact List.mem_cons_of_mem _ h3
    · rcases List.mem_cons.mp hy with rfl | hy
      · exact h1
      · exact h2 y hy
theorem minI_mem {ns : List Int} (h : ns ≠ []) : minI ns ∈ ns ∧ ∀ y ∈ ns, minI ns ≤ y := by
  cases ns with
  | nil => exact (h rfl).elim
  | cons n ns =>
    obtain ⟨h1, h2, h3⟩ := foldl_min_le ns n
    dsimp only [minI]
    refine ⟨?_, fun y hy => ?_⟩
    · rcases h3 with h3 | h3
      · rw [h3]; exact List.mem_cons_self
      · exact List.mem_cons_of_mem _ h3
    · rcases List.mem_cons.mp hy with rfl | hy
      · exact h1
      · exact h2 y hy
theorem mem_ints {ns : List Int} {d : PyData} (h : d ∈ ns.map PyData.int) : ∃ n, d = .int n := by
  obtain ⟨n, _, rfl⟩ := List.mem_map.mp h
  exact ⟨n, rfl⟩
theorem alike_ints (ns : List Int) : PySem.W.AlikeAll (ns.map PyData.int) := by
  refine ⟨fun x hx y hy => ?_, fun x hx => ?_⟩
  · obtain ⟨n, rfl⟩ := mem_ints hx
    obtain ⟨m, rfl⟩ := mem_ints hy
    unfold PySem.W.alike
    rfl
  · obtain ⟨n, rfl⟩ := mem_ints hx
    intro z
    cases z
theorem depth_ints : ∀ ns : List Int, PyData.depthAll (ns.map PyData.int) = 0
  | [] => by unfold PyData.depthAll; rfl
  | n :: ns => by
    rw [List.map_cons]
    unfold PyData.depthAll
    rw [depth_ints ns]
    unfold PyData.depth
    rfl
theorem readsInts {h : Heap} : ∀ {ns : List Int} {us : List Value}, Vals (ns.map V.int) us → ∃ as, ReadsAll h us (ns.map PyData.int) as
  | [], us, r => by cases r; exact ⟨_, .nil⟩
  | n :: ns, us, r => by
    cases r with
    | cons r1 r2 =>
      obtain ⟨t, rfl⟩ := r1
      obtain ⟨as, q⟩ := readsInts (h := h) r2
      exact ⟨_, .cons (.int n t) q⟩
theorem maxT_call {X : Cx} {k : Nat} (hr : RoomG k X.A) (hc : X.calm = true) : CallR X (.builtin "max") (fun vs H Q => ∃ a ns, vs = [V.ref a] ∧ SqT X.K H a (ns.map V.int) ∧ ns ≠ [] ∧ Q (.int (maxI ns)) H) := by
  intro pins s σ H vs us Q I r h
  obtain ⟨a, ns, rfl, ho, hne, q⟩ := h
  obtain rfl := Vals.ref1 r
  obtain ⟨its, rv, ht, _⟩ := I.tuple ho
  cases ns with
  | nil => exact (hne rfl).elim
  | cons n ns =>
    obtain ⟨as, hreads⟩ := readsInts (h := s.heap) rv
    refine PySem.W.max_tuple_data (I.ok.hd hc) (show s.heap.IsTuple a its.toArray from ht) hreads (alike_ints (n :: ns)) ?_ fun i v h' tk bs hi hv hk => ?_
    · rw [← List.map_cons (f := PyData.int), depth_ints]
      have := hr.room.un
      omega
    · rw [PySem.W.maxD_ints] at hv
      generalize hz : ns.foldl max n = z at hv
      cases hv with
      | int _ t =>
        refine ⟨.int z, H, I.kept hk, ⟨t, rfl⟩, ?_⟩
        have hq : Q (.int (maxI (n :: ns))) H := q
        dsimp only [maxI] at hq
        rw [hz] at hq
        exact hq
def gMax : List D → Option Out
  | [.node .lst ds] => match intsOf ds with
    | some ns => if ns.isEmpty then none else some (.old (.leaf (.int (maxI ns))))
    | none => none
  | [.node .tup ds] => match intsOf ds with
    | some ns => if ns.isEmpty then none else some (.old (.leaf (.int (maxI ns))))
    | none => none
  | _ => none
theorem opMax {X : Cx} {k : Nat} (hr : RoomG k X.A) (hc : X.calm = true) : CallR X (.builtin "max") (fun vs H Q => rMax X.K vs H Q ∨ ∃ a ns, vs = [V.ref a] ∧ SqT X.K H a (ns.map V.int) ∧ ns ≠ [] ∧ Q (.int (maxI ns)) H) := CallRor (cr_max hc) (maxT_call hr hc)
theorem shMax {K : PySem.W.Frag} : SH K (fun vs H Q => rMax K vs H Q ∨ ∃ a ns, vs = [V.ref a] ∧ SqT K H a (ns.map V.int) ∧ ns ≠ [] ∧ Q (.int (maxI ns)) H) gMax := by
  intro M H xs ds o Q s r h q
  unfold gMax at h
  split at h
  · rename_i ds
    split at h
    · rename_i ns hd
      split at h
      · cases h
      · rename_i hne
        cases h
        have hne' : ns ≠ [] := fun z => hne (by rw [z]; rfl)
        obtain ⟨x, rfl, a, ys, rfl, ho, rs⟩ := r.one
        obtain rfl := intsOf_reps hd rs
        obtain ⟨m1, m2⟩ := maxI_mem hne'
        refine .inl ⟨a, ns, rfl, .of ho, List.length_pos_iff.mpr hne', fun m hm hle => ?_⟩
        have e : m = maxI ns := by
          have h1 := hle _ m1
          have h2 := m2 _ hm
          omega
        rw [e]
        exact q _ (by unfold Rep; rfl)
    · cases h
  · rename_i ds
    split at h
    · rename_i ns hd
      split at h
      · cases h
      · rename_i hne
        cases h
        have hne' : ns ≠ [] := fun z => hne (by rw [z]; rfl)
        obtain ⟨x, rfl, a, ys, rfl, ho, rs⟩ := r.one
        obtain rfl := intsOf_reps hd rs
        exact .inr ⟨a, ns, rfl, ho, hne', q _ (by unfold Rep; rfl)⟩
    · cases h
  · cases h
/-- repr of data -/
def reprOk (p : PyData) : Bool := p.showable && decide (p.shown.length ≤ 16777216) && decide (p.depth ≤ 50) && !p.hasDict
theorem repr_call {X : Cx} {k : Nat} (hr : RoomG k X.A) : CallR X (.builtin "repr") (fun xs H Q => ∃ x p, xs = [x] ∧ Dp X.K H x p ∧ reprOk p = true ∧ Q (.str p.shown) H) := by
  intro pins s σ H xs us Q I rv h
  obtain ⟨x, p, rfl, hd, hok, q⟩ := h
  obtain ⟨u, rfl, r⟩ := vals1 rv
  unfold reprOk at hok
  simp only [Bool.and_eq_true, decide_eq_true_eq, Bool.not_eq_true'] at hok
  obtain ⟨⟨⟨h1, h2⟩, h3⟩, h4⟩ := hok
  have h2' : p.shown.length ≤ sizeLine := by rw [sizeLine_eq]; exact h2
  have hu := hr.room.un
  obtain ⟨as, hreads⟩ := Dp.reads I p x u hd r
  have disp : ∀ {a : Addr}, Reads s.heap (.ref a) p as → wpAny (model X.prog X.w) X.A (call (.builtin "repr") [.ref a]) (EP X pins σ Q) X.xe s := fun {a} hreads =>
    repr_of_reads' hreads h1 (PyData.noDict_hsm h4) hr.gd (by omega) (fun _ _ e => e) (fun h' t tk hk => ⟨.str p.shown, H, I.kept hk, ⟨_, rfl⟩, q⟩) h2'
  cases hd with
  | non =>
    cases r
    exact PySem.P.repr_of_none ⟨.str _, H, I.tok _, ⟨_, rfl⟩, by unfold PyData.shown at q; exact q⟩
  | bl b =>
    cases r
    exact PySem.P.repr_of_bool ⟨.str _, H, I.tok _, ⟨_, rfl⟩, by unfold PyData.shown at q; exact q⟩
  | int i =>
    obtain ⟨t, rfl⟩ := r
    unfold PyData.showable at h1
    exact PySem.P.repr_of_int (of_decide_eq_true h1) ⟨.str _, H, I.tok _, ⟨_, rfl⟩, by unfold PyData.shown at q; exact q⟩
  | str z =>
    obtain ⟨t, rfl⟩ := r
    unfold PyData.shown at h2'
    exact PySem.P.repr_of_str (hsz := h2') ⟨.str _, H, I.tok _, ⟨_, rfl⟩, by unfold PyData.shown at q; exact q⟩
  | lst hs ha => cases r; exact disp hreads
  | tup hs ha => cases r; exact disp hreads
/-- repr of the empty dict -/
theorem repr_call0 {X : Cx} {k : Nat} (hr : RoomG k X.A) : CallR X (.builtin "repr") (fun xs H Q => ∃ a, xs = [.ref a] ∧ Rd H a (.dK []) ∧ Q (.str "{}") H) := by
  intro pins s σ H xs us Q I rv h
  obtain ⟨a, rfl, hd, q⟩ := h
  obtain ⟨u, rfl, r⟩ := vals1 rv
  cases r
  obtain ⟨_, hsm, vs, kv, o, es, ep, ho, hx, hdt, hk, hp, _⟩ := dk_rd I.hok hd
  have hu := hr.room.un
  cases kv
  generalize hes : es.toList = l at hp
  cases hp
  have hes' : es = #[] := Array.toList_eq_nil_iff.mp hes
  subst hes'
  have rd : Reads s.heap (.ref a) (.dict []) [a] := Reads.dict (as := []) (bs := []) ho hx.1 hdt .nil .nil
  exact repr_of_reads' rd rfl (fun _ hm => by
      have : sysModules = a := by simpa using hm
      rw [this, beq_self_eq_true] at hsm
      cases hsm) hr.gd (by show X.A.units + (PyData.depth (.dict []) + 1) < cLine; have : PyData.depth (.dict []) ≤ 1 := by decide
                           omega) (fun _ _ e => e) (fun h' t tk hk => ⟨.str (PyData.shown (.dict [])), H, I.kept hk, ⟨_, rfl⟩, q⟩) (by decide)
theorem repr_call' {X : Cx} {k : Nat} (hr : RoomG k X.A) : CallR X (.builtin "repr") (fun xs H Q => (∃ x p, xs = [x] ∧ Dp X.K H x p ∧ reprOk p = true ∧ Q (.str p.shown) H) ∨ ∃ a, xs = [.ref a] ∧ Rd H a (.dK []) ∧ Q (.str "{}") H) := CallRor (repr_call hr) (repr_call0 hr)
def gRepr : List D → Option Out
  | [.node (.dk []) []] => some (.old (.leaf (.str "{}")))
  | [d] => match toP d with
    | some p => if reprOk p then some (.old (.leaf (.str p.shown))) else none
    | none => none
  | _ => none
theorem shRepr {K : PySem.W.Frag} : SH K (fun xs H Q => (∃ x p, xs = [x] ∧ Dp K H x p ∧ reprOk p = true ∧ Q (.str p.shown) H) ∨ ∃ a, xs = [.ref a] ∧ Rd H a (.dK []) ∧ Q (.str "{}") H) gRepr := by
  intro M H xs ds o Q s r h q
  unfold gRepr at h
  split at h
  · cases h
    obtain ⟨x, rfl, hx⟩ := r.one
    obtain ⟨a, ys, rfl, h3, rs⟩ := hx
    have e0 : ys = [] := List.length_eq_zero_iff.mp rs.length
    subst e0
    exact .inr ⟨a, rfl, h3.2, q _ (by unfold Rep; rfl)⟩
  · rename_i d hne
    split at h
    · rename_i p hp
      split at h
      · rename_i hok
        cases h
        obtain ⟨x, rfl, hx⟩ := r.one
        exact .inl ⟨x, p, rfl, dp_of d x p (hx.full s) hp, hok, q _ (by unfold Rep; rfl)⟩
      · cases h
    · cases h
  · cases h
theorem gRepr_of {d : D} {p : PyData} (h : toP d = some p) (hok : reprOk p = true) : gRepr [d] = some (.old (.leaf (.str p.shown))) := by
  unfold gRepr
  split
  · rename_i heq
    cases heq
    exact nomatch h
  · rename_i d' hne heq
    cases heq
    rw [h]
    dsimp only
    rw [if_pos hok]
  · rename_i h1 h2
    exact (h2 d rfl).elim
/-- isinstance(x, T), T a built-in class -/
def tyName : D → Option String
  | .leaf .non => some "NoneType"
  | .leaf (.bl _) => some "bool"
  | .leaf (.int _) => some "int"
  | .leaf (.str _) => some "str"
  | .node .lst _ => some "list"
  | .node .tup _ => some "tuple"
  | .node (.dk _) _ => some "dict"
  | _ => none
def gIsi : List D → Option Out
  | [d, .leaf (.ty n)] => match tyName d with
    | some m => (kitB m n).map fun b => .old (.leaf (.bl b))
    | none => none
  | _ => none
theorem tyX_of {K : PySem.W.Frag} {M H : Hp} {x : V} {d : D} {m : String} (r : RepH K M H x d) (h : tyName d = some m) : TyX K H x (.type m) := by
  unfold tyName at h
  split at h
  · cases h; cases (show x = V.non from r); exact .base .non
  · rename_i b; cases h; cases (show x = V.bl b from r); exact .base (.bl b)
  · rename_i i; cases h; cases (show x = V.int i from r); exact .base (.int i)
  · rename_i z; cases h; cases (show x = V.str z from r); exact .base (.str z)
  · cases h
    obtain ⟨a, xs, rfl, ho, _⟩ := r
    exact .base (.lst ho)
  · cases h
    obtain ⟨a, xs, rfl, ho, _⟩ := r
    rcases ho with (ho | ⟨o, ho⟩) | ⟨o, its, n, hk, hc, _⟩
    · exact .base (.tup ho)
    · exact .fTuple ho
    · exact .kTuple hk hc
  · cases h
    obtain ⟨a, xs, rfl, ⟨_, ho⟩, _⟩ := r
    rcases ho with ho | ⟨o, ho⟩
    · exact .base (.dK ho)
    · exact .fDict ho
  · cases h
theorem shIsi {K : PySem.W.Frag} : SH K (rIsi K) gIsi := by
  intro M H xs ds o Q s r h q
  unfold gIsi at h
  split at h
  · rename_i d n
    split at h
    · rename_i m hm
      cases hk : kitB m n with
      | none => rw [hk] at h; cases h
      | some b =>
        rw [hk] at h
        cases h
        obtain ⟨x, y, rfl, hx, hy⟩ := r.two
        cases (show y = V.ty n from hy)
        exact ⟨x, .ty n, _, _, b, rfl, .ty n, tyX_of hx hm, kit_ty hk, q _ (by unfold Rep; rfl)⟩
    · cases h
  · cases h

end DL

set_option Elab.async false
set_option linter.all false
set_option maxRecDepth 100000
set_option maxHeartbeats 1000000
/-! changes of owned objects; comprehensions; dicts made -/
namespace DL
open PySem PySem.Spec PyProof.Rows L2

section
variable {K : PySem.W.Frag} {f : Frm} {M M' H H' : Hp} {τ : List V} {T : List Cell} {σ σ' : L2.St} {Γ Γ' : Gam} {v : V} {c : Cell} {a : Addr} {t t' : Tag} {ds ds' : List D} {o : HO} {xs' : List V}
/-- the object that slot i owns -/
def slotO (Γ : Gam) (i : Nat) : Option (Tag × List D) := match Γ[i]? with
  | some (some (.ow t ds)) => some (t, ds)
  | some (some (.rf t ds)) => some (t, ds)
  | _ => none
/-- .. told anew -/
def slotP (Γ : Gam) (i : Nat) (t : Tag) (ds : List D) : Option Gam := match Γ[i]? with
  | some (some (.ow _ _)) => some (Γ.set i (some (.ow t ds)))
  | some (some (.rf _ _)) => some (Γ.set i (some (.rf t ds)))
  | _ => none
theorem Good.slotO {i : Nat} (G : Good K f M H τ T σ Γ) (h : slotO Γ i = some (t, ds)) : ∃ a xs, σ[i]? = some (some (.ref a)) ∧ Own H a t xs ∧ Reps K M xs ds ∧ M a = none ∧ f.B a = none := by
  unfold DL.slotO at h
  split at h
  · rename_i t1 ds1 hg
    cases h
    obtain ⟨v, hv⟩ := G.has i _ hg
    obtain ⟨a, xs, rfl, h1, h2, h3, h4⟩ := G.ok (.inr i) v _ (ent_slot.mpr ⟨hv, hg⟩)
    exact ⟨a, xs, hv, h1, h2, h3, h4⟩
  · rename_i t1 ds1 hg
    cases h
    obtain ⟨v, hv⟩ := G.has i _ hg
    obtain ⟨a, xs, rfl, h1, h2, h3, h4⟩ := G.ok (.inr i) v _ (ent_slot.mpr ⟨hv, hg⟩)
    exact ⟨a, xs, hv, h1, h2, h3, h4⟩
  · cases h
/-- the object at a, which slot i owns, is changed -/
theorem Good.put {i : Nat} (G : Good K f M H τ T σ Γ) (h : DL.slotO Γ i = some (t, ds)) (hs : σ[i]? = some (some (.ref a))) (ho : Own (upd H a o) a t' xs') (r : Reps K M xs' ds') (hp : slotP Γ i t' ds' = some Γ') : Good K f M (upd H a o) τ T σ Γ' := by
  obtain ⟨a1, xs, hs1, h1, h2, h3, h4⟩ := G.slotO h
  rw [hs] at hs1; cases hs1
  have ne : ∀ k v c, k ≠ .inr i → ent τ T σ Γ k = some (v, c) → own v c ≠ some a := fun k v c hk q e => by
    unfold DL.slotO at h
    split at h
    · rename_i t1 ds1 hg
      exact hk (G.inj k (.inr i) v c _ _ a q (ent_slot.mpr ⟨hs, hg⟩) e rfl)
    · rename_i t1 ds1 hg
      exact hk (G.inj k (.inr i) v c _ _ a q (ent_slot.mpr ⟨hs, hg⟩) e rfl)
    · cases h
  have main : ∀ c0 c1 : Cell, Γ[i]? = some (some c0) → OwnOk K f M (upd H a o) (.ref a) t' ds' → (c1 = .ow t' ds' ∧ (∃ t ds, c0 = .ow t ds) ∨ c1 = .rf t' ds' ∧ ∃ t ds, c0 = .rf t ds) → Good K f M (upd H a o) τ T σ (Γ.set i (some c1)) := fun c0 c1 hg ok hc => by
    have hl := lt_of_get hg
    have cs : ∀ k u e, ent τ T σ (Γ.set i (some c1)) k = some (u, e) → (k = .inr i ∧ u = .ref a ∧ e = c1) ∨ (k ≠ .inr i ∧ ent τ T σ Γ k = some (u, e)) := fun k u e q => by
      by_cases hk : k = .inr i
      · subst hk
        rw [ent_setG_self hs hl] at q; cases q
        exact .inl ⟨rfl, rfl, rfl⟩
      · rw [ent_setG hk] at q
        exact .inr ⟨hk, q⟩
    refine ⟨G.bys.right h4, G.sub.right h3, G.m0, G.new, G.tl, by rw [List.length_set]; exact G.sl, fun j e q => ?_, fun k u e q => ?_, fun k k' u e u' e' b q q' r r' => ?_, fun j k q => ?_, fun j t ds q => ?_⟩
    · by_cases hj : i = j
      · subst hj; exact ⟨_, hs⟩
      · rw [List.getElem?_set_ne hj] at q; exact G.has j e q
    · rcases cs k u e q with ⟨_, rfl, rfl⟩ | ⟨hk, q⟩
      · rcases hc with ⟨rfl, _⟩ | ⟨rfl, _⟩
        · exact ok
        · exact ok
      · refine (G.ok k u e q).step (Sub.refl M) fun b r => ?_
        have hb : b ≠ a := fun z => ne k u e hk q (by rw [← z]; exact r)
        obtain ⟨_, _, _, _, _, m, _⟩ := (G.ok k u e q).own_ok r
        exact ⟨upd_ne hb, m⟩
    · rcases cs k u e q with ⟨k1, u1, e1⟩ | ⟨hk, q2⟩
      · rcases cs k' u' e' q' with ⟨k1', u1', e1'⟩ | ⟨hk', q2'⟩
        · rw [k1, k1']
        · have hb : b = a := by
            rw [u1, e1] at r
            rcases hc with ⟨hc, _⟩ | ⟨hc, _⟩
            · rw [hc] at r; exact (Option.some.inj r).symm
            · rw [hc] at r; exact (Option.some.inj r).symm
          exact (ne k' u' e' hk' q2' (by rw [← hb]; exact r')).elim
      · rcases cs k' u' e' q' with ⟨k1', u1', e1'⟩ | ⟨hk', q2'⟩
        · have hb : b = a := by
            rw [u1', e1'] at r'
            rcases hc with ⟨hc, _⟩ | ⟨hc, _⟩
            · rw [hc] at r'; exact (Option.some.inj r').symm
            · rw [hc] at r'; exact (Option.some.inj r').symm
          exact (ne k u e hk q2 (by rw [← hb]; exact r)).elim
        · exact G.inj _ _ _ _ _ _ b q2 q2' r r'
    · by_cases hj : i = j
      · subst hj
        rw [List.getElem?_set_self hl] at q
        rcases hc with ⟨rfl, _⟩ | ⟨rfl, _⟩
        · cases q
        · cases q
      · rw [List.getElem?_set_ne hj] at q; exact G.nbr j k q
    · by_cases hj : i = j
      · subst hj
        rw [List.getElem?_set_self hl] at q
        rcases hc with ⟨rfl, _⟩ | ⟨rfl, t0, ds0, rfl⟩
        · cases q
        · exact G.args i t0 ds0 hg
      · rw [List.getElem?_set_ne hj] at q; exact G.args j t ds q
  have ok : OwnOk K f M (upd H a o) (.ref a) t' ds' := ⟨a, xs', rfl, ho, r, h3, h4⟩
  unfold slotP at hp
  split at hp
  · rename_i t1 ds1 hg
    cases hp
    exact main _ _ hg ok (.inl ⟨rfl, t1, ds1, rfl⟩)
  · rename_i t1 ds1 hg
    cases hp
    exact main _ _ hg ok (.inr ⟨rfl, t1, ds1, rfl⟩)
  · cases hp
theorem slotP_some {i : Nat} {t0 : Tag} {ds0 : List D} (h : DL.slotO Γ i = some (t0, ds0)) (t : Tag) (ds : List D) : ∃ Γ', slotP Γ i t ds = some Γ' := by
  unfold DL.slotO at h
  unfold slotP
  split at h
  · exact ⟨_, rfl⟩
  · exact ⟨_, rfl⟩
  · cases h
/-- the first pending value's own object is changed -/
theorem Good.putT (G : Good K f M H (.ref a :: τ) (.ow t ds :: T) σ Γ) (ho : Own (upd H a o) a t' xs') (r : Reps K M xs' ds') : Good K f M (upd H a o) (.ref a :: τ) (.ow t' ds' :: T) σ Γ := by
  obtain ⟨a1, xs, e, h1, h2, h3, h4⟩ := G.ok (.inl 0) _ _ rfl
  cases e
  have ne : ∀ k v c, ent τ T σ Γ k = some (v, c) → own v c ≠ some a := fun k v c q e => by
    match k with
    | .inl j => have z := G.inj (.inl 0) (.inl (j + 1)) _ _ v c a rfl q rfl e; cases z
    | .inr j => have z := G.inj (.inl 0) (.inr j) _ _ v c a rfl q rfl e; cases z
  refine (G.pop.lay h3 h4 ne o).push ⟨a, xs', rfl, ho, r, h3, h4⟩ fun b e k v' c' q => ?_
  have e' : a = b := Option.some.inj e
  rw [← e']
  exact ne k v' c' q
end

/-! ### methods that change their receiver -/
def tagTy : Tag → String
  | .lst => "list"
  | .dk _ => "dict"
  | .dt _ => "dict"
  | .tup => "tuple"
  | .scr => "-"
  | .ins _ _ => "-"
theorem tyV_own {K : PySem.W.Frag} {H : Hp} {a : Addr} {t : Tag} {xs : List V} {tn : String} (h : Own H a t xs) (e : tagTy t = tn) (n : tn ≠ "-") : tyV K tn (.ref a) H := by
  cases t with
  | lst => exact .inl ⟨e.symm, xs, .of h⟩
  | tup => exact h.elim
  | scr => exact h.elim
  | dk ks => exact .inr (.inr (.inl ⟨e.symm, .inl ⟨_, h.2⟩⟩))
  | dt ks => exact .inr (.inr (.inl ⟨e.symm, .inr ⟨_, h.2⟩⟩))
  | ins C ns => exact (n e.symm).elim
/-- by values: the receiver's kind and items, the arguments; the answer, the items behind it -/
def SM (K : PySem.W.Frag) (r : V → List V → Hp → VK → Prop) (g : Tag → List D → List D → Option (D × Tag × List D)) : Prop :=
  ∀ M H a t xs ds vs es d t' ds' Q, Sub M H → Own H a t xs → Reps K M xs ds → RepHs K M H vs es → Reps K M vs es → g t ds es = some (d, t', ds') →
    (∀ v xs' o, Rep K M v d → Reps K M xs' ds' → (∀ H', H' a = some o → Own H' a t' xs') → Q v (upd H a o)) → r (.ref a) vs H Q
def eMut (i : Nat) (tn : String) (g : Tag → List D → List D → Option (D × Tag × List D)) (L : AF) : EF := fun Γ => match slotO Γ i with
  | some (t0, _) => if tagTy t0 = tn ∧ tn ≠ "-" then bindL L (fun cs Γ1 => match shs cs, slotO Γ1 i with
    | some es, some (t, ds) => (match g t ds es with
      | some (d, t', ds') => (match slotP Γ1 i t' ds' with
        | some Γ2 => some (.val (.sh d), Γ2)
        | none => none)
      | none => none)
    | _, _ => none) Γ else none
  | none => none
theorem repHs_of {K : PySem.W.Frag} {M H : Hp} (s : Sub M H) : ∀ {vs : List V} {ds : List D}, Reps K M vs ds → RepHs K M H vs ds
  | [], [], _ => trivial
  | [], _ :: _, r => by unfold Reps at r; exact r.elim
  | _ :: _, [], r => by unfold Reps at r; exact r.elim
  | _ :: _, _ :: _, r => ⟨Rep.toH s r.of_cons.1, repHs_of s r.of_cons.2⟩
section
variable {X : Cx} {W : WX} {o e : Expr} {es : List Expr} {L : AF} {name x : Str} {apos cpos opos : Pos} {tn id : String} {r : V → List V → Hp → VK → Prop} {g : Tag → List D → List D → Option (D × Tag × List D)}
theorem mut_core {i : Nat} (hs : SM X.K r g) {σ : L2.St} {H : Hp} {Q : VK} (h : tE X.K W (eMut i tn g L) σ H Q) : tBM X.K tn r (tVar i) (tL X.K W L) σ H Q := by
  obtain ⟨f, M, τ, T, Γ, ra, Γ', G, hF, p⟩ := h
  unfold eMut at hF
  split at hF
  · rename_i t0 ds0 ho
    split at hF
    · rename_i ht
      obtain ⟨a, xs0, hσ, hown, _⟩ := G.slotO ho
      refine ⟨.ref a, hσ, tyV_own hown ht.1 ht.2, runL G hF p fun cs Γ1 vs H1 M1 hl G1 e1 => ?_⟩
      split at e1
      · rename_i es' t1 ds1 hes hso
        split at e1
        · rename_i d t' ds' hg
          split at e1
          · rename_i Γ2 hp
            cases e1
            obtain ⟨rs, G2⟩ := G1.shs hl hes
            obtain ⟨a1, xs1, hσ1, hown1, hr1, _⟩ := G2.slotO hso
            rw [hσ] at hσ1; cases hσ1
            refine hs M1 H1 a t1 xs1 ds1 vs es' d t' ds' Q G2.sub hown1 hr1 (repHs_of G2.sub rs) rs hg fun v xs' o hv hx hw => ?_
            have G3 := G2.put hso hσ (hw (upd H1 a o) (by rw [upd_same])) hx hp
            exact p v _ M1 (G3.pushSh hv)
          · cases e1
        · cases e1
      · cases e1
    · cases hF
  · cases hF
theorem de_mut (i : Nat) (pa : PlainAttrs tn) (slot : Slot tn name id) (hty : typeOf (.builtin id) = pure (.type "method_descriptor")) (hm : MtR X id r) (hs : SM X.K r g) (ha : DA X W (e :: es) L) (hN : X.N[i]? = some x := by rfl)
    (hv : Vis X.env.scope x := by first | exact Or.inl rfl | exact Or.inr (Or.inl rfl) | exact Or.inr (Or.inr rfl)) (hd : (x == ("__debug__" : Str)) = false := by decide) (hcd : (x == ("__classdict__" : Str)) = false := by decide)
    (hbase : attributeBase (.Name x opos) name X.env (eval (.Name x opos) X.env) = eval (.Name x opos) X.env := by rfl)
    (hfew : ((backTo cpos (starEach (e :: es) X.env)).all (fun x => !x.1) && (backToKw cpos (keywordEach [] X.env)).all (fun x => x.1.isSome)
      && decide ((e :: es).length + ([] : List Keyword).length + (if ([] : List Keyword).isEmpty then 0 else 1) < 30)) = true := by rfl)
    (hline : (apos.endLine == cpos.line) = true := by rfl) (hst : starEach (e :: es) X.env = (false, eval e X.env) :: starEach es X.env := by rfl) (hplain : (backTo cpos (starEach es X.env)).any (·.1) = false := by rfl) :
    DE X W (.Call (.Attribute (.Name x opos) name apos) (e :: es) [] cpos) (eMut i tn g L) :=
  PEimp (pe_bm pa slot hty hm (pe_var hN hv hd hcd) ha hbase hfew hline hst hplain) fun _ _ _ h => mut_core hs h
theorem de_mut0 (i : Nat) (pa : PlainAttrs tn) (slot : Slot tn name id) (hty : typeOf (.builtin id) = pure (.type "method_descriptor")) (hm : MtR X id r) (hs : SM X.K r g) (hN : X.N[i]? = some x := by rfl)
    (hv : Vis X.env.scope x := by first | exact Or.inl rfl | exact Or.inr (Or.inl rfl) | exact Or.inr (Or.inr rfl)) (hd : (x == ("__debug__" : Str)) = false := by decide) (hcd : (x == ("__classdict__" : Str)) = false := by decide)
    (hbase : attributeBase (.Name x opos) name X.env (eval (.Name x opos) X.env) = eval (.Name x opos) X.env := by rfl) (hline : (apos.endLine == cpos.line) = true := by rfl) :
    DE X W (.Call (.Attribute (.Name x opos) name apos) [] [] cpos) (eMut i tn g aNil) := by
  refine PEimp (pe_bm0 pa slot hty hm (pe_var hN hv hd hcd) hbase hline) fun σ H Q h => ?_
  obtain ⟨v, hv1, ht, q⟩ := mut_core (i := i) hs h
  refine ⟨v, hv1, ht, ?_⟩
  obtain ⟨f, M, τ, T, Γ, ra, Γ', G, hF, p⟩ := q
  cases hF
  exact p [] H M rfl G
end
/-- xs.append(e) -/
def gAppend : Tag → List D → List D → Option (D × Tag × List D)
  | .lst, ds, [d] => if ds.length < 16777216 then some (.leaf .non, .lst, ds ++ [d]) else none
  | _, _, _ => none
theorem smAppend {K : PySem.W.Frag} : SM K rAppend gAppend := by
  intro M H a t xs ds vs es d t' ds' Q s own r rh rv hg q
  unfold gAppend at hg
  split at hg
  · rename_i e
    split at hg
    · rename_i hl
      cases hg
      obtain ⟨x, ys, rfl, r1, r2⟩ := rv.cons_of
      rw [r2.nil_of]
      exact ⟨a, xs, x, rfl, rfl, own, by rw [r.length, sizeLine_eq]; exact hl, q _ (xs ++ [x]) (.lst (xs ++ [x])) (by unfold Rep; rfl) (r.append (.cons r1 .nil)) fun H' e => e⟩
    · cases hg
  · cases hg
/-- xs.pop(i), xs.pop() -/
def gPopAt : Tag → List D → List D → Option (D × Tag × List D)
  | .lst, ds, [.leaf (.int i)] => if -9223372036854775808 ≤ i ∧ i < 9223372036854775808 then (match seqIndex? i ds.length with
    | some k => (match ds[k]? with
      | some d => some (d, .lst, ds.eraseIdx k)
      | none => none)
    | none => none) else none
  | _, _, _ => none
theorem smPopAt {K : PySem.W.Frag} : SM K rPopAt gPopAt := by
  intro M H a t xs ds vs es d t' ds' Q s own r rh rv hg q
  unfold gPopAt at hg
  split at hg
  · rename_i i
    split at hg
    · rename_i hi
      split at hg
      · rename_i k hk
        split at hg
        · rename_i d0 hd
          cases hg
          obtain ⟨x, ex, rx⟩ := r.get hd
          exact ⟨a, xs, i, k, x, rfl, rv.one, own, hi.1, hi.2, by rw [r.length]; exact hk, ex, q x (xs.eraseIdx k) (.lst (xs.eraseIdx k)) rx (r.eraseIdx k) fun H' e => e⟩
        · cases hg
      · cases hg
    · cases hg
  · cases hg
def gPop : Tag → List D → List D → Option (D × Tag × List D)
  | .lst, ds, [] => match ds[ds.length - 1]? with
    | some d => some (d, .lst, ds.dropLast)
    | none => none
  | _, _, _ => none
theorem smPop {K : PySem.W.Frag} : SM K rPop gPop := by
  intro M H a t xs ds vs es d t' ds' Q s own r rh rv hg q
  unfold gPop at hg
  split at hg
  · split at hg
    · rename_i d0 hd
      cases hg
      obtain ⟨x, ex, rx⟩ := r.get hd
      exact ⟨a, xs, x, rfl, rv.nil_of, own, by rw [r.length]; exact ex, q x xs.dropLast (.lst xs.dropLast) rx r.dropLast fun H' e => e⟩
    · cases hg
  · cases hg

/-! ### x[k] = e -/
section
def putL {κ α : Type} [DecidableEq κ] (k : κ) (v : α) : List κ → List α → List α
  | k' :: ks, x :: xs => (if k' = k then v else x) :: putL k v ks xs
  | _, _ => []
/-- keys and items behind d[k] = v -/
def putK2 {κ α : Type} [DecidableEq κ] (k : κ) (v : α) (ks : List κ) (xs : List α) : List κ × List α := if ks.contains k then (ks, putL k v ks xs) else (ks ++ [k], xs ++ [v])
theorem putL_len {κ α : Type} [DecidableEq κ] {k : κ} {v : α} : ∀ {ks : List κ} {xs : List α}, ks.length = xs.length → (putL k v ks xs).length = xs.length
  | [], [], _ => rfl
  | [], _ :: _, h => by cases h
  | _ :: _, [], h => by cases h
  | _ :: ks, _ :: xs, h => by
    unfold putL
    rw [List.length_cons, List.length_cons, putL_len (by simpa using h)]
theorem putL_zip {κ α : Type} [DecidableEq κ] {k : κ} {v : α} : ∀ {ks : List κ} {xs : List α}, ks.length = xs.length → (ks.zip xs).map (fun kv => if kv.1 = k then (kv.1, v) else kv) = ks.zip (putL k v ks xs)
  | [], [], _ => rfl
  | [], _ :: _, h => by cases h
  | _ :: _, [], h => by cases h
  | k' :: ks, x :: xs, h => by
    unfold putL
    rw [List.zip_cons_cons, List.map_cons, List.zip_cons_cons, putL_zip (by simpa using h)]
    by_cases hk : k' = k
    · rw [if_pos hk, if_pos hk]
    · rw [if_neg hk, if_neg hk]
theorem any_zip {κ α : Type} [DecidableEq κ] {k : κ} : ∀ {ks : List κ} {xs : List α}, ks.length = xs.length → ((ks.zip xs).any fun kv => decide (kv.1 = k)) = ks.contains k
  | [], [], _ => rfl
  | [], _ :: _, h => by cases h
  | _ :: _, [], h => by cases h
  | k' :: ks, x :: xs, h => by
    rw [List.zip_cons_cons, List.any_cons, List.contains_cons, any_zip (by simpa using h)]
    congr 1
    by_cases hk : k' = k
    · subst hk; simp
    · have : ¬ k = k' := fun z => hk z.symm
      simp [hk, this]
theorem putK_zip {κ : Type} [DecidableEq κ] {k : κ} {v : V} {ks : List κ} {xs : List V} (h : ks.length = xs.length) : putK (ks.zip xs) k v = (putK2 k v ks xs).1.zip (putK2 k v ks xs).2 := by
  unfold putK putK2
  rw [any_zip h]
  cases hc : ks.contains k with
  | true =>
    rw [if_pos rfl, if_pos rfl]
    exact putL_zip h
  | false =>
    rw [if_neg (by decide), if_neg (by decide)]
    show ks.zip xs ++ [(k, v)] = (ks ++ [k]).zip (xs ++ [v])
    rw [List.zip_append h]
    rfl
theorem putK2_reps {K : PySem.W.Frag} {M : Hp} {κ : Type} [DecidableEq κ] {k : κ} {v : V} {d : D} {ks : List κ} {xs : List V} {ds : List D} (h : ks.length = xs.length) (r : Reps K M xs ds) (rv : Rep K M v d) :
    (putK2 k v ks xs).1 = (putK2 k d ks ds).1 ∧ Reps K M (putK2 k v ks xs).2 (putK2 k d ks ds).2 ∧ (putK2 k v ks xs).1.length = (putK2 k v ks xs).2.length := by
  unfold putK2
  cases hc : ks.contains k with
  | true =>
    rw [if_pos rfl, if_pos rfl]
    refine ⟨rfl, ?_, (putL_len h).symm ▸ h⟩
    dsimp only
    clear hc
    induction ks generalizing xs ds with
    | nil =>
      cases xs with
      | nil => cases ds <;> exact .nil
      | cons x xs => cases h
    | cons k' ks ih =>
      cases xs with
      | nil => cases h
      | cons x xs =>
        cases ds with
        | nil => unfold Reps at r; exact r.elim
        | cons d' ds =>
          unfold putL
          obtain ⟨r1, r2⟩ := r.of_cons
          refine .cons ?_ (ih (by simpa using h) r2)
          by_cases hk : k' = k
          · rw [if_pos hk, if_pos hk]; exact rv
          · rw [if_neg hk, if_neg hk]; exact r1
  | false =>
    rw [if_neg (by decide), if_neg (by decide)]
    refine ⟨rfl, r.append (.cons rv .nil), ?_⟩
    dsimp only
    rw [List.length_append, List.length_append, h]
    rfl
end
/-- behind x[k] = v: the kind and the items -/
def gStore : Tag → List D → D → D → Option (Tag × List D)
  | .lst, ds, .leaf (.int i), d => (ixN ds.length i).map fun j => (.lst, ds.set j d)
  | .dk ks, ds, .leaf (.int i), d => if ds.length < 16777216 then some (.dk (putK2 (Sum.inl i) d ks ds).1, (putK2 (Sum.inl i : Key) d ks ds).2) else none
  | .dk ks, ds, .leaf (.str x), d => if ds.length < 16777216 then some (.dk (putK2 (Sum.inr x) d ks ds).1, (putK2 (Sum.inr x : Key) d ks ds).2) else none
  | _, _, _, _ => none
theorem gStore_cases {t t' : Tag} {ds ds' : List D} {k d : D} (h : gStore t ds k d = some (t', ds')) : (t = .lst ∧ ∃ z j, k = .leaf (.int z) ∧ ixN ds.length z = some j ∧ t' = .lst ∧ ds' = ds.set j d) ∨
    ∃ ks key, t = .dk ks ∧ k = .leaf (kV key) ∧ ds.length < 16777216 ∧ t' = .dk (putK2 key d ks ds).1 ∧ ds' = (putK2 key d ks ds).2 := by
  unfold gStore at h
  split at h
  · left
    rename_i i
    cases hj : ixN ds.length i with
    | none => rw [hj] at h; cases h
    | some j =>
      rw [hj] at h
      cases h
      exact ⟨rfl, i, j, rfl, hj, rfl, rfl⟩
  · right
    split at h
    · rename_i ks i hl
      cases h
      exact ⟨ks, Sum.inl i, rfl, rfl, hl, rfl, rfl⟩
    · cases h
  · right
    split at h
    · rename_i ks i hl
      cases h
      exact ⟨ks, Sum.inr i, rfl, rfl, hl, rfl, rfl⟩
    · cases h
  · cases h
def sStore (i : Nat) (A B : EF) : GS := bindS (eKeep A) fun c Γ => match c, slotO Γ i with
  | .sh d, some _ => (match B Γ with
    | some (.val c2, Γ1) => (match look Γ1 c2, slotO Γ1 i with
      | some k, some (t, ds) => (match gStore t ds k d with
        | some (t', ds') => (match slotP Γ1 i t' ds' with
          | some Γ2 => some (.nx Γ2)
          | none => none)
        | none => none)
      | _, _ => none)
    | some (.exc x, Γ1) => some (.xc x Γ1)
    | none => none)
  | _, _ => none
theorem PSetor {X : Cx} {t t' : TSet} (h : PSet X t) (h' : PSet X t') : PSet X (fun o i v H Q => t o i v H Q ∨ t' o i v H Q) := fun pins s σ H o i v ov iv u Q I ro ri rv q => q.elim (h pins s σ H o i v ov iv u Q I ro ri rv) (h' pins s σ H o i v ov iv u Q I ro ri rv)
section
variable {X : Cx} {W : WX} {value ix : Expr} {x : Str} {opos pos pos' : Pos} {A B : EF} {k : Nat}
theorem ds_store (i : Nat) (hv : DE X W value A) (hi : DE X W ix B) (hr : RoomG k X.A) (hN : X.N[i]? = some x := by rfl)
    (hvis : Vis X.env.scope x := by first | exact Or.inl rfl | exact Or.inr (Or.inl rfl) | exact Or.inr (Or.inr rfl)) (hd : (x == ("__debug__" : Str)) = false := by decide) (hcd : (x == ("__classdict__" : Str)) = false := by decide)
    (ha : ∀ v, assign (.Subscript (.Name x opos) ix pos') X.env v = (holding [v] (eval (.Name x opos) X.env) >>= fun ov => holding [v, ov] (eval ix X.env) >>= fun iv => standAt pos' >>= fun _ => holding [v, ov, iv] (setItem ov iv v) >>= fun _ => release [v, ov, iv] []) := by intro _; rfl)
    (hs : swapsWithSole [.Subscript (.Name x opos) ix pos'] value pos.line X.env = pure false := by rfl) (hw : swappedStores [.Subscript (.Name x opos) ix pos'] value X.env = pure none := by rfl)
    (h1 : (assignEach [.Subscript (.Name x opos) ix pos'] X.env).map (·.2) = [assign (.Subscript (.Name x opos) ix pos') X.env] := by rfl) :
    DS X W (.Assign [.Subscript (.Name x opos) ix pos'] value pos) (sStore i A B) := by
  refine PSimp (ps_asg (de_keep hv) (pg_sub (pe_var hN hvis hd hcd) hi (PSetor set_list (set_dict (hu_of hr.room))) ha) hs hw h1) fun D σ H h => ?_
  refine runS h fun f c Γ1 v H1 M1 o G1 hk p => ?_
  split at hk
  · rename_i d td hso
    obtain ⟨t0, ds0⟩ := td
    obtain ⟨a, xs0, hσ, _⟩ := G1.slotO hso
    refine ⟨.ref a, hσ, ?_⟩
    split at hk
    · rename_i c2 Γ2 hB
      refine ⟨f, M1, [v], [.sh d], Γ1, _, Γ2, G1, hB, fun iv H2 M2 G2 => ?_⟩
      split at hk
      · rename_i kd t ds hlk hso2
        split at hk
        · rename_i t' ds' hg
          split at hk
          · rename_i Γ3 hp
            cases hk
            have ri := G2.look (k := .inl 0) rfl hlk
            have rv : Rep X.K M2 v d := G2.ok (.inl 1) v _ rfl
            have G3 := G2.pop.pop
            obtain ⟨a1, xs, hσ1, own, rs, m, b⟩ := G3.slotO hso2
            rw [hσ] at hσ1; cases hσ1
            rcases gStore_cases hg with ⟨rfl, z, j, rfl, hj, rfl, rfl⟩ | ⟨ks, key, rfl, rfl, hl, rfl, rfl⟩
            · have G4 := G3.put (o := .lst (xs.set j v)) (xs' := xs.set j v) hso2 hσ (by show (upd H2 a _) a = _; rw [upd_same]) (rs.set j rv) hp
              exact .inl ⟨a, xs, z, j, rfl, ri, own, by rw [rs.length]; exact hj, p _ _ M2 G4⟩
            · obtain ⟨hlen, hH⟩ := own
              obtain ⟨e1, e2, e3⟩ := putK2_reps (k := key) hlen rs rv
              have G4 := G3.put (o := .dK (putK (ks.zip xs) key v)) (xs' := (putK2 key v ks xs).2) (t' := .dk (putK2 key d ks ds).1) hso2 hσ ⟨by rw [← e1]; exact e3, by rw [upd_same, putK_zip hlen, e1]⟩ e2 hp
              refine .inr ⟨a, _, rfl, .inl ⟨ks.zip xs, key, hH, ri, ?_, rfl⟩, p _ _ M2 G4⟩
              rw [List.length_zip, hlen, Nat.min_self, rs.length, sizeLine_eq]
              exact hl
          · cases hk
        · cases hk
      · cases hk
    · rename_i x Γ2 hB
      cases hk
      exact ⟨f, M1, [v], [.sh d], Γ1, _, Γ2, G1, hB, PostX.pop (p σ)⟩
    · cases hk
  · cases hk
end
end DL

set_option Elab.async false
set_option linter.all false
set_option maxRecDepth 100000
set_option maxHeartbeats 1000000
/-! comprehensions, dicts made -/
namespace DL
open PySem PySem.Spec PyProof.Rows L2

def clearG (Γ : Gam) : List Nat → Gam
  | [] => Γ
  | i :: is => (clearG Γ is).set i none
def restoreG (Γ Γe : Gam) : List Nat → Gam
  | [] => Γe
  | i :: is => (restoreG Γ Γe is).set i (Γ.getD i none)
section
variable {Γ Γe : Gam} {σ σ' : L2.St}
theorem clearG_len : ∀ is : List Nat, (clearG Γ is).length = Γ.length
  | [] => rfl
  | i :: is => by unfold clearG; rw [List.length_set, clearG_len is]
theorem restoreG_len : ∀ is : List Nat, (restoreG Γ Γe is).length = Γe.length
  | [] => rfl
  | i :: is => by unfold restoreG; rw [List.length_set, restoreG_len is]
theorem clearG_get {j : Nat} {c : Cell} : ∀ {is : List Nat}, (clearG Γ is)[j]? = some (some c) → Γ[j]? = some (some c) ∧ j ∉ is
  | [], h => ⟨h, by simp⟩
  | i :: is, h => by
    unfold clearG at h
    by_cases hj : i = j
    · subst hj
      have := lt_of_get h
      rw [List.length_set] at this
      rw [List.getElem?_set_self this] at h
      cases h
    · rw [List.getElem?_set_ne hj] at h
      obtain ⟨h1, h2⟩ := clearG_get h
      exact ⟨h1, fun z => by rcases List.mem_cons.mp z with z | z; exact hj z.symm; exact h2 z⟩
theorem restoreG_get (hl : Γe.length = Γ.length) {j : Nat} {c : Cell} : ∀ {is : List Nat}, (restoreG Γ Γe is)[j]? = some (some c) → (j ∈ is ∧ Γ[j]? = some (some c)) ∨ (j ∉ is ∧ Γe[j]? = some (some c))
  | [], h => .inr ⟨by simp, h⟩
  | i :: is, h => by
    unfold restoreG at h
    by_cases hj : i = j
    · subst hj
      have hlt := lt_of_get h
      rw [List.length_set] at hlt
      rw [List.getElem?_set_self hlt] at h
      rw [restoreG_len, hl] at hlt
      have e := Option.some.inj h
      rw [List.getD_eq_getElem?_getD, List.getElem?_eq_getElem hlt] at e
      refine .inl ⟨List.mem_cons_self, ?_⟩
      rw [List.getElem?_eq_getElem hlt]
      exact congrArg some e
    · rw [List.getElem?_set_ne hj] at h
      rcases restoreG_get hl h with ⟨h1, h2⟩ | ⟨h1, h2⟩
      · exact .inl ⟨List.mem_cons_of_mem _ h1, h2⟩
      · exact .inr ⟨(fun z => by rcases List.mem_cons.mp z with z | z; exact hj z.symm; exact h1 z), h2⟩
theorem wipe_out' {j : Nat} : ∀ {is : List Nat}, j ∉ is → (wipe σ is)[j]? = σ[j]?
  | [], _ => rfl
  | i :: is, h => by
    unfold wipe
    rw [List.getElem?_set_ne (fun z => h (by rw [z]; exact List.mem_cons_self)), wipe_out' fun z => h (List.mem_cons_of_mem _ z)]
theorem wipe_in {j : Nat} : ∀ {is : List Nat}, j ∈ is → (wipe σ is)[j]? = if j < σ.length then some none else none
  | i :: is, h => by
    unfold wipe
    by_cases hj : i = j
    · subst hj
      by_cases hl : i < σ.length
      · rw [List.getElem?_set_self (by rw [wipe_length]; exact hl), if_pos hl]
      · rw [if_neg hl]
        exact List.getElem?_eq_none (by rw [List.length_set, wipe_length]; omega)
    · rw [List.getElem?_set_ne hj]
      rcases List.mem_cons.mp h with h | h
      · exact (hj h.symm).elim
      · exact wipe_in h
theorem wipe_eq {is : List Nat} (hl : σ'.length = σ.length) (h : ∀ j, j ∉ is → σ'[j]? = σ[j]?) : wipe σ' is = wipe σ is := by
  apply List.ext_getElem?
  intro j
  by_cases hj : j ∈ is
  · rw [wipe_in hj, wipe_in hj, hl]
  · rw [wipe_out' hj, wipe_out' hj, h j hj]
theorem wipe_wipe (σ : L2.St) (is : List Nat) : wipe (wipe σ is) is = wipe σ is := wipe_eq (wipe_length _ _) fun _ hj => wipe_out' hj
end
section
variable {K : PySem.W.Frag} {f : Frm} {M M' H H' : Hp} {τ : List V} {T : List Cell} {σ : L2.St} {Γ Γe : Gam} {v : V} {c : Cell}
/-- slots forgotten -/
theorem Good.wipe (G : Good K f M H τ T σ Γ) (nb : NoBr T) (is : List Nat) : Good K f M H τ T (L2.wipe σ is) (clearG Γ is) := by
  have cs : ∀ k v c, ent τ T (L2.wipe σ is) (clearG Γ is) k = some (v, c) → ent τ T σ Γ k = some (v, c) ∧ (∀ i, k = .inr i → i ∉ is) := fun k v c q => by
    match k with
    | .inl j => exact ⟨q, fun i z => by cases z⟩
    | .inr j =>
      obtain ⟨q1, q2⟩ := ent_slot.mp q
      obtain ⟨h1, h2⟩ := clearG_get q2
      rw [wipe_out' h2] at q1
      exact ⟨ent_slot.mpr ⟨q1, h1⟩, fun i z => by cases z; exact h2⟩
  refine ⟨G.bys, G.sub, G.m0, G.new, G.tl, by rw [wipe_length, clearG_len]; exact G.sl, fun i c e => ?_, fun k v c q => ?_, fun k k' v c v' c' a q q' r r' => G.inj _ _ _ _ _ _ a (cs _ _ _ q).1 (cs _ _ _ q').1 r r', fun i j e => G.nbr i j (clearG_get e).1, fun i t ds e => ?_⟩
  · obtain ⟨h1, h2⟩ := clearG_get e
    rw [wipe_out' h2]
    exact G.has i c h1
  · obtain ⟨q1, hk⟩ := cs k v c q
    have h := G.ok k v c q1
    cases c with
    | sh d => exact h
    | ow t ds => exact h
    | rf t ds => exact h
    | br i =>
      exfalso
      match k with
      | .inl j => exact nb _ (List.mem_of_getElem? (ent_temp.mp q1).2) i rfl
      | .inr j => exact G.nbr j i (ent_slot.mp q1).2
  · obtain ⟨h1, h2⟩ := clearG_get e
    rw [wipe_out' h2]
    exact G.args i t ds h1
open Classical in
/-- what a block's walk takes for its callers' world: all but what the visible slots own -/
noncomputable def blkB (H : Hp) (σ : L2.St) (Γ : Gam) (is : List Nat) : Hp := fun a => if ∃ i v c, i ∉ is ∧ ent [] [] σ Γ (.inr i) = some (v, c) ∧ own v c = some a then none else H a
theorem Good.bracket (G : Good K f M H τ T σ Γ) (is : List Nat) : ∃ f', Good K f' M H [] [] (L2.wipe σ is) (clearG Γ is) ∧
    ∀ M' H' v c Γe, Solid c → Good K f' M' H' [v] [c] (L2.wipe σ is) Γe → Good K f M' H' (v :: τ) (c :: T) σ (restoreG Γ Γe is) := by
  have B_some : ∀ {a u}, blkB H σ Γ is a = some u → (¬ ∃ i v c, i ∉ is ∧ ent [] [] σ Γ (.inr i) = some (v, c) ∧ own v c = some a) ∧ H a = some u := fun {a u} e => by
    unfold blkB at e
    split at e
    · cases e
    · rename_i n; exact ⟨n, e⟩
  have B_of : ∀ {a u}, (¬ ∃ i v c, i ∉ is ∧ ent [] [] σ Γ (.inr i) = some (v, c) ∧ own v c = some a) → H a = some u → blkB H σ Γ is a = some u := fun {a u} n e => by
    unfold blkB
    rw [if_neg n]
    exact e
  have B_none : ∀ {a}, blkB H σ Γ is a = none → f.B a = none := fun {a} e => by
    by_cases n : ∃ i v c, i ∉ is ∧ ent [] [] σ Γ (.inr i) = some (v, c) ∧ own v c = some a
    · obtain ⟨i, v, c, _, q, r⟩ := n
      obtain ⟨_, _, _, _, _, _, hb⟩ := (G.ok (.inr i) v c q).own_ok r
      exact hb
    · cases hz : f.B a with
      | none => rfl
      | some u => rw [B_of n (G.bys a u hz)] at e; cases e
  have cs : ∀ k v c, ent [] [] (L2.wipe σ is) (clearG Γ is) k = some (v, c) → ∃ i, k = .inr i ∧ i ∉ is ∧ ent [] [] σ Γ (.inr i) = some (v, c) := fun k v c q => by
    match k with
    | .inl j => have := (ent_temp.mp q).1; simp at this
    | .inr j =>
      obtain ⟨q1, q2⟩ := ent_slot.mp q
      obtain ⟨h1, h2⟩ := clearG_get q2
      rw [wipe_out' h2] at q1
      exact ⟨j, rfl, h2, ent_slot.mpr ⟨q1, h1⟩⟩
  refine ⟨⟨blkB H σ Γ is, M, f.vs⟩, ⟨fun a u e => (B_some e).2, G.sub, Sub.refl M, fun a o u e _ => ⟨o, e⟩, rfl, by rw [wipe_length, clearG_len]; exact G.sl, fun i c e => ?_, fun k v c q => ?_, fun k k' v c v' c' a q q' r r' => ?_, fun i j e => G.nbr i j (clearG_get e).1, fun i t ds e => ?_⟩, ?_⟩
  · obtain ⟨h1, h2⟩ := clearG_get e
    rw [wipe_out' h2]
    exact G.has i c h1
  · obtain ⟨i, rfl, hi, q1⟩ := cs k v c q
    have h := G.ok (.inr i) v c q1
    have nb : ∀ a, own v c = some a → blkB H σ Γ is a = none := fun a r => by
      unfold blkB
      rw [if_pos ⟨i, v, c, hi, q1, r⟩]
    cases c with
    | sh d => exact h
    | ow t ds => exact OwnOk.frm h fun a e => nb a (by rw [e]; rfl)
    | rf t ds => exact OwnOk.frm h fun a e => nb a (by rw [e]; rfl)
    | br j => exact (G.nbr i j (ent_slot.mp q1).2).elim
  · obtain ⟨i, rfl, _, q1⟩ := cs k v c q
    obtain ⟨i', rfl, _, q1'⟩ := cs k' v' c' q'
    exact G.inj _ _ _ _ _ _ a q1 q1' r r'
  · obtain ⟨h1, h2⟩ := clearG_get e
    rw [wipe_out' h2]
    exact G.args i t ds h1
  · intro M' H' v c Γe sc G'
    have hl : Γe.length = Γ.length := by rw [← G'.sl, wipe_length, G.sl]
    -- what stood pending or hidden stands
    have stand : ∀ {a u}, H a = some u → (¬ ∃ i v c, i ∉ is ∧ ent [] [] σ Γ (.inr i) = some (v, c) ∧ own v c = some a) → H' a = some u ∧ blkB H σ Γ is a = some u := fun {a u} e n => ⟨G'.bys a u (B_of n e), B_of n e⟩
    have hid : ∀ k v c a, ent τ T σ Γ k = some (v, c) → (∀ i, k = .inr i → i ∈ is) → own v c = some a → ¬ ∃ i v c, i ∉ is ∧ ent [] [] σ Γ (.inr i) = some (v, c) ∧ own v c = some a := fun k v c a q hk r ⟨i, v', c', hi, q', r'⟩ => by
      have z := G.inj k (.inr i) v c v' c' a q q' r r'
      exact hi (hk i z)
    -- the cells behind: pending and hidden ones as they were, the others as the block left them
    have cs2 : ∀ k u e, ent τ T σ (restoreG Γ Γe is) k = some (u, e) → ((∀ i, k = .inr i → i ∈ is) ∧ ent τ T σ Γ k = some (u, e)) ∨ ∃ i, k = .inr i ∧ i ∉ is ∧ ent [v] [c] (L2.wipe σ is) Γe (.inr i) = some (u, e) := fun k u e q => by
      match k with
      | .inl j => exact .inl ⟨(fun i z => by cases z), q⟩
      | .inr j =>
        obtain ⟨q1, q2⟩ := ent_slot.mp q
        rcases restoreG_get hl q2 with ⟨h1, h2⟩ | ⟨h1, h2⟩
        · exact .inl ⟨(fun i z => by cases z; exact h1), ent_slot.mpr ⟨q1, h2⟩⟩
        · exact .inr ⟨j, rfl, h1, ent_slot.mpr ⟨by rw [wipe_out' h1]; exact q1, h2⟩⟩
    have base : Good K f M' H' τ T σ (restoreG Γ Γe is) := by
      refine ⟨fun a u e => ?_, G'.sub, G.m0.trans G'.m0, fun a o u e e' => ?_, G.tl, by rw [restoreG_len, hl]; exact G.sl, fun i c' e => ?_, fun k u e q => ?_, fun k k' u e u' e' a q q' r r' => ?_, fun i j e => ?_, fun i t ds e => ?_⟩
      · refine (stand (G.bys a u e) ?_).1
        rintro ⟨i, v', c', _, q, r⟩
        obtain ⟨_, _, _, _, _, _, hb⟩ := (G.ok (.inr i) v' c' q).own_ok r
        rw [hb] at e; cases e
      · have n : ¬ ∃ i v c, i ∉ is ∧ ent [] [] σ Γ (.inr i) = some (v, c) ∧ own v c = some a := by
          rintro ⟨i, v', c', _, q, r⟩
          obtain ⟨_, _, _, _, _, _, hb⟩ := (G.ok (.inr i) v' c' q).own_ok r
          rw [hb] at e'; cases e'
        obtain ⟨w, hw⟩ := G'.new a o u e (B_of n (G.bys a u e'))
        exact G.new a w u hw e'
      · rcases restoreG_get hl e with ⟨_, h2⟩ | ⟨h1, h2⟩
        · exact G.has i c' h2
        · obtain ⟨w, hw⟩ := G'.has i c' h2
          rw [wipe_out' h1] at hw
          exact ⟨w, hw⟩
      · rcases cs2 k u e q with ⟨hk, q⟩ | ⟨i, rfl, hi, q⟩
        · refine (G.ok k u e q).step G'.m0 fun a r => ?_
          obtain ⟨o, ho⟩ := G.ownedSome q r
          obtain ⟨_, _, _, _, _, m, _⟩ := (G.ok k u e q).own_ok r
          obtain ⟨s1, s2⟩ := stand ho (hid k u e a q hk r)
          refine ⟨by rw [s1, ho], ?_⟩
          cases hq : M' a with
          | none => rfl
          | some w =>
            obtain ⟨w', hw'⟩ := G'.new a w o hq s2
            have hw2 : M a = some w' := hw'
            rw [m] at hw2; cases hw2
        · have h := G'.ok _ _ _ q
          cases e with
          | sh d => exact h
          | ow t ds =>
            obtain ⟨a, xs, ea, h1, h2, h3, h4⟩ := h
            exact ⟨a, xs, ea, h1, h2, h3, B_none h4⟩
          | rf t ds =>
            obtain ⟨a, xs, ea, h1, h2, h3, h4⟩ := h
            exact ⟨a, xs, ea, h1, h2, h3, B_none h4⟩
          | br j => exact (G'.nbr i j (ent_slot.mp q).2).elim
      · have cross : ∀ k u e i u' e' a, ((∀ i, k = .inr i → i ∈ is) ∧ ent τ T σ Γ k = some (u, e)) → ent [v] [c] (L2.wipe σ is) Γe (.inr i) = some (u', e') → own u e = some a → own u' e' = some a → False := fun k u e i u' e' a ⟨hk, q⟩ q' r r' => by
          obtain ⟨o, ho⟩ := G.ownedSome q r
          obtain ⟨_, s2⟩ := stand ho (hid k u e a q hk r)
          obtain ⟨_, _, _, _, _, _, hb⟩ := (G'.ok _ _ _ q').own_ok r'
          have hb' : blkB H σ Γ is a = none := hb
          rw [s2] at hb'; cases hb'
        rcases cs2 k u e q with h1 | ⟨i, k1, hi, q1⟩
        · rcases cs2 k' u' e' q' with h2 | ⟨i', k2, hi', q2⟩
          · exact G.inj _ _ _ _ _ _ a h1.2 h2.2 r r'
          · exact (cross k u e i' u' e' a h1 q2 r r').elim
        · rcases cs2 k' u' e' q' with h2 | ⟨i', k2, hi', q2⟩
          · exact (cross k' u' e' i u e a h2 q1 r' r).elim
          · have z := G'.inj _ _ _ _ _ _ a q1 q2 r r'
            rw [k1, k2, z]
      · rcases restoreG_get hl e with ⟨_, h2⟩ | ⟨_, h2⟩
        · exact G.nbr i j h2
        · exact G'.nbr i j h2
      · rcases restoreG_get hl e with ⟨_, h2⟩ | ⟨h1, h2⟩
        · exact G.args i t ds h2
        · have := G'.args i t ds h2
          rw [wipe_out' h1] at this
          exact this
    have h0 := G'.ok (.inl 0) v c rfl
    refine base.push ?_ fun a r k u e q r' => ?_
    · cases c with
      | sh d => exact h0
      | ow t ds =>
        obtain ⟨a, xs, ea, h1, h2, h3, h4⟩ := h0
        exact ⟨a, xs, ea, h1, h2, h3, B_none h4⟩
      | rf t ds => exact sc.elim
      | br i => exact sc.elim
    · rcases cs2 k u e q with ⟨hk, q1⟩ | ⟨i, k1, hi, q1⟩
      · obtain ⟨o, ho⟩ := G.ownedSome q1 r'
        obtain ⟨_, s2⟩ := stand ho (hid k u e a q1 hk r')
        obtain ⟨_, _, _, _, _, _, hb⟩ := h0.own_ok r
        have hb' : blkB H σ Γ is a = none := hb
        rw [s2] at hb'; cases hb'
      · have z := G'.inj (.inl 0) (.inr i) v c u e a rfl q1 r r'
        cases z
end

/-! ### [e for x in xs if t] -/
abbrev WF : WX := fun _ _ _ _ => False
def lcD (P : D → Gam → Option Gam) (t : TF) (E : EF) (is : List Nat) : List D → Gam → List D → Option (List D × Gam)
  | [], Γ, acc => some (acc, Γ)
  | d :: r, Γ, acc => match P d Γ with
    | some Γ1 => (match t Γ1 with
      | some (.val true, Γ2) => (match eKeep E Γ2 with
        | some (.val (.sh e), Γ3) => if acc.length < 16777216 then lcD P t E is r (clearG Γ3 is) (acc ++ [e]) else none
        | _ => none)
      | some (.val false, Γ2) => lcD P t E is r (clearG Γ2 is) acc
      | _ => none)
    | none => none
def eLc (I : IF) (P : D → Gam → Option Gam) (t : TF) (E : EF) (is : List Nat) : EF := fun Γ => match I Γ with
  | some (.val ds, Γ1) => (match lcD P t E is ds (clearG Γ1 is) [] with
    | some (acc, Γe) => some (.val (.ow .lst acc), restoreG Γ1 Γe is)
    | none => none)
  | some (.exc x, Γ1) => some (.exc x, Γ1)
  | none => none
def tYesD : TF := fun Γ => some (.val true, Γ)
theorem tYesD_of {K : PySem.W.Frag} {σ : L2.St} {H : Hp} {Q : Bool → Hp → Prop} (h : DL.tB K WF tYesD σ H Q) : Q true H := by
  obtain ⟨f, M, τ, T, Γ, r, Γ', G, hF, p⟩ := h
  cases hF
  exact p H M G
theorem dts_nil {X : Cx} : PTs X [] (DL.tB X.K WF tYesD) := ⟨fun pins s σ H Q I h => pts_nil.run pins s σ H Q I (tYesD_of h)⟩
theorem dts_one {X : Cx} {c : Expr} {t : TF} (h : DT X WF c t) : PTs X [c] (DL.tB X.K WF t) := pts_one h
theorem lc_reading {K : PySem.W.Frag} {W : WX} {I : IF} {P : D → Gam → Option Gam} {t : TF} {E : EF} {S is : List Nat} (hS : ∀ i ∈ S, i ∈ is) {σ : L2.St} {H : Hp} {Q : VK} (h : tE K W (eLc I P t E is) σ H Q) :
    tLc (tI K W I) (tG K S P) (DL.tB K WF t) (tE K WF (eKeep E)) is σ H Q := by
  obtain ⟨f, M, τ, T, Γ, r, Γ', G, hF, p⟩ := h
  unfold eLc at hF
  split at hF
  · rename_i ds Γ1 hI
    split at hF
    · rename_i acc Γe hl
      cases hF
      refine ⟨f, M, τ, T, Γ, _, Γ1, G, hI, fun J H1 M1 G1 hJ => ?_⟩
      obtain ⟨f', G2, back⟩ := G1.bracket is
      intro L hL
      -- the loop's word
      refine ⟨fun i m H => m = ds.length - i ∧ i ≤ ds.length ∧ ∃ M2 Γ2 acc2, Good K (f'.at M1) M2 H [.ref L] [.ow .lst acc2] (L2.wipe σ is) Γ2 ∧ lcD P t E is (ds.drop i) Γ2 acc2 = some (acc, Γe),
        ⟨ds.length, by simp, Nat.zero_le _, M1, _, [], (G2.inner).alloc hL (by show (upd H1 L (.lst [])) L = _; rw [upd_same]) .nil, hl⟩, ?_⟩
      rintro i m H2 ⟨rfl, hi, M2, Γ2, acc2, G3, e3⟩
      obtain ⟨go, stop⟩ := hJ i H2 (G3.m0.trans G3.sub)
      by_cases hlt : i < ds.length
      · have hd : ds[i]? = some ds[i] := List.getElem?_eq_getElem hlt
        obtain ⟨g, y⟩ := go _ hd
        refine .inr ⟨g, fun H' => ∃ M2 Γ2 acc2, Good K (f'.at M1) M2 H' [.ref L] [.ow .lst acc2] (L2.wipe σ is) Γ2 ∧ lcD P t E is (ds.drop (i + 1)) Γ2 acc2 = some (acc, Γe), fun H' hN => ⟨ds.length - (i + 1), by omega, rfl, hlt, hN⟩, fun x H' hy => ?_⟩
        rw [List.drop_eq_getElem_cons hlt] at e3
        unfold lcD at e3
        split at e3
        · rename_i Γ4 h4
          have y' : YOk K M2 H2 x H' ds[i] := by
            rcases y x H' hy with ⟨a, b⟩ | ⟨q, xs, es, a, b, c, d, e⟩
            · exact .inl ⟨a, Rep.mono G3.m0 _ _ b⟩
            · exact .inr ⟨q, xs, es, a, b, c, Reps.mono G3.m0 _ _ d, e⟩
          obtain ⟨M4, _, G4, r4⟩ := G3.yield y'
          have nb : NoBr [Cell.ow .lst acc2] := fun c hc j => by
            rw [List.mem_singleton] at hc
            rw [hc]
            intro z
            cases z
          refine ⟨f'.at M1, M4, _, _, Γ2, ds[i], Γ4, nb, G4, r4, h4, fun σ5 H5 M5 G5 hσ => ?_⟩
          have hw : L2.wipe σ5 is = L2.wipe σ is := by
            rw [← wipe_wipe σ is]
            exact wipe_eq hσ.1 fun j hj => hσ.2 j fun z => hj (hS j z)
          refine ⟨hw, ?_⟩
          cases ht : t Γ4 with
          | none => rw [ht] at e3; cases e3
          | some q =>
            obtain ⟨rt, Γ5⟩ := q
            rw [ht] at e3
            cases rt with
            | exc x => cases e3
            | val b =>
              refine ⟨f'.at M1, M5, _, _, Γ4, _, Γ5, G5, ht, fun H6 M6 G6 => ?_⟩
              cases b with
              | false => exact iteF ⟨M6, _, acc2, by rw [← hw]; exact G6.wipe nb is, e3⟩
              | true =>
                refine iteT ?_
                dsimp only at e3
                cases hE : eKeep E Γ5 with
                | none => rw [hE] at e3; cases e3
                | some q =>
                  obtain ⟨re, Γ6⟩ := q
                  rw [hE] at e3
                  cases re with
                  | exc x => cases e3
                  | val ce =>
                    refine ⟨f'.at M1, M6, _, _, Γ5, _, Γ6, G6, hE, fun y H7 M7 G7 => ?_⟩
                    cases ce with
                    | ow t ds => cases e3
                    | rf t ds => cases e3
                    | br i => cases e3
                    | sh e =>
                      dsimp only at e3
                      split at e3
                      · rename_i hz
                        have ry : Rep K M7 y e := G7.ok (.inl 0) y _ rfl
                        obtain ⟨a7, xs7, ea, hown, rs, _⟩ := G7.pop.ok (.inl 0) _ _ rfl
                        cases ea
                        refine ⟨xs7, hown, by rw [rs.length, sizeLine_eq]; exact hz, M7, _, acc2 ++ [e], ?_, e3⟩
                        have G8 := G7.pop.putT (o := .lst (xs7 ++ [y])) (t' := .lst) (xs' := xs7 ++ [y]) (ds' := acc2 ++ [e]) (by show (upd H7 L _) L = _; rw [upd_same]) (rs.append (.cons ry .nil))
                        rw [← hw]
                        exact G8.wipe (fun c hc j => by
                          rw [List.mem_singleton] at hc
                          rw [hc]
                          intro z
                          cases z) is
                      · cases e3
        · cases e3
      · have e : i = ds.length := by omega
        refine .inl ⟨stop e, ?_⟩
        rw [e, List.drop_length] at e3
        cases e3
        exact p _ H2 M2 (back M2 H2 _ _ Γe trivial (G2.outer G3))
    · cases hF
  · rename_i x Γ1 hI
    cases hF
    exact ⟨f, M, τ, T, Γ, _, Γ', G, hI, p⟩
  · cases hF
section
variable {X : Cx} {W : WX}
theorem de_lc {elt tg iter : Expr} {ifs : List Expr} {scope : Scope} {own : List (Str × Nat)} {pos : Pos} {I : IF} {P : D → Gam → Option Gam} {t : TF} {E : EF} {S : List Nat} (hi : DI X W tg iter I) (hN : X.N.Nodup) (ok : BlkOk X.N X.env.scope scope own)
    (hg : ∀ (s : Shared) (H : Hp) (C : Addr) (cl : List (Str × Addr)) (fp : List Addr), DG (X.blk s H scope (compEnvC scope cl C X.env) fp) tg S P)
    (ht : ∀ (s : Shared) (H : Hp) (C : Addr) (cl : List (Str × Addr)) (fp : List Addr), PTs (X.blk s H scope (compEnvC scope cl C X.env) fp) ifs (DL.tB X.K WF t))
    (he : ∀ (s : Shared) (H : Hp) (C : Addr) (cl : List (Str × Addr)) (fp : List Addr), DE (X.blk s H scope (compEnvC scope cl C X.env) fp) WF elt E)
    (hS : ∀ i ∈ S, i ∈ own.map (·.2) := by decide) (hc : X.calm = true := by rfl) (hs : ∀ x, foldedSetIterable iter X.env x = pure x := by intro _; rfl) :
    DE X W (.ListComp elt [⟨tg, iter, ifs, 0⟩] scope pos) (eLc I P t E (own.map (·.2))) :=
  PEimp (pe_lc hc hN hi ok hg ht (fun s H C cl fp => de_keep (he s H C cl fp)) hs) fun _ _ _ h => lc_reading hS h
/-- x = [..] -/
theorem ds_setLc (i : Nat) {y : Str} {py : Pos} {elt tg iter : Expr} {ifs : List Expr} {scope : Scope} {own : List (Str × Nat)} {pos spos : Pos} {I : IF} {P : D → Gam → Option Gam} {t : TF} {E : EF} {S : List Nat} (hi : DI X W tg iter I) (hN : X.N.Nodup) (ok : BlkOk X.N X.env.scope scope own)
    (hsw : swapsWith (.ListComp elt [⟨tg, iter, ifs, 0⟩] scope pos) (some (.Name y py)) spos.line X.env = pure true)
    (hg : ∀ (s : Shared) (H : Hp) (C : Addr) (cl : List (Str × Addr)) (fp : List Addr), DG (X.blk s H scope (compEnvC scope cl C X.env) fp) tg S P)
    (ht : ∀ (s : Shared) (H : Hp) (C : Addr) (cl : List (Str × Addr)) (fp : List Addr), PTs (X.blk s H scope (compEnvC scope cl C X.env) fp) ifs (DL.tB X.K WF t))
    (he : ∀ (s : Shared) (H : Hp) (C : Addr) (cl : List (Str × Addr)) (fp : List Addr), DE (X.blk s H scope (compEnvC scope cl C X.env) fp) WF elt E)
    (hy : X.N[i]? = some y := by rfl) (hyl : X.env.scope.names.lookup y = some .local := by rfl)
    (hS : ∀ i ∈ S, i ∈ own.map (·.2) := by decide) (hc : X.calm = true := by rfl) (hs : ∀ x, foldedSetIterable iter X.env x = pure x := by intro _; rfl) :
    DS X W (.Assign [.Name y py] (.ListComp elt [⟨tg, iter, ifs, 0⟩] scope pos) spos) (sSet i (eLc I P t E (own.map (·.2)))) := by
  refine PSimp (ps_setLc (te := tE X.K WF (eKeep E)) (g := tG X.K S P) (tt := DL.tB X.K WF t) hc hN hy hyl hsw hi ok hg ht (fun s H C cl fp => de_keep (he s H C cl fp)) hs) fun D σ H h => ?_
  refine lc_reading hS (runS h fun f c Γ1 v H1 M1 o G1 hk p => ?_)
  split at hk
  · rename_i c' Γ2 h2
    obtain ⟨sc, M2, G2⟩ := G1.solid h2
    split at hk
    · rename_i Γ3 h3
      cases hk
      exact p _ H1 M2 (G2.setS sc NoBr.nil h3)
    · cases hk
  · cases hk

/-! ### dicts made -/
def eDict0 : EF := fun Γ => some (.val (.ow (.dk []) []), Γ)
theorem de_dict0 {pos : Pos} : DE X W (.Dict [] [] pos) eDict0 := by
  refine PEimp pe_dnewK fun σ H Q h => ?_
  obtain ⟨f, M, τ, T, Γ, r, Γ', G, hF, p⟩ := h
  cases hF
  exact fun q hq => p _ _ M (G.alloc (xs := []) hq ⟨rfl, by rw [upd_same]; rfl⟩ .nil)
end

end DL

set_option Elab.async false
set_option linter.all false
set_option maxRecDepth 100000
set_option maxHeartbeats 1000000
/-! dict displays -/
namespace DL
open PySem PySem.Spec PyProof.Rows L2

theorem merge_nodup {κvs : List (Key × V)} : ∀ {more kvs : List (Key × V)}, ((kvs ++ more).map (·.1)).Nodup → mergeK kvs more = kvs ++ more
  | [], kvs, _ => by rw [List.append_nil]; rfl
  | (k, v) :: more, kvs, h => by
    have step : putK kvs k v = kvs ++ [(k, v)] := by
      unfold putK
      rw [if_neg]
      intro z
      rw [List.any_eq_true] at z
      obtain ⟨p, hp, e⟩ := z
      have e' : p.1 = k := of_decide_eq_true e
      rw [List.map_append, List.map_cons, List.nodup_append] at h
      exact h.2.2 p.1 (List.mem_map.mpr ⟨p, hp, rfl⟩) k List.mem_cons_self e'
    show mergeK (putK kvs k v) more = _
    rw [step, merge_nodup (κvs := κvs) (by rw [List.append_assoc]; exact h), List.append_assoc]
    rfl
def aKeeps : List EF → AF
  | [] => aNil
  | E :: Es => aCons (eKeep E) (aKeeps Es)
def trsOf (K : PySem.W.Frag) (W : WX) : List Key → List EF → List (TE × TE)
  | k :: ks, E :: Es => (tC (kV k), tE K W (eKeep E)) :: trsOf K W ks Es
  | _, _ => []
def pairVs : List Key → List V → List (V × V)
  | k :: ks, v :: vs => (kV k, v) :: pairVs ks vs
  | _, _ => []
theorem pairs_run {K : PySem.W.Frag} {W : WX} {σ : L2.St} : ∀ {ks : List Key} {Es : List EF} {H : Hp} {Q : List (V × V) → Hp → Prop}, ks.length = Es.length → tL K W (aKeeps Es) σ H (fun vs H1 => Q (pairVs ks vs) H1) → tPairs (trsOf K W ks Es) σ H Q
  | [], [], H, Q, _, h => by
    obtain ⟨f, M, τ, T, Γ, r, Γ', G, hF, p⟩ := h
    cases hF
    exact p [] H M rfl G
  | [], _ :: _, _, _, hl, _ => by cases hl
  | _ :: _, [], _, _, hl, _ => by cases hl
  | k :: ks, E :: Es, H, Q, hl, h => by
    obtain ⟨f, M, τ, T, Γ, r, Γ', G, hF, p⟩ := h
    show tE K W (eKeep E) σ H fun y H2 => tPairs (trsOf K W ks Es) σ H2 fun ps H3 => Q ((kV k, y) :: ps) H3
    unfold aKeeps aCons at hF
    cases hA : eKeep E Γ with
    | none => rw [hA] at hF; cases hF
    | some q =>
      obtain ⟨ra, Γ1⟩ := q
      rw [hA] at hF
      cases ra with
      | exc x => cases hF; exact ⟨f, M, τ, T, Γ, .exc x, Γ', G, hA, p⟩
      | val c =>
        refine ⟨f, M, τ, T, Γ, .val c, Γ1, G, hA, fun v H1 M1 G1 => pairs_run (by simpa using hl) ?_⟩
        dsimp only at hF
        cases hL : aKeeps Es Γ1 with
        | none => rw [hL] at hF; cases hF
        | some q2 =>
          obtain ⟨rl, Γ2⟩ := q2
          rw [hL] at hF
          cases rl with
          | exc x => cases hF; exact ⟨f, M1, _, _, Γ1, .exc x, Γ', G1, hL, PostX.pop p⟩
          | val cs =>
            cases hF
            refine ⟨f, M1, _, _, Γ1, .val cs, Γ', G1, hL, fun vs H2 M2 hl2 G2 => ?_⟩
            refine p (v :: vs) H2 M2 (by rw [List.length_cons, List.length_cons, hl2]) ?_
            rw [List.reverse_cons, List.reverse_cons, List.append_assoc, List.append_assoc]
            exact G2
theorem pairVs_eq : ∀ {ks : List Key} {vs : List V}, ks.length = vs.length → pairVs ks vs = (ks.zip vs).map fun kv => (kV kv.1, kv.2)
  | [], [], _ => rfl
  | [], _ :: _, h => by cases h
  | _ :: _, [], h => by cases h
  | k :: ks, v :: vs, h => by
    rw [List.zip_cons_cons, List.map_cons]
    show (kV k, v) :: pairVs ks vs = _
    rw [pairVs_eq (by simpa using h)]
theorem map_fst_zip' {α β : Type} : ∀ {xs : List α} {ys : List β}, xs.length = ys.length → (xs.zip ys).map (·.1) = xs
  | [], [], _ => rfl
  | [], _ :: _, h => by cases h
  | _ :: _, [], h => by cases h
  | x :: xs, y :: ys, h => by rw [List.zip_cons_cons, List.map_cons, map_fst_zip' (by simpa using h)]
/-- {k: e, ..}, the keys written and all different -/
def eDisp (ks : List Key) (Es : List EF) : EF := fun Γ => match aKeeps Es Γ with
  | some (.val cs, Γ1) => (match shs cs with
    | some ds => if ks.length = ds.length then some (.val (.ow (.dk ks) ds), Γ1) else none
    | none => none)
  | some (.exc x, Γ1) => some (.exc x, Γ1)
  | none => none
section
variable {X : Cx} {W : WX} {pos : Pos}
theorem de_disp {keys : List (Option Expr)} {values : List Expr} (ks : List Key) {Es : List EF} (h : PPs X pos keys values (trsOf X.K W ks Es)) (hall : keys.all (·.isSome) = true := by rfl) (hl : keys.length = values.length := by rfl) (h0 : keys ≠ [] := by simp)
    (h15 : keys.length ≤ 15 := by decide) (hk : ks.length = Es.length := by rfl) (hk15 : ks.length ≤ 15 := by decide) (hnd : ks.Nodup := by decide) : DE X W (.Dict keys values pos) (eDisp ks Es) := by
  refine PEimp (pe_disp h hall hl h0 h15) fun σ H Q h => ?_
  obtain ⟨f, M, τ, T, Γ, r, Γ', G, hF, p⟩ := h
  intro q hq
  have G0 := G.alloc (p := q) (t := .dk []) (xs := []) (ds := []) (o := .dK []) hq ⟨rfl, by rw [upd_same]; rfl⟩ .nil
  refine pairs_run hk ?_
  unfold eDisp at hF
  cases hA : aKeeps Es Γ with
  | none => rw [hA] at hF; cases hF
  | some z =>
    obtain ⟨ra, Γ1⟩ := z
    rw [hA] at hF
    cases ra with
    | exc x => cases hF; exact ⟨f, M, _, _, Γ, .exc x, Γ', G0, hA, PostX.pop p⟩
    | val cs =>
      refine ⟨f, M, _, _, Γ, .val cs, Γ1, G0, hA, fun vs H2 M2 hlen G2 => ?_⟩
      dsimp only at hF
      split at hF
      · rename_i ds hd
        split at hF
        · rename_i hks
          cases hF
          obtain ⟨rs, G3⟩ := G2.shs hlen hd
          have hkv : ks.length = vs.length := by rw [rs.length]; exact hks
          obtain ⟨a1, xs1, ea, hown, _⟩ := G3.ok (.inl 0) _ _ rfl
          cases ea
          obtain ⟨_, hH⟩ := hown
          have hz : ([] : List Key).zip xs1 = [] := by cases xs1 <;> rfl
          rw [hz] at hH
          refine ⟨hH, ks.zip vs, pairVs_eq hkv, by rw [List.length_zip, hkv, Nat.min_self, ← hkv]; exact hk15, ?_⟩
          have hm : mergeK [] (ks.zip vs) = ks.zip vs := merge_nodup (κvs := []) (by rw [List.nil_append, map_fst_zip' hkv]; exact hnd)
          rw [hm]
          exact p _ _ M2 (G3.putT (o := .dK (ks.zip vs)) (t' := .dk ks) (xs' := vs) (ds' := ds) ⟨hkv, by rw [upd_same]⟩ rs)
        · cases hF
      · cases hF
end
end DL

set_option Elab.async false
set_option linter.all false
set_option maxRecDepth 100000
set_option maxHeartbeats 1000000
/-! the end: the law's call, by the mirror -/
namespace DL
open PySem PySem.Spec PyProof.Rows L2

def scriptD (ns : List Int) : D := .node .scr (ns.map D.int)
/-- the mirror of the law answers True -/
def SaysTrue (m : MF) (ns : List Int) : Prop := ∃ T', m [.sh (scriptD ns)] = some (.val (.sh (.leaf (.bl true))), T')
theorem reps_ints {K : PySem.W.Frag} {M : Hp} : ∀ ns : List Int, Reps K M (ns.map V.int) (ns.map D.int)
  | [] => .nil
  | n :: ns => .cons (by unfold Rep; rfl) (reps_ints ns)
theorem callG {P : Program} {w : World} {K : PySem.W.Frag} {mg mb : Str → Option Value} {k : Nat} {fa a : Addr} {fd : FuncData} {x : Str} {m : MF} {st : Shared} {vs : List Value} {ns : List Int}
    (inK : K.In st.heap) (hmg : st.heap.Ns mainGlobals mg) (hmb : st.heap.Ns builtinsNs mb) (hboot : ∀ x : Str, x ≠ "__name__" → mb x = bootBuiltins x) (lim : st.heap.NoLimit) (gens : st.gens = #[])
    (obj : st.heap.get? a = some { cls := .type "list", data := .seq vs.toArray }) (theInts : IntsAre vs ns) (few : ns.length ≤ sizeLine) (room : Room k callerA)
    (F : ∀ base : Heap, K.In base → base.Ns mainGlobals mg → FnG P w K mg base k fa fd [x] m) (bnd : ∀ (s : Shared) (u : Value), BindsTo s fd ⟨[u], []⟩ [(x, u)]) (says : SaysTrue m ns) :
    codeAny (model P w) callerA (.call (.ref fa) ⟨[.ref a], []⟩) (fun r s' => r = .ok (.ret (.bool true)) ∧ OldK st.heap s'.heap ∧ s'.os = st.os ∧ AllBare s'.gens) st := by
  have rv := vals_ints theInts
  have lenV := theInts.length
  -- an abstract heap that tracks nothing but the script
  have core : ∀ H : Hp, (∀ b, H b = none ∨ ∃ o xs, H b = some (.frz o (.lst xs))) → SqL K H a (ns.map V.int) → HOk P w H st.heap → (∀ b, H b ≠ none → b = a ∧ K.lookup a = none) →
      codeAny (model P w) callerA (.call (.ref fa) ⟨[.ref a], []⟩) (fun r s' => r = .ok (.ret (.bool true)) ∧ OldK st.heap s'.heap ∧ s'.os = st.os ∧ AllBare s'.gens) st := by
    intro H only seq hok at_a
    have notA : ∀ {b : Addr} {o : Obj}, st.heap.get? b = some o → (∀ es ep, o.data = .dict es ep → H b = none) := fun {b o} e es ep d => by
      cases q : H b with
      | none => rfl
      | some u =>
        obtain ⟨rfl, _⟩ := at_a b (by rw [q]; intro z; cases z)
        rw [obj] at e
        have e2 := Option.some.inj e
        rw [← e2] at d
        cases d
    have ns2 : ∀ {b : Addr} {mm : Str → Option Value}, st.heap.Ns b mm → (hidT st.heap H).Ns b mm := by
      rintro b mm ⟨o, es, ep, e, d, r⟩
      exact ⟨o, es, ep, hidT_get e (notA e es ep d), d, r⟩
    have inB : K.In (hidT st.heap H) := by
      intro b o e
      refine hidT_get (inK b o e) ?_
      cases q : H b with
      | none => rfl
      | some u =>
        obtain ⟨rfl, z⟩ := at_a b (by rw [q]; intro z; cases z)
        rw [z] at e
        cases e
    have md : Mod K mg (hidT st.heap H) := ⟨inB, ns2 hmg, ⟨mb, ns2 hmb, hboot⟩, by obtain ⟨mc, h1, h2⟩ := lim; exact ⟨mc, ns2 h1, h2⟩⟩
    have env : Env0 P w K mg (hidT st.heap H) callerA [] st H := ⟨rfl, md, fun _ _ e => of_hidT e, Nat.le_of_eq (hidT_size _ _), trivial, (fun b hb => absurd (show b ∈ ([] : List Addr) from hb) (by simp)), hok, .of_eq gens⟩
    obtain ⟨T', hT⟩ := says
    have g0 : Good K ⟨H, H, []⟩ H H [] [] [] [] := by
      refine ⟨Sub.refl H, Sub.refl H, Sub.refl H, fun b o u e _ => ⟨o, e⟩, rfl, rfl, fun i c e => by simp at e, fun k v c q => ?_, fun k k' v c v' c' b q => ?_, fun i j e => by simp at e, fun i t ds e => by simp at e⟩
      · match k with
        | .inl j => have := (ent_temp.mp q).1; simp at this
        | .inr j => have := (ent_slot.mp q).1; simp at this
      · match k with
        | .inl j => have := (ent_temp.mp q).1; simp at this
        | .inr j => have := (ent_slot.mp q).1; simp at this
    have g : Good K ⟨H, H, []⟩ H H [.ref a] [.sh (scriptD ns)] [] [] := g0.pushSh (by
      unfold scriptD Rep
      exact ⟨a, _, rfl, seq, reps_ints ns⟩)
    have asked : spM K ([x] : List Str).length m [.ref a] H (fun v H' => v = .bl true ∧ ∀ b o, H b = some o → H' b = some o) (fun _ _ _ => False) :=
      ⟨rfl, _, H, _, _, T', g, hT, trivial, fun v H' M' g' => ⟨g'.ok (.inl 0) v _ rfl, g'.bys⟩⟩
    refine codeAny_mono ((F _ inB (ns2 hmg)).run callerA [] st H ⟨[.ref a], []⟩ [.ref a] [.ref a] _ _ ⟨room, rfl⟩ env (bnd st (.ref a)) (.cons rfl .nil) asked) ?_
    rintro (er | fl) s' h
    · obtain ⟨_, _, _, _, _, _, _, _, _, _, _, _, bad⟩ := h
      exact bad.elim
    · cases fl with
      | next => exact h.elim
      | brk => exact h.elim
      | cont => exact h.elim
      | ret u =>
        obtain ⟨v, H', os, bare, un, hok', rel, hv, keep⟩ := h
        subst hv
        obtain rfl : u = Value.bool true := rel
        refine ⟨rfl, OldK.of_keep fun b o e => ?_, os, bare⟩
        rcases only b with z | ⟨ob, xs, z⟩
        · exact un.keep b o e z (fun y => absurd (show b ∈ ([] : List Addr) from y) (by simp)) (by simp)
        · obtain ⟨e1, _⟩ := hok b _ z
          obtain ⟨e2, _⟩ := hok' b _ (keep b _ z)
          rw [e1] at e
          rw [← Option.some.inj e]
          exact e2
  cases hk : K.lookup a with
  | some o =>
    have e := inK a o hk
    rw [obj] at e
    have e2 := Option.some.inj e
    subst e2
    exact core (fun _ => none) (fun _ => .inl rfl) (.inr ⟨_, vs.toArray, _, hk, rfl, rfl, rfl, by rw [List.size_toArray, lenV]; exact few, by simpa using rv⟩) (fun b u z => by cases z) fun b z => absurd rfl z
  | none =>
    have at1 : ∀ {b : Addr} {u : HO}, (if b = a then some (HO.frz { cls := .type "list", data := .seq vs.toArray } (.lst (ns.map V.int))) else none) = some u → b = a ∧ u = .frz { cls := .type "list", data := .seq vs.toArray } (.lst (ns.map V.int)) := fun {b u} z => by
      split at z
      · rename_i h; exact ⟨h, (Option.some.inj z).symm⟩
      · cases z
    refine core (fun b => if b = a then some (.frz { cls := .type "list", data := .seq vs.toArray } (.lst (ns.map V.int))) else none) (fun b => ?_) (.inl (.inr ⟨{ cls := .type "list", data := .seq vs.toArray }, if_pos rfl⟩)) (fun b u z => ?_) fun b z => ?_
    · by_cases hb : b = a
      · exact .inr ⟨_, _, if_pos hb⟩
      · exact .inl (if_neg hb)
    · obtain ⟨rfl, rfl⟩ := at1 z
      exact ⟨obj, by rw [List.length_map]; exact few, vs, _, rv, obj⟩
    · by_cases hb : b = a
      · exact ⟨hb, hk⟩
      · exact absurd (if_neg hb) z
theorem walk_G {l : PySem.W.OpenLaw} {k : Nat} {q : Program} {loose : List Str} {XP : (Str → Option Value) → Heap → Prop} {YP : World → Heap → Prop} {d : DefRec} {K : Params → PySem.W.Frag} {x : Str}
    (hn : l.most = some 63) (hdf : d.params.defaults = []) (room : Room k callerA) (hY : ∀ (w : World) (h : Heap), YP w h → (K w.params).In h)
    (F : ∀ (w : World) (mg : Str → Option Value) (fa : Addr) (h : Heap), (K w.params).In h → h.Ns mainGlobals mg → mg d.name = some (.ref fa) →
      ∃ (fd : FuncData) (m : MF), (∀ (s : Shared) (u : Value), BindsTo s fd ⟨[u], []⟩ [(x, u)]) ∧ (∀ base : Heap, (K w.params).In base → base.Ns mainGlobals mg → FnG l.prog w (K w.params) mg base k fa fd [x] m) ∧ ∀ ns : List Int, ns.length ≤ 63 → SaysTrue m ns) :
    PySem.W.WalkO q loose XP YP l.row.toRowW d [] (fun f vs => PySem.call f vs) := by
  refine Att.attach_call hn hdf fun w s₀ s₁ mg mb fa o pm cd doc a vs ns G Y ho hd hcd hmg hobj hints hlen hg => ?_
  obtain ⟨fd, m, hb, hF, hs⟩ := F w mg fa _ (hY w _ Y) G.T.g hmg
  exact callG (hY w _ Y) G.T.g G.T.b G.T.builtins G.T.nolimit hg hobj hints (Nat.le_trans hlen (by rw [sizeLine_eq]; decide)) room hF hb (hs ns hlen)
theorem fin_of {P : Program} {w : World} {K : PySem.W.Frag} {mg : Str → Option Value} {k : Nat} {fa : Addr} {x : Str} {m0 : MF} (h : ∀ ns : List Int, ns.length ≤ 63 → SaysTrue m0 ns)
    (q : ∃ (fd : FuncData) (m : MF), (∀ (s : Shared) (v : Value), BindsTo s fd ⟨[v], []⟩ [(x, v)]) ∧ (∀ base : Heap, K.In base → base.Ns mainGlobals mg → FnG P w K mg base k fa fd [x] m) ∧ m = m0) :
    ∃ (fd : FuncData) (m : MF), (∀ (s : Shared) (u : Value), BindsTo s fd ⟨[u], []⟩ [(x, u)]) ∧ (∀ base : Heap, K.In base → base.Ns mainGlobals mg → FnG P w K mg base k fa fd [x] m) ∧ ∀ ns : List Int, ns.length ≤ 63 → SaysTrue m ns := by
  obtain ⟨fd, m, q1, q2, rfl⟩ := q
  exact ⟨fd, _, q1, q2, h⟩
end DL

set_option Elab.async false
set_option linter.all false
set_option maxRecDepth 100000
set_option maxHeartbeats 1000000
/-! the mirrors, run: what is asked of a mirror at a state, rule by rule -/
namespace DL
open PySem PySem.Spec PyProof.Rows L2

def evE (F : EF) (Γ : Gam) (Q : Cell → Gam → Prop) (X : Exc → Gam → Prop) : Prop := ∃ r Γ1, F Γ = some (r, Γ1) ∧ match r with
  | .val c => Q c Γ1
  | .exc x => X x Γ1
def evT (F : TF) (Γ : Gam) (Q : Bool → Gam → Prop) (X : Exc → Gam → Prop) : Prop := ∃ r Γ1, F Γ = some (r, Γ1) ∧ match r with
  | .val b => Q b Γ1
  | .exc x => X x Γ1
def evA (F : AF) (Γ : Gam) (Q : List Cell → Gam → Prop) (X : Exc → Gam → Prop) : Prop := ∃ r Γ1, F Γ = some (r, Γ1) ∧ match r with
  | .val cs => Q cs Γ1
  | .exc x => X x Γ1
def evI (F : IF) (Γ : Gam) (Q : List D → Gam → Prop) (X : Exc → Gam → Prop) : Prop := ∃ r Γ1, F Γ = some (r, Γ1) ∧ match r with
  | .val ds => Q ds Γ1
  | .exc x => X x Γ1
def evO (F : OF) (Γ : Gam) (Q : Option Int → Gam → Prop) (X : Exc → Gam → Prop) : Prop := ∃ r Γ1, F Γ = some (r, Γ1) ∧ match r with
  | .val o => Q o Γ1
  | .exc x => X x Γ1
def evP (P : D → Gam → Option Gam) (d : D) (Γ : Gam) (Q : Gam → Prop) : Prop := ∃ Γ1, P d Γ = some Γ1 ∧ Q Γ1
def evPs (P : List D → Gam → Option Gam) (ds : List D) (Γ : Gam) (Q : Gam → Prop) : Prop := ∃ Γ1, P ds Γ = some Γ1 ∧ Q Γ1
def flQ (N : Gam → Prop) (R : Cell → Gam → Prop) (B C : Gam → Prop) (X : Exc → Gam → Prop) : Fl → Prop
  | .nx Γ => N Γ
  | .rt c Γ => R c Γ
  | .bk Γ => B Γ
  | .ct Γ => C Γ
  | .xc x Γ => X x Γ
def evS (G : GS) (Γ : Gam) (N : Gam → Prop) (R : Cell → Gam → Prop) (B C : Gam → Prop) (X : Exc → Gam → Prop) : Prop := ∃ o, G Γ = some o ∧ flQ N R B C X o
def evM (m : MF) (T : List Cell) (Q : Cell → List Cell → Prop) (X : Exc → List Cell → Prop) : Prop := ∃ r T', m T = some (r, T') ∧ match r with
  | .val c => Q c T'
  | .exc x => X x T'
/-- an outcome -/
def evG (x : Option Out) (Γ : Gam) (Q : Cell → Gam → Prop) : Prop := ∃ o, x = some o ∧ okNew o = true ∧ Q o.cell Γ
def ev1 (g : D → Option Out) (x : Option D) (Γ : Gam) (Q : Cell → Gam → Prop) : Prop := ∃ d, x = some d ∧ evG (g d) Γ Q
def ev2 (g : D → D → Option Out) (x y : Option D) (Γ : Gam) (Q : Cell → Gam → Prop) : Prop := ∃ d e, x = some d ∧ y = some e ∧ evG (g d e) Γ Q
def evL (g : List D → Option Out) (x : Option (List D)) (Γ : Gam) (Q : Cell → Gam → Prop) : Prop := ∃ d, x = some d ∧ evG (g d) Γ Q
def evSome {α : Type} (x : Option α) (Q : α → Prop) : Prop := ∃ a, x = some a ∧ Q a
theorem evSome_mk {α : Type} {x : Option α} {Q : α → Prop} (a : α) (h : x = some a) (q : Q a) : evSome x Q := ⟨a, h, q⟩

section
variable {Γ : Gam} {X : Exc → Gam → Prop} {Q : Cell → Gam → Prop} {A B : EF}

theorem evE_bind {k : Cell → EF} (h : evE A Γ (fun c Γ1 => evE (k c) Γ1 Q X) X) : evE (bindE A k) Γ Q X := by
  obtain ⟨r, Γ1, e, q⟩ := h
  cases r with
  | val c =>
    obtain ⟨r2, Γ2, e2, q2⟩ := q
    exact ⟨r2, Γ2, by unfold bindE; rw [e]; exact e2, q2⟩
  | exc x => exact ⟨.exc x, Γ1, by unfold bindE; rw [e], q⟩
theorem evT_bind {k : Cell → TF} {Q : Bool → Gam → Prop} (h : evE A Γ (fun c Γ1 => evT (k c) Γ1 Q X) X) : evT (DL.bindB A k) Γ Q X := by
  obtain ⟨r, Γ1, e, q⟩ := h
  cases r with
  | val c =>
    obtain ⟨r2, Γ2, e2, q2⟩ := q
    exact ⟨r2, Γ2, by unfold DL.bindB; rw [e]; exact e2, q2⟩
  | exc x => exact ⟨.exc x, Γ1, by unfold DL.bindB; rw [e], q⟩
theorem evL_bind {k : List Cell → EF} {L : AF} (h : evA L Γ (fun c Γ1 => evE (k c) Γ1 Q X) X) : evE (DL.bindL L k) Γ Q X := by
  obtain ⟨r, Γ1, e, q⟩ := h
  cases r with
  | val c =>
    obtain ⟨r2, Γ2, e2, q2⟩ := q
    exact ⟨r2, Γ2, by unfold DL.bindL; rw [e]; exact e2, q2⟩
  | exc x => exact ⟨.exc x, Γ1, by unfold DL.bindL; rw [e], q⟩
theorem evS_bind {k : Cell → GS} {N R B' C} (h : evE A Γ (fun c Γ1 => evS (k c) Γ1 N R B' C X) X) : evS (bindS A k) Γ N R B' C X := by
  obtain ⟨r, Γ1, e, q⟩ := h
  cases r with
  | val c =>
    obtain ⟨r2, e2, q2⟩ := q
    exact ⟨r2, by unfold bindS; rw [e]; exact e2, q2⟩
  | exc x => exact ⟨.xc x Γ1, by unfold bindS; rw [e], q⟩
theorem evLS_bind {L : AF} {k : List Cell → GS} {N R B' C} (h : evA L Γ (fun c Γ1 => evS (k c) Γ1 N R B' C X) X) : evS (bindLS L k) Γ N R B' C X := by
  obtain ⟨r, Γ1, e, q⟩ := h
  cases r with
  | val c =>
    obtain ⟨r2, e2, q2⟩ := q
    exact ⟨r2, by unfold bindLS; rw [e]; exact e2, q2⟩
  | exc x => exact ⟨.xc x Γ1, by unfold bindLS; rw [e], q⟩
theorem evE_mono {Q' : Cell → Gam → Prop} {X' : Exc → Gam → Prop} (h : evE A Γ Q X) (q : ∀ c Γ1, Q c Γ1 → Q' c Γ1) (x : ∀ e Γ1, X e Γ1 → X' e Γ1) : evE A Γ Q' X' := by
  obtain ⟨r, Γ1, e, p⟩ := h
  refine ⟨r, Γ1, e, ?_⟩
  cases r with
  | val c => exact q _ _ p
  | exc c => exact x _ _ p

/-! ### expressions -/
theorem evVar {i : Nat} (c : Cell) (h : Γ[i]? = some (some c)) (q : Q (.br i) Γ) : evE (eVar i) Γ Q X := ⟨.val (.br i), Γ, by unfold eVar; rw [h], q⟩
theorem evC {v : V} (q : Q (.sh (.leaf v)) Γ) : evE (eC v) Γ Q X := ⟨_, _, rfl, q⟩
theorem evD {d : D} (q : Q (.sh d) Γ) : evE (eD d) Γ Q X := ⟨_, _, rfl, q⟩
theorem evKeep (h : evE A Γ (fun c Γ1 => evSome (keep Γ1 c) fun p => Q (.sh p.1) p.2) X) : evE (eKeep A) Γ Q X := by
  refine evE_bind (evE_mono h (fun c Γ1 q => ?_) fun _ _ z => z)
  obtain ⟨p, e, q⟩ := q
  exact ⟨.val (.sh p.1), p.2, by (try dsimp only); rw [e], q⟩
theorem evOut {x : Option Out} (h : evG x Γ Q) : evE (eOut x) Γ Q X := by
  obtain ⟨o, e, k, q⟩ := h
  exact ⟨.val o.cell, Γ, by unfold eOut; rw [e]; dsimp only; rw [if_pos k], q⟩
theorem evUn {g : D → Option Out} (h : evE A Γ (fun c Γ1 => ev1 g (look Γ1 c) Γ1 Q) X) : evE (eUn g A) Γ Q X := by
  refine evE_bind (evE_mono h (fun c Γ1 q => ?_) fun _ _ z => z)
  obtain ⟨d, e, q⟩ := q
  obtain ⟨r, Γ2, e2, q2⟩ := evOut (X := X) q
  exact ⟨r, Γ2, by (try dsimp only); rw [e]; exact e2, q2⟩
theorem evBin {g : D → D → Option Out} (h : evE A Γ (fun c Γ1 => evE B Γ1 (fun c' Γ2 => ev2 g (look Γ2 c) (look Γ2 c') Γ2 Q) X) X) : evE (eBin g A B) Γ Q X := by
  refine evE_bind (evE_mono h (fun c Γ1 h1 => evE_bind (evE_mono h1 (fun c' Γ2 q => ?_) fun _ _ z => z)) fun _ _ z => z)
  obtain ⟨d, e, h1, h2, q⟩ := q
  obtain ⟨r, Γ3, e2, q2⟩ := evOut (X := X) q
  exact ⟨r, Γ3, by (try dsimp only); rw [h1, h2]; exact e2, q2⟩
/-- the bool that is looked at -/
def evBl (x : Option D) (Q : Bool → Prop) : Prop := ∃ b, x = some (.leaf (.bl b)) ∧ Q b
theorem evBl_mk {x : Option D} {b : Bool} {Q : Bool → Prop} (hx : x = some (.leaf (.bl b))) (q : Q b) : evBl x Q := ⟨b, hx, q⟩
theorem evTof {Q : Bool → Gam → Prop} (h : evE A Γ (fun c Γ1 => evBl (look Γ1 c) fun b => Q b Γ1) X) : evT (tOf A) Γ Q X := by
  refine evT_bind (evE_mono h (fun c Γ1 q => ?_) fun _ _ z => z)
  obtain ⟨b, e, q⟩ := q
  exact ⟨.val b, Γ1, by (try dsimp only); rw [e], q⟩
theorem evTand {t u : TF} {Q : Bool → Gam → Prop} (h : evT t Γ (fun b Γ1 => (b = true → evT u Γ1 Q X) ∧ (b = false → Q false Γ1)) X) : evT (tAndD t u) Γ Q X := by
  obtain ⟨r, Γ1, e, q⟩ := h
  cases r with
  | val b => cases b with
    | true =>
      obtain ⟨r2, Γ2, e2, q2⟩ := q.1 rfl
      exact ⟨r2, Γ2, by unfold tAndD; rw [e]; exact e2, q2⟩
    | false => exact ⟨.val false, Γ1, by unfold tAndD; rw [e], q.2 rfl⟩
  | exc x => exact ⟨.exc x, Γ1, by unfold tAndD; rw [e], q⟩
theorem evTor {t u : TF} {Q : Bool → Gam → Prop} (h : evT t Γ (fun b Γ1 => (b = true → Q true Γ1) ∧ (b = false → evT u Γ1 Q X)) X) : evT (tOrD t u) Γ Q X := by
  obtain ⟨r, Γ1, e, q⟩ := h
  cases r with
  | val b => cases b with
    | true => exact ⟨.val true, Γ1, by unfold tOrD; rw [e], q.1 rfl⟩
    | false =>
      obtain ⟨r2, Γ2, e2, q2⟩ := q.2 rfl
      exact ⟨r2, Γ2, by unfold tOrD; rw [e]; exact e2, q2⟩
  | exc x => exact ⟨.exc x, Γ1, by unfold tOrD; rw [e], q⟩
theorem evTnot {t : TF} {Q : Bool → Gam → Prop} (h : evT t Γ (fun b Γ1 => Q (!b) Γ1) X) : evT (tNotD t) Γ Q X := by
  obtain ⟨r, Γ1, e, q⟩ := h
  cases r with
  | val b => exact ⟨.val (!b), Γ1, by unfold tNotD; rw [e], q⟩
  | exc x => exact ⟨.exc x, Γ1, by unfold tNotD; rw [e], q⟩
theorem evTyes {Q : Bool → Gam → Prop} (q : Q true Γ) : evT tYesD Γ Q X := ⟨.val true, Γ, rfl, q⟩
theorem evEand (h : evE A Γ (fun c Γ1 => evBl (look Γ1 c) fun b => (b = true → evE B Γ1 Q X) ∧ (b = false → Q (.sh (.leaf (.bl false))) Γ1)) X) : evE (eAndD A B) Γ Q X := by
  refine evE_bind (evE_mono h (fun c Γ1 q => ?_) fun _ _ z => z)
  obtain ⟨b, e, q⟩ := q
  cases b with
  | true =>
    obtain ⟨r2, Γ2, e2, q2⟩ := q.1 rfl
    exact ⟨r2, Γ2, by (try dsimp only); rw [e]; exact e2, q2⟩
  | false => exact ⟨_, Γ1, by (try dsimp only); rw [e], q.2 rfl⟩
theorem evEor (h : evE A Γ (fun c Γ1 => evBl (look Γ1 c) fun b => (b = true → Q (.sh (.leaf (.bl true))) Γ1) ∧ (b = false → evE B Γ1 Q X)) X) : evE (eOrD A B) Γ Q X := by
  refine evE_bind (evE_mono h (fun c Γ1 q => ?_) fun _ _ z => z)
  obtain ⟨b, e, q⟩ := q
  cases b with
  | true => exact ⟨_, Γ1, by (try dsimp only); rw [e], q.1 rfl⟩
  | false =>
    obtain ⟨r2, Γ2, e2, q2⟩ := q.2 rfl
    exact ⟨r2, Γ2, by (try dsimp only); rw [e]; exact e2, q2⟩
theorem evEnot (h : evE A Γ (fun c Γ1 => evBl (look Γ1 c) fun b => Q (.sh (.leaf (.bl (!b)))) Γ1) X) : evE (eNotD A) Γ Q X := by
  refine evE_bind (evE_mono h (fun c Γ1 q => ?_) fun _ _ z => z)
  obtain ⟨b, e, q⟩ := q
  exact ⟨_, Γ1, by (try dsimp only); rw [e], q⟩
theorem evIf {t : TF} (h : evT t Γ (fun b Γ1 => (b = true → evE A Γ1 Q X) ∧ (b = false → evE B Γ1 Q X)) X) : evE (eIf t A B) Γ Q X := by
  obtain ⟨r, Γ1, e, q⟩ := h
  cases r with
  | val b => cases b with
    | true =>
      obtain ⟨r2, Γ2, e2, q2⟩ := q.1 rfl
      exact ⟨r2, Γ2, by unfold eIf; rw [e]; exact e2, q2⟩
    | false =>
      obtain ⟨r2, Γ2, e2, q2⟩ := q.2 rfl
      exact ⟨r2, Γ2, by unfold eIf; rw [e]; exact e2, q2⟩
  | exc x => exact ⟨.exc x, Γ1, by unfold eIf; rw [e], q⟩
def ev2B (g : D → D → Option Out) (x y : Option D) (Q : Bool → Prop) : Prop := ∃ d e b, x = some d ∧ y = some e ∧ g d e = some (.old (.leaf (.bl b))) ∧ Q b
theorem evChain {g g' : D → D → Option Out} {C : EF} (h : evE A Γ (fun c Γ1 => evE B Γ1 (fun c' Γ2 => ev2B g (look Γ2 c) (look Γ2 c') fun b => (b = true → evE C Γ2 (fun c2 Γ3 => ev2 g' (look Γ3 c') (look Γ3 c2) Γ3 Q) X) ∧ (b = false → Q (.sh (.leaf (.bl false))) Γ2)) X) X) : evE (eChain g g' A B C) Γ Q X := by
  refine evE_bind (evE_mono h (fun c Γ1 h1 => evE_bind (evE_mono h1 (fun c' Γ2 q => ?_) fun _ _ z => z)) fun _ _ z => z)
  obtain ⟨d, e, b, h1, h2, h3, q⟩ := q
  cases b with
  | true =>
    have z : evE (DL.bindE C (fun c2 Γ2 => match look Γ2 c', look Γ2 c2 with
      | some e, some e' => eOut (g' e e') Γ2
      | _, _ => none)) Γ2 Q X := by
      refine evE_bind (evE_mono (q.1 rfl) (fun c2 Γ3 q => ?_) fun _ _ z => z)
      obtain ⟨d, e, h1, h2, q⟩ := q
      obtain ⟨r, Γ4, e2, q2⟩ := evOut (X := X) q
      exact ⟨r, Γ4, by (try dsimp only); rw [h1, h2]; exact e2, q2⟩
    obtain ⟨r, Γ4, e2, q2⟩ := z
    exact ⟨r, Γ4, by (try dsimp only); rw [h1, h2]; dsimp only; rw [h3]; exact e2, q2⟩
  | false => exact ⟨.val (.sh (.leaf (.bl false))), Γ2, by (try dsimp only); rw [h1, h2]; dsimp only; rw [h3], q.2 rfl⟩
theorem evNil {Q : List Cell → Gam → Prop} (q : Q [] Γ) : evA aNil Γ Q X := ⟨_, _, rfl, q⟩
theorem evCons {L : AF} {Q : List Cell → Gam → Prop} (h : evE A Γ (fun c Γ1 => evA L Γ1 (fun cs Γ2 => Q (c :: cs) Γ2) X) X) : evA (aCons A L) Γ Q X := by
  obtain ⟨r, Γ1, e, q⟩ := h
  cases r with
  | val c =>
    obtain ⟨r2, Γ2, e2, q2⟩ := q
    cases r2 with
    | val cs => exact ⟨.val (c :: cs), Γ2, by unfold aCons; rw [e]; dsimp only; rw [e2], q2⟩
    | exc x => exact ⟨.exc x, Γ2, by unfold aCons; rw [e]; dsimp only; rw [e2], q2⟩
  | exc x => exact ⟨.exc x, Γ1, by unfold aCons; rw [e], q⟩
theorem evA_mono {L : AF} {Q Q' : List Cell → Gam → Prop} (h : evA L Γ Q X) (q : ∀ c Γ1, Q c Γ1 → Q' c Γ1) : evA L Γ Q' X := by
  obtain ⟨r, Γ1, e, p⟩ := h
  refine ⟨r, Γ1, e, ?_⟩
  cases r with
  | val c => exact q _ _ p
  | exc c => exact p
theorem evOfL {g : List D → Option Out} {L : AF} (h : evA L Γ (fun cs Γ1 => evL g (shs cs) Γ1 Q) X) : evE (eOfL g L) Γ Q X := by
  refine evL_bind (evA_mono h fun c Γ1 q => ?_)
  obtain ⟨d, e, q⟩ := q
  obtain ⟨r, Γ2, e2, q2⟩ := evOut (X := X) q
  exact ⟨r, Γ2, by (try dsimp only); rw [e]; exact e2, q2⟩
theorem evBI {g : List D → Option Out} {L : AF} (h : evA L Γ (fun cs Γ1 => evL g (lookL Γ1 cs) Γ1 Q) X) : evE (eBI g L) Γ Q X := by
  refine evL_bind (evA_mono h fun c Γ1 q => ?_)
  obtain ⟨d, e, q⟩ := q
  obtain ⟨r, Γ2, e2, q2⟩ := evOut (X := X) q
  exact ⟨r, Γ2, by (try dsimp only); rw [e]; exact e2, q2⟩
theorem evSolid (h : evE A Γ (fun c Γ1 => evSome (solid Γ1 c) fun p => Q p.1 p.2) X) : evE (eSolid A) Γ Q X := by
  refine evE_bind (evE_mono h (fun c Γ1 q => ?_) fun _ _ z => z)
  obtain ⟨p, e, q⟩ := q
  exact ⟨.val p.1, p.2, by (try dsimp only); rw [e], q⟩
theorem evDict0 (q : Q (.ow (.dk []) []) Γ) : evE eDict0 Γ Q X := ⟨_, _, rfl, q⟩
theorem evDisp {ks : List Key} {Es : List EF} (h : evA (aKeeps Es) Γ (fun cs Γ1 => evSome (shs cs) fun ds => ks.length = ds.length ∧ Q (.ow (.dk ks) ds) Γ1) X) : evE (eDisp ks Es) Γ Q X := by
  obtain ⟨r, Γ1, e, q⟩ := h
  cases r with
  | val cs =>
    obtain ⟨ds, e2, n, q⟩ := q
    exact ⟨.val (.ow (.dk ks) ds), Γ1, by unfold eDisp; rw [e]; dsimp only; rw [e2]; dsimp only; rw [if_pos n], q⟩
  | exc x => exact ⟨.exc x, Γ1, by unfold eDisp; rw [e], q⟩
theorem evONone {Q : Option Int → Gam → Prop} (q : Q none Γ) : evO oNone Γ Q X := ⟨_, _, rfl, q⟩
def evInt (x : Option D) (Q : Int → Prop) : Prop := ∃ i, x = some (.leaf (.int i)) ∧ Q i
theorem evInt_mk {x : Option D} {i : Int} {Q : Int → Prop} (hx : x = some (.leaf (.int i))) (q : Q i) : evInt x Q := ⟨i, hx, q⟩
theorem evOSome {Q : Option Int → Gam → Prop} (h : evE A Γ (fun c Γ1 => evInt (look Γ1 c) fun i => Q (some i) Γ1) X) : evO (oSome A) Γ Q X := by
  obtain ⟨r, Γ1, e, q⟩ := h
  cases r with
  | val c =>
    obtain ⟨i, e2, q⟩ := q
    exact ⟨.val (some i), Γ1, by unfold oSome; rw [e]; dsimp only; rw [e2], q⟩
  | exc x => exact ⟨.exc x, Γ1, by unfold oSome; rw [e], q⟩
theorem evSlice {F F' : OF} (h : evE A Γ (fun c Γ1 => evO F Γ1 (fun lo Γ2 => evO F' Γ2 (fun hi Γ3 => ev1 (gCut lo hi) (look Γ3 c) Γ3 Q) X) X) X) : evE (eSlice A F F') Γ Q X := by
  refine evE_bind (evE_mono h (fun c Γ1 q => ?_) fun _ _ z => z)
  obtain ⟨r, Γ2, e, q⟩ := q
  cases r with
  | val lo =>
    obtain ⟨r, Γ3, e2, q⟩ := q
    cases r with
    | val hi =>
      obtain ⟨d, e3, q⟩ := q
      obtain ⟨r, Γ4, e4, q⟩ := evOut (X := X) q
      exact ⟨r, Γ4, by (try dsimp only); rw [e]; dsimp only; rw [e2]; dsimp only; rw [e3]; exact e4, q⟩
    | exc x => exact ⟨.exc x, Γ3, by (try dsimp only); rw [e]; dsimp only; rw [e2], q⟩
  | exc x => exact ⟨.exc x, Γ2, by (try dsimp only); rw [e], q⟩
theorem evMut {i : Nat} {tn : String} {g : Tag → List D → List D → Option (D × Tag × List D)} {L : AF}
    (h0 : evSome (slotO Γ i) fun p => tagTy p.1 = tn ∧ tn ≠ "-")
    (h : evA L Γ (fun cs Γ1 => evSome (shs cs) fun es => evSome (slotO Γ1 i) fun p => evSome (g p.1 p.2 es) fun q => evSome (slotP Γ1 i q.2.1 q.2.2) fun Γ2 => Q (.sh q.1) Γ2) X) : evE (eMut i tn g L) Γ Q X := by
  obtain ⟨p, e, c⟩ := h0
  have z : evE (DL.bindL L (fun cs Γ1 => match shs cs, slotO Γ1 i with
    | some es, some (t, ds) => (match g t ds es with
      | some (d, t', ds') => (match slotP Γ1 i t' ds' with
        | some Γ2 => some (.val (.sh d), Γ2)
        | none => none)
      | none => none)
    | _, _ => none)) Γ Q X := by
    refine evL_bind (evA_mono h fun cs Γ1 q => ?_)
    obtain ⟨es, e1, ⟨t, ds⟩, e2, ⟨d, t', ds'⟩, e3, Γ2, e4, q⟩ := q
    exact ⟨.val (.sh d), Γ2, by (try dsimp only); rw [e1, e2]; dsimp only; rw [e3]; dsimp only; rw [e4], q⟩
  obtain ⟨r, Γ1, e1, q⟩ := z
  exact ⟨r, Γ1, by unfold eMut; rw [e]; dsimp only; rw [if_pos c]; exact e1, q⟩
theorem evCall {n : Nat} {m : MF} {dfl : List D} {L : AF}
    (h : evA L Γ (fun cs Γ1 => cs.length + dfl.length = n ∧ evSome (argsC Γ1 cs) fun p => evM m (p.1 ++ dfl.map .sh) (fun c T' => evSome (putB Γ1 p.2 T') fun Γ' => isSolid c = true ∧ Q c Γ') (fun x T' => evSome (putB Γ1 p.2 T') fun Γ' => X x Γ')) X) : evE (eCallN n m dfl L) Γ Q X := by
  refine evL_bind (evA_mono h fun cs Γ1 q => ?_)
  obtain ⟨n0, ⟨T, b⟩, e1, r, T', e2, q⟩ := q
  cases r with
  | val c =>
    obtain ⟨Γ', e3, k, q⟩ := q
    exact ⟨.val c, Γ', by (try dsimp only); rw [if_pos n0, e1]; dsimp only; rw [e2]; dsimp only; rw [e3]; dsimp only; rw [if_pos k], q⟩
  | exc x =>
    obtain ⟨Γ', e3, q⟩ := q
    exact ⟨.exc x, Γ', by (try dsimp only); rw [if_pos n0, e1]; dsimp only; rw [e2]; dsimp only; rw [e3], q⟩
end
end DL

set_option Elab.async false
set_option linter.all false
set_option maxRecDepth 100000
set_option maxHeartbeats 1000000
/-! the mirrors, run: states, statements, loops, calls -/
namespace DL
open PySem PySem.Spec PyProof.Rows L2

/-! ### a state is written by parts, so that a written state stays a list -/
def setG : Nat → Option Cell → Gam → Option Gam
  | _, _, [] => none
  | 0, c, _ :: Γ => some (c :: Γ)
  | i + 1, c, x :: Γ => match setG i c Γ with
    | some Γ' => some (x :: Γ')
    | none => none
theorem setG_eq : ∀ (Γ : Gam) (i : Nat) (c : Option Cell), setG i c Γ = if i < Γ.length then some (Γ.set i c) else none
  | [], i, c => by cases i <;> rfl
  | x :: Γ, 0, c => by simp [setG]
  | x :: Γ, i + 1, c => by
    simp only [setG, setG_eq Γ i c, List.length_cons, Nat.add_lt_add_iff_right, List.set_cons_succ]
    by_cases h : i < Γ.length <;> simp [h]
theorem setG_set {Γ Γ' : Gam} {i : Nat} {c : Option Cell} (h : setG i c Γ = some Γ') : Γ.set i c = Γ' := by
  rw [setG_eq] at h
  split at h
  · exact Option.some.inj h
  · cases h
theorem setG_lt {Γ Γ' : Gam} {i : Nat} {c : Option Cell} (h : setG i c Γ = some Γ') : i < Γ.length := by
  rw [setG_eq] at h
  split at h
  · assumption
  · cases h
/-- a name is bound -/
def putN (i : Nat) (c : Cell) (Γ : Gam) : Option Gam := match isRf Γ[i]? with
  | true => none
  | false => setG i (some c) Γ
theorem putN_set {i : Nat} {c : Cell} {Γ Γ' : Gam} (h : putN i c Γ = some Γ') : setC i c Γ = some Γ' := by
  unfold putN at h
  split at h
  · cases h
  · rename_i k
    unfold setC
    rw [if_pos (setG_lt h), if_neg (by rw [k]; exact Bool.false_ne_true), setG_set h]
def keepN (Γ : Gam) : Cell → Option (D × Gam)
  | .sh d => some (d, Γ)
  | .ow t ds => some (.node t ds, Γ)
  | .rf _ _ => none
  | .br i => match Γ[i]? with
    | some (some (.sh d)) => some (d, Γ)
    | some (some (.ow t ds)) => match setG i (some (.sh (.node t ds))) Γ with
      | some Γ' => some (.node t ds, Γ')
      | none => none
    | _ => none
theorem keepN_keep {Γ : Gam} {c : Cell} {p : D × Gam} (h : keepN Γ c = some p) : keep Γ c = some p := by
  unfold keepN at h
  unfold keep
  split at h
  · exact h
  · exact h
  · cases h
  · split at h
    · rename_i e; (try dsimp only); (try rw [e]); exact h
    · rename_i e
      split at h
      · rename_i e2; (try dsimp only); (try rw [e]); (try dsimp only); rw [setG_set e2]; exact h
      · cases h
    · cases h
def solidN (Γ : Gam) : Cell → Option (Cell × Gam)
  | .sh d => some (.sh d, Γ)
  | .ow t ds => some (.ow t ds, Γ)
  | .rf _ _ => none
  | .br i => match keepN Γ (.br i) with
    | some (d, Γ') => some (.sh d, Γ')
    | none => none
theorem solidN_solid {Γ : Gam} {c : Cell} {p : Cell × Gam} (h : solidN Γ c = some p) : solid Γ c = some p := by
  unfold solidN at h
  unfold solid
  split at h
  · exact h
  · exact h
  · cases h
  · split at h
    · rename_i e; (try dsimp only); rw [keepN_keep e]; exact h
    · cases h
def slotN (Γ : Gam) (i : Nat) (t : Tag) (ds : List D) : Option Gam := match Γ[i]? with
  | some (some (.ow _ _)) => setG i (some (.ow t ds)) Γ
  | some (some (.rf _ _)) => setG i (some (.rf t ds)) Γ
  | _ => none
theorem slotN_slotP {Γ Γ' : Gam} {i : Nat} {t : Tag} {ds : List D} (h : slotN Γ i t ds = some Γ') : slotP Γ i t ds = some Γ' := by
  unfold slotN at h
  unfold slotP
  split at h
  · rename_i e; (try rw [e]); (try dsimp only); rw [setG_set h]
  · rename_i e; (try rw [e]); (try dsimp only); rw [setG_set h]
  · cases h
def putBN (Γ : Gam) (b : Option (Nat × Nat)) (T' : List Cell) : Option Gam := match b with
  | none => some Γ
  | some (i, j) => match T'[j]? with
    | some (.ow t ds) => slotN Γ i t ds
    | _ => none
theorem putBN_putB {Γ Γ' : Gam} {b : Option (Nat × Nat)} {T' : List Cell} (h : putBN Γ b T' = some Γ') : putB Γ b T' = some Γ' := by
  unfold putBN at h
  unfold putB
  split at h
  · exact h
  · rename_i i j
    split at h
    · rename_i t ds e
      (try dsimp only)
      (try rw [e])
      exact slotN_slotP h
    · cases h
def evKp (Γ : Gam) (c : Cell) (Q : D → Gam → Prop) : Prop := ∃ d Γ', keepN Γ c = some (d, Γ') ∧ Q d Γ'
theorem evKp_mk {Γ : Gam} {c : Cell} {Q : D → Gam → Prop} (d : D) (Γ' : Gam) (h : keepN Γ c = some (d, Γ')) (q : Q d Γ') : evKp Γ c Q := ⟨d, Γ', h, q⟩
def evSd (Γ : Gam) (c : Cell) (Q : Cell → Gam → Prop) : Prop := ∃ d Γ', solidN Γ c = some (d, Γ') ∧ Q d Γ'
theorem evSd_mk {Γ : Gam} {c : Cell} {Q : Cell → Gam → Prop} (d : Cell) (Γ' : Gam) (h : solidN Γ c = some (d, Γ')) (q : Q d Γ') : evSd Γ c Q := ⟨d, Γ', h, q⟩
def evSt (Γ : Gam) (i : Nat) (Q : Tag → List D → Prop) : Prop := ∃ t ds, slotO Γ i = some (t, ds) ∧ Q t ds
theorem evSt_mk {Γ : Gam} {i : Nat} {Q : Tag → List D → Prop} (t : Tag) (ds : List D) (h : slotO Γ i = some (t, ds)) (q : Q t ds) : evSt Γ i Q := ⟨t, ds, h, q⟩
/-- what a mutating method gives -/
def evMu (x : Option (D × Tag × List D)) (Q : D → Tag → List D → Prop) : Prop := ∃ d t ds, x = some (d, t, ds) ∧ Q d t ds
theorem evMu_mk {x : Option (D × Tag × List D)} {Q : D → Tag → List D → Prop} (d : D) (t : Tag) (ds : List D) (h : x = some (d, t, ds)) (q : Q d t ds) : evMu x Q := ⟨d, t, ds, h, q⟩
def evPt (x : Option (Tag × List D)) (Q : Tag → List D → Prop) : Prop := ∃ t ds, x = some (t, ds) ∧ Q t ds
theorem evPt_mk {x : Option (Tag × List D)} {Q : Tag → List D → Prop} (t : Tag) (ds : List D) (h : x = some (t, ds)) (q : Q t ds) : evPt x Q := ⟨t, ds, h, q⟩

section
variable {Γ : Gam} {X : Exc → Gam → Prop} {Q : Cell → Gam → Prop} {A B : EF} {N : Gam → Prop} {R : Cell → Gam → Prop} {Bk Ct : Gam → Prop}
theorem evKeepN (h : evE A Γ (fun c Γ1 => evKp Γ1 c fun d Γ2 => Q (.sh d) Γ2) X) : evE (eKeep A) Γ Q X :=
  evKeep (evE_mono h (fun c Γ1 ⟨d, Γ2, e, q⟩ => ⟨(d, Γ2), keepN_keep e, q⟩) fun _ _ z => z)
theorem evSolidN (h : evE A Γ (fun c Γ1 => evSd Γ1 c Q) X) : evE (eSolid A) Γ Q X :=
  evSolid (evE_mono h (fun c Γ1 ⟨d, Γ2, e, q⟩ => ⟨(d, Γ2), solidN_solid e, q⟩) fun _ _ z => z)
theorem evMutN {i : Nat} {tn : String} {g : Tag → List D → List D → Option (D × Tag × List D)} {L : AF}
    (h0 : evSt Γ i fun t _ => tagTy t = tn ∧ tn ≠ "-")
    (h : evA L Γ (fun cs Γ1 => evSome (shs cs) fun es => evSt Γ1 i fun t ds => evMu (g t ds es) fun d t' ds' => evSome (slotN Γ1 i t' ds') fun Γ2 => Q (.sh d) Γ2) X) : evE (eMut i tn g L) Γ Q X := by
  obtain ⟨t, ds, e, c⟩ := h0
  refine evMut ⟨(t, ds), e, c⟩ (evA_mono h fun cs Γ1 ⟨es, e1, t, ds, e2, d, t', ds', e3, Γ2, e4, q⟩ => ⟨es, e1, (t, ds), e2, (d, t', ds'), e3, Γ2, slotN_slotP e4, q⟩)
theorem evM_mono {m : MF} {T : List Cell} {Q Q' : Cell → List Cell → Prop} {X X' : Exc → List Cell → Prop} (h : evM m T Q X) (q : ∀ c T', Q c T' → Q' c T') (x : ∀ c T', X c T' → X' c T') : evM m T Q' X' := by
  obtain ⟨r, T', e, p⟩ := h
  refine ⟨r, T', e, ?_⟩
  cases r with
  | val c => exact q _ _ p
  | exc c => exact x _ _ p
theorem evCallN {n : Nat} {m : MF} {dfl : List D} {L : AF}
    (h : evA L Γ (fun cs Γ1 => cs.length + dfl.length = n ∧ evSome (argsC Γ1 cs) fun p => evM m (p.1 ++ dfl.map .sh) (fun c T' => evSome (putBN Γ1 p.2 T') fun Γ' => isSolid c = true ∧ Q c Γ') (fun x T' => evSome (putBN Γ1 p.2 T') fun Γ' => X x Γ')) X) : evE (eCallN n m dfl L) Γ Q X := by
  refine evCall (evA_mono h fun cs Γ1 ⟨n0, p, e1, q⟩ => ⟨n0, p, e1, evM_mono q (fun c T' ⟨Γ', e, q⟩ => ⟨Γ', putBN_putB e, q⟩) fun c T' ⟨Γ', e, q⟩ => ⟨Γ', putBN_putB e, q⟩⟩)
/-- a call whose answer is known -/
theorem evCallE {n : Nat} {m : MF} {L : AF}
    (h : evA L Γ (fun cs Γ1 => cs.length + 0 = n ∧ evSome (argsC Γ1 cs) fun p => evM m p.1 (fun c T' => evSome (putBN Γ1 p.2 T') fun Γ' => isSolid c = true ∧ Q c Γ') (fun x T' => evSome (putBN Γ1 p.2 T') fun Γ' => X x Γ')) X) : evE (eCallN n m [] L) Γ Q X := by
  refine evCallN (evA_mono h fun cs Γ1 ⟨n0, p, e1, q⟩ => ⟨n0, p, e1, ?_⟩)
  show evM m (p.1 ++ []) _ _
  rw [List.append_nil]
  exact q
theorem evM_of {m : MF} {T T' : List Cell} {c : Cell} {Q : Cell → List Cell → Prop} {X : Exc → List Cell → Prop} (h : m T = some (.val c, T')) (q : Q c T') : evM m T Q X := ⟨_, _, h, q⟩

/-! ### statements -/
theorem evSNil (q : N Γ) : evS sNil Γ N R Bk Ct X := ⟨_, rfl, q⟩
theorem evPass (q : N Γ) : evS sPass Γ N R Bk Ct X := ⟨_, rfl, q⟩
theorem evBreak (q : Bk Γ) : evS sBreak Γ N R Bk Ct X := ⟨_, rfl, q⟩
theorem evCont (q : Ct Γ) : evS sCont Γ N R Bk Ct X := ⟨_, rfl, q⟩
theorem evRetN (q : R (.sh (.leaf .non)) Γ) : evS sRetN Γ N R Bk Ct X := ⟨_, rfl, q⟩
theorem evSeq {G G' : GS} (h : evS G Γ (fun Γ1 => evS G' Γ1 N R Bk Ct X) R Bk Ct X) : evS (sSeq G G') Γ N R Bk Ct X := by
  obtain ⟨o, e, q⟩ := h
  cases o with
  | nx Γ1 =>
    obtain ⟨o2, e2, q2⟩ := q
    exact ⟨o2, by unfold sSeq; rw [e]; exact e2, q2⟩
  | rt c Γ1 => exact ⟨.rt c Γ1, by unfold sSeq; rw [e], q⟩
  | bk Γ1 => exact ⟨.bk Γ1, by unfold sSeq; rw [e], q⟩
  | ct Γ1 => exact ⟨.ct Γ1, by unfold sSeq; rw [e], q⟩
  | xc x Γ1 => exact ⟨.xc x Γ1, by unfold sSeq; rw [e], q⟩
theorem evExpr (h : evE A Γ (fun _ Γ1 => N Γ1) X) : evS (sExpr A) Γ N R Bk Ct X :=
  evS_bind (evE_mono h (fun c Γ1 q => ⟨_, rfl, q⟩) fun _ _ z => z)
theorem evRet (h : evE A Γ R X) : evS (sRet A) Γ N R Bk Ct X :=
  evS_bind (evE_mono h (fun c Γ1 q => ⟨_, rfl, q⟩) fun _ _ z => z)
theorem evSIf {t : TF} {G G' : GS} (h : evT t Γ (fun b Γ1 => (b = true → evS G Γ1 N R Bk Ct X) ∧ (b = false → evS G' Γ1 N R Bk Ct X)) X) : evS (sIf t G G') Γ N R Bk Ct X := by
  obtain ⟨r, Γ1, e, q⟩ := h
  cases r with
  | val b => cases b with
    | true =>
      obtain ⟨r2, e2, q2⟩ := q.1 rfl
      exact ⟨r2, by unfold sIf; rw [e]; exact e2, q2⟩
    | false =>
      obtain ⟨r2, e2, q2⟩ := q.2 rfl
      exact ⟨r2, by unfold sIf; rw [e]; exact e2, q2⟩
  | exc x => exact ⟨.xc x Γ1, by unfold sIf; rw [e], q⟩
theorem evSet {i : Nat} (h : evE A Γ (fun c Γ1 => evSd Γ1 c fun c' Γ2 => evSome (putN i c' Γ2) N) X) : evS (sSet i A) Γ N R Bk Ct X :=
  evS_bind (evE_mono h (fun c Γ1 ⟨c', Γ2, e, Γ3, e2, q⟩ => ⟨.nx Γ3, by dsimp only; rw [solidN_solid e]; dsimp only; rw [putN_set e2], q⟩) fun _ _ z => z)
def evPr (cs : List Cell) (Q : Cell → Cell → Prop) : Prop := ∃ c e, cs = [c, e] ∧ isSolid c = true ∧ isSolid e = true ∧ Q c e
theorem evPr_mk {c e : Cell} {Q : Cell → Cell → Prop} (h1 : isSolid c = true) (h2 : isSolid e = true) (q : Q c e) : evPr [c, e] Q := ⟨c, e, rfl, h1, h2, q⟩
theorem evPar {i j : Nat} {L : AF} (h : evA L Γ (fun cs Γ1 => evPr cs fun c e => evSome (putN j e Γ1) fun Γ2 => evSome (putN i c Γ2) N) X) : evS (sPar i j L) Γ N R Bk Ct X :=
  evLS_bind (evA_mono h fun cs Γ1 ⟨c, e, e1, k1, k2, Γ2, e2, Γ3, e3, q⟩ => ⟨.nx Γ3, by
    subst e1
    unfold kPar
    dsimp only
    rw [k1, k2, if_pos (by rfl), putN_set e2]
    dsimp only
    rw [putN_set e3], q⟩)
theorem evStore {i : Nat} (h : evE A Γ (fun c Γ1 => evKp Γ1 c fun d Γ2 => evSt Γ2 i fun _ _ => evE B Γ2 (fun c2 Γ3 => evSome (look Γ3 c2) fun k => evSt Γ3 i fun t ds => evPt (gStore t ds k d) fun t' ds' => evSome (slotN Γ3 i t' ds') N) X) X) : evS (sStore i A B) Γ N R Bk Ct X := by
  unfold sStore
  refine evS_bind (evKeepN (evE_mono h (fun c Γ1 q => ?_) fun _ _ z => z))
  obtain ⟨d, Γ2, e1, t0, ds0, e2, r, Γ3, e3, q⟩ := q
  refine ⟨d, Γ2, e1, ?_⟩
  cases r with
  | val c2 =>
    obtain ⟨k, e4, t, ds, e5, t', ds', e6, Γ4, e7, q⟩ := q
    exact ⟨.nx Γ4, by dsimp only; rw [e2]; dsimp only; rw [e3]; dsimp only; rw [e4, e5]; dsimp only; rw [e6]; dsimp only; rw [slotN_slotP e7], q⟩
  | exc x => exact ⟨.xc x Γ3, by dsimp only; rw [e2]; dsimp only; rw [e3], q⟩
theorem evAsg {P : D → Gam → Option Gam} (h : evE A Γ (fun c Γ1 => evKp Γ1 c fun d Γ2 => evP P d Γ2 N) X) : evS (sAsg P A) Γ N R Bk Ct X := by
  unfold sAsg
  refine evS_bind (evKeepN (evE_mono h (fun c Γ1 q => ?_) fun _ _ z => z))
  obtain ⟨d, Γ2, e1, Γ3, e2, q⟩ := q
  exact ⟨d, Γ2, e1, .nx Γ3, by dsimp only; rw [e2], q⟩
theorem evNm {i : Nat} {d : D} (h : evSome (putN i (.sh d) Γ) N) : evP (pNm i) d Γ N := by
  obtain ⟨Γ', e, q⟩ := h
  exact ⟨Γ', putN_set e, q⟩
theorem evPNil (q : N Γ) : evPs pNil [] Γ N := ⟨Γ, rfl, q⟩
theorem evPCons {F : D → Gam → Option Gam} {G : List D → Gam → Option Gam} {d : D} {ds : List D} (h : evP F d Γ fun Γ1 => evPs G ds Γ1 N) : evPs (pCons F G) (d :: ds) Γ N := by
  obtain ⟨Γ1, e, Γ2, e2, q⟩ := h
  exact ⟨Γ2, by unfold pCons; dsimp only; rw [e]; exact e2, q⟩
theorem evPTup {n : Nat} {F : List D → Gam → Option Gam} {ds : List D} (hn : ds.length = n) (h : evPs F ds Γ N) : evP (pTup n F) (.node .tup ds) Γ N := by
  obtain ⟨Γ1, e, q⟩ := h
  exact ⟨Γ1, by unfold pTup; dsimp only; rw [if_pos hn]; exact e, q⟩
theorem evPLst {n : Nat} {F : List D → Gam → Option Gam} {ds : List D} (hn : ds.length = n) (h : evPs F ds Γ N) : evP (pTup n F) (.node .lst ds) Γ N := by
  obtain ⟨Γ1, e, q⟩ := h
  exact ⟨Γ1, by unfold pTup; dsimp only; rw [if_pos hn]; exact e, q⟩

/-! ### walks -/
theorem evIOfL {g : List D → Option (List D)} {L : AF} {Q : List D → Gam → Prop} (h : evA L Γ (fun cs Γ1 => evSome (shs cs) fun ds => evSome (g ds) fun es => Q es Γ1) X) : evI (iOfL g L) Γ Q X := by
  obtain ⟨r, Γ1, e, q⟩ := h
  cases r with
  | val cs =>
    obtain ⟨ds, e1, es, e2, q⟩ := q
    exact ⟨.val es, Γ1, by unfold iOfL; rw [e]; dsimp only; rw [e1]; dsimp only; rw [e2], q⟩
  | exc x => exact ⟨.exc x, Γ1, by unfold iOfL; rw [e], q⟩
def seqD : D → Option (List D)
  | .node .lst ds => some ds
  | .node .scr ds => some ds
  | .node .tup ds => some ds
  | .leaf (.str x) => some (signsD x)
  | _ => none
theorem evISeq {Q : List D → Gam → Prop} (h : evE A Γ (fun c Γ1 => evKp Γ1 c fun d Γ2 => evSome (seqD d) fun ds => Q ds Γ2) X) : evI (iSeq A) Γ Q X := by
  obtain ⟨r, Γ1, e, q⟩ := evKeepN (Q := fun c Γ1 => ∃ d ds, c = .sh d ∧ seqD d = some ds ∧ Q ds Γ1) (evE_mono h (fun c Γ1 ⟨d, Γ2, e, ds, e2, q⟩ => ⟨d, Γ2, e, d, ds, rfl, e2, q⟩) fun _ _ z => z)
  cases r with
  | val c =>
    obtain ⟨d, ds, rfl, e2, q⟩ := q
    refine ⟨.val ds, Γ1, ?_, q⟩
    unfold iSeq
    rw [e]
    dsimp only
    unfold seqD at e2
    split at e2
    · cases e2; rfl
    · cases e2; rfl
    · cases e2; rfl
    · cases e2; rfl
    · cases e2
  | exc x => exact ⟨.exc x, Γ1, by unfold iSeq; rw [e], q⟩
/-- a loop over what is walked -/
def evFor (P : D → Gam → Option Gam) (B : GS) (ds : List D) (Γ : Gam) (N : Gam → Prop) (R : Cell → Gam → Prop) (X : Exc → Gam → Prop) : Prop := ∃ o, forD P B ds Γ = some o ∧ flQ N R (fun _ => False) (fun _ => False) X o
theorem evFor_to {P : D → Gam → Option Gam} {B : GS} {ds : List D} (h : evFor P B ds Γ N R X) : evS (forD P B ds) Γ N R Bk Ct X := by
  obtain ⟨o, e, q⟩ := h
  cases o with
  | nx Γ => exact ⟨_, e, q⟩
  | rt c Γ => exact ⟨_, e, q⟩
  | bk Γ => exact q.elim
  | ct Γ => exact q.elim
  | xc x Γ => exact ⟨_, e, q⟩
theorem evSFor {I : IF} {P : D → Gam → Option Gam} {B : GS} (h : evI I Γ (fun ds Γ1 => evFor P B ds Γ1 N R X) X) : evS (sFor I P B) Γ N R Bk Ct X := by
  obtain ⟨r, Γ1, e, q⟩ := h
  cases r with
  | val ds =>
    obtain ⟨o, e2, q2⟩ := evFor_to (Bk := Bk) (Ct := Ct) q
    exact ⟨o, by unfold sFor; rw [e]; exact e2, q2⟩
  | exc x => exact ⟨.xc x Γ1, by unfold sFor; rw [e], q⟩
theorem evFor_nil {P : D → Gam → Option Gam} {B : GS} (q : N Γ) : evFor P B [] Γ N R X := ⟨.nx Γ, rfl, q⟩
theorem evFor_cons {P : D → Gam → Option Gam} {B : GS} {d : D} {ds : List D} (h : evP P d Γ fun Γ1 => evS B Γ1 (fun Γ2 => evFor P B ds Γ2 N R X) R N (fun Γ2 => evFor P B ds Γ2 N R X) X) : evFor P B (d :: ds) Γ N R X := by
  obtain ⟨Γ1, e, o, e1, q⟩ := h
  cases o with
  | nx Γ2 =>
    obtain ⟨o2, e2, q2⟩ := q
    exact ⟨o2, by unfold forD; rw [e]; dsimp only; rw [e1]; exact e2, q2⟩
  | rt c Γ2 => exact ⟨.rt c Γ2, by unfold forD; rw [e]; dsimp only; rw [e1], q⟩
  | bk Γ2 => exact ⟨.nx Γ2, by unfold forD; rw [e]; dsimp only; rw [e1], q⟩
  | ct Γ2 =>
    obtain ⟨o2, e2, q2⟩ := q
    exact ⟨o2, by unfold forD; rw [e]; dsimp only; rw [e1]; exact e2, q2⟩
  | xc x Γ2 => exact ⟨.xc x Γ2, by unfold forD; rw [e]; dsimp only; rw [e1], q⟩
/-- by an invariant of what is still to be walked -/
theorem evFor_inv {P : D → Gam → Option Gam} {B : GS} (I : List D → Gam → Prop) : ∀ (ds : List D) {Γ : Gam}, I ds Γ → (∀ d r Γ, I (d :: r) Γ → evP P d Γ fun Γ1 => evS B Γ1 (I r) R N (I r) X) → (∀ Γ, I [] Γ → N Γ) → evFor P B ds Γ N R X
  | [], Γ, h, _, n => evFor_nil (n _ h)
  | d :: r, Γ, h, st, n => by
    refine evFor_cons ?_
    obtain ⟨Γ1, e, o, e1, q⟩ := st d r Γ h
    refine ⟨Γ1, e, o, e1, ?_⟩
    cases o with
    | nx Γ2 => exact evFor_inv I r q st n
    | rt c Γ2 => exact q
    | bk Γ2 => exact q
    | ct Γ2 => exact evFor_inv I r q st n
    | xc x Γ2 => exact q
/-- a while, by a measure -/
theorem evWhile {t : TF} {B : GS} (I : Nat → Gam → Prop) (st : ∀ n Γ, I n Γ → evT t Γ (fun b Γ1 => (b = true → evS B Γ1 (fun Γ2 => ∃ m, m < n ∧ I m Γ2) R N (fun Γ2 => ∃ m, m < n ∧ I m Γ2) X) ∧ (b = false → N Γ1)) X) : ∀ (n : Nat) {Γ : Gam}, I n Γ → evS (sWhile t B) Γ N R Bk Ct X := by
  intro n
  induction n using Nat.strongRecOn with
  | _ n ih =>
    intro Γ h
    obtain ⟨r, Γ1, e, q⟩ := st n Γ h
    cases r with
    | val b =>
      cases b with
      | true =>
        obtain ⟨o, e1, q⟩ := q.1 rfl
        cases o with
        | nx Γ2 =>
          obtain ⟨m, hm, hi⟩ := q
          obtain ⟨o2, e2, q2⟩ := ih m hm hi
          exact ⟨o2, by rw [sWhile_eq, e]; dsimp only; rw [e1]; exact e2, q2⟩
        | rt c Γ2 => exact ⟨.rt c Γ2, by rw [sWhile_eq, e]; dsimp only; rw [e1], q⟩
        | bk Γ2 => exact ⟨.nx Γ2, by rw [sWhile_eq, e]; dsimp only; rw [e1], q⟩
        | ct Γ2 =>
          obtain ⟨m, hm, hi⟩ := q
          obtain ⟨o2, e2, q2⟩ := ih m hm hi
          exact ⟨o2, by rw [sWhile_eq, e]; dsimp only; rw [e1]; exact e2, q2⟩
        | xc x Γ2 => exact ⟨.xc x Γ2, by rw [sWhile_eq, e]; dsimp only; rw [e1], q⟩
      | false => exact ⟨.nx Γ1, by rw [sWhile_eq, e], q.2 rfl⟩
    | exc x => exact ⟨.xc x Γ1, by rw [sWhile_eq, e], q⟩
/-- a while that is turned once -/
theorem evWhile1 {t : TF} {B : GS} (h : evT t Γ (fun b Γ1 => (b = true → evS B Γ1 (fun Γ2 => evS (sWhile t B) Γ2 N R Bk Ct X) R N (fun Γ2 => evS (sWhile t B) Γ2 N R Bk Ct X) X) ∧ (b = false → N Γ1)) X) : evS (sWhile t B) Γ N R Bk Ct X := by
  obtain ⟨r, Γ1, e, q⟩ := h
  cases r with
  | val b =>
    cases b with
    | true =>
      obtain ⟨o, e1, q⟩ := q.1 rfl
      cases o with
      | nx Γ2 =>
        obtain ⟨o2, e2, q2⟩ := q
        exact ⟨o2, by rw [sWhile_eq, e]; dsimp only; rw [e1]; exact e2, q2⟩
      | rt c Γ2 => exact ⟨.rt c Γ2, by rw [sWhile_eq, e]; dsimp only; rw [e1], q⟩
      | bk Γ2 => exact ⟨.nx Γ2, by rw [sWhile_eq, e]; dsimp only; rw [e1], q⟩
      | ct Γ2 =>
        obtain ⟨o2, e2, q2⟩ := q
        exact ⟨o2, by rw [sWhile_eq, e]; dsimp only; rw [e1]; exact e2, q2⟩
      | xc x Γ2 => exact ⟨.xc x Γ2, by rw [sWhile_eq, e]; dsimp only; rw [e1], q⟩
    | false => exact ⟨.nx Γ1, by rw [sWhile_eq, e], q.2 rfl⟩
  | exc x => exact ⟨.xc x Γ1, by rw [sWhile_eq, e], q⟩

/-! ### a def -/
def stG : Nat → List Cell → Option Gam
  | 0, [] => some []
  | n + 1, [] => match stG n [] with
    | some Γ => some (none :: Γ)
    | none => none
  | 0, _ :: _ => none
  | n + 1, .sh d :: T => match stG n T with
    | some Γ => some (some (.sh d) :: Γ)
    | none => none
  | n + 1, .ow t ds :: T => match stG n T with
    | some Γ => some (some (.rf t ds) :: Γ)
    | none => none
  | _ + 1, _ :: _ => none
theorem stG_start : ∀ {n : Nat} {T : List Cell} {Γ : Gam}, stG n T = some Γ → startG n T = Γ ∧ T.all plainC = true
  | 0, [], Γ, h => by unfold stG at h; cases h; exact ⟨rfl, rfl⟩
  | n + 1, [], Γ, h => by
    unfold stG at h
    split at h
    · rename_i Γ1 e
      cases h
      obtain ⟨e1, e2⟩ := stG_start e
      refine ⟨?_, rfl⟩
      unfold startG at e1 ⊢
      simp only [List.map_nil, List.nil_append, List.length_nil, Nat.sub_zero] at e1 ⊢
      rw [List.replicate_succ, e1]
    · cases h
  | 0, _ :: _, Γ, h => by unfold stG at h; cases h
  | n + 1, c :: T, Γ, h => by
    cases c with
    | sh d =>
      unfold stG at h
      split at h
      · rename_i Γ1 e
        cases h
        obtain ⟨e1, e2⟩ := stG_start e
        refine ⟨?_, by rw [List.all_cons, e2]; rfl⟩
        unfold startG at e1 ⊢
        simp only [List.map_cons, List.cons_append, List.length_cons, Nat.add_sub_add_right, toSlot]
        rw [e1]
      · cases h
    | ow t ds =>
      unfold stG at h
      split at h
      · rename_i Γ1 e
        cases h
        obtain ⟨e1, e2⟩ := stG_start e
        refine ⟨?_, by rw [List.all_cons, e2]; rfl⟩
        unfold startG at e1 ⊢
        simp only [List.map_cons, List.cons_append, List.length_cons, Nat.add_sub_add_right, toSlot]
        rw [e1]
      · cases h
    | rf t ds => unfold stG at h; cases h
    | br i => unfold stG at h; cases h
theorem evDef {n : Nat} {G : GS} {T : List Cell} {Q : Cell → List Cell → Prop} {X : Exc → List Cell → Prop} (Γ : Gam) (hs : stG n T = some Γ)
    (h : evS G Γ (fun Γ1 => evSome (endT Γ1 0 T) fun T' => Q (.sh (.leaf .non)) T') (fun c Γ1 => evSome (finC Γ1 c) fun c' => evSome (endT Γ1 0 T) fun T' => Q c' T') (fun _ => False) (fun _ => False) (fun x Γ1 => evSome (endT Γ1 0 T) fun T' => X x T')) : evM (runD n G) T Q X := by
  obtain ⟨rfl, ha⟩ := stG_start hs
  obtain ⟨o, e, q⟩ := h
  cases o with
  | nx Γ1 =>
    obtain ⟨T', e1, q⟩ := q
    exact ⟨.val (.sh (.leaf .non)), T', by unfold runD; rw [if_pos ha, e]; dsimp only; rw [e1], q⟩
  | rt c Γ1 =>
    obtain ⟨c', e2, T', e1, q⟩ := q
    exact ⟨.val c', T', by unfold runD; rw [if_pos ha, e]; dsimp only; rw [e2, e1], q⟩
  | bk Γ1 => exact q.elim
  | ct Γ1 => exact q.elim
  | xc x Γ1 =>
    obtain ⟨T', e1, q⟩ := q
    exact ⟨.exc x, T', by unfold runD; rw [if_pos ha, e]; dsimp only; rw [e1], q⟩
theorem evM_eq {m : MF} {T T' : List Cell} {c : Cell} (h : evM m T (fun c' T2 => c' = c ∧ T2 = T') (fun _ _ => False)) : m T = some (.val c, T') := by
  obtain ⟨r, T2, e, q⟩ := h
  cases r with
  | val c2 => obtain ⟨rfl, rfl⟩ := q; exact e
  | exc x => exact q.elim
end

/-! ### a comprehension -/
def evLcD (P : D → Gam → Option Gam) (t : TF) (E : EF) (is : List Nat) (ds : List D) (Γ : Gam) (acc : List D) (Q : List D → Gam → Prop) : Prop := ∃ out Γ', lcD P t E is ds Γ acc = some (out, Γ') ∧ Q out Γ'
section
variable {Γ : Gam} {X : Exc → Gam → Prop} {Q : List D → Gam → Prop} {P : D → Gam → Option Gam} {t : TF} {E : EF} {is : List Nat} {acc : List D}
theorem evLcNil (q : Q acc Γ) : evLcD P t E is [] Γ acc Q := ⟨acc, Γ, rfl, q⟩
theorem evLcCons {d : D} {r : List D} (h : evP P d Γ fun Γ1 => evT t Γ1 (fun b Γ2 => (b = true → evE E Γ2 (fun c Γ3 => evKp Γ3 c fun e Γ4 => acc.length < 16777216 ∧ evLcD P t E is r (clearG Γ4 is) (acc ++ [e]) Q) (fun _ _ => False)) ∧ (b = false → evLcD P t E is r (clearG Γ2 is) acc Q)) (fun _ _ => False)) : evLcD P t E is (d :: r) Γ acc Q := by
  obtain ⟨Γ1, e1, rr, Γ2, e2, q⟩ := h
  cases rr with
  | val b =>
    cases b with
    | true =>
      have z := evKeepN (Q := fun c Γ4 => ∃ e, c = .sh e ∧ acc.length < 16777216 ∧ evLcD P t E is r (clearG Γ4 is) (acc ++ [e]) Q) (evE_mono (q.1 rfl) (fun c Γ3 ⟨e, Γ4, k, q⟩ => ⟨e, Γ4, k, e, rfl, q⟩) fun _ _ z => z)
      obtain ⟨r2, Γ3, e3, q⟩ := z
      cases r2 with
      | val c =>
        obtain ⟨e, rfl, n, out, Γ5, e5, q⟩ := q
        exact ⟨out, Γ5, by unfold lcD; rw [e1]; dsimp only; rw [e2]; dsimp only; rw [e3]; dsimp only; rw [if_pos n]; exact e5, q⟩
      | exc x => exact q.elim
    | false =>
      obtain ⟨out, Γ5, e5, q⟩ := q.2 rfl
      exact ⟨out, Γ5, by unfold lcD; rw [e1]; dsimp only; rw [e2]; exact e5, q⟩
  | exc x => exact q.elim
theorem evLc_inv (I : List D → Gam → List D → Prop) : ∀ (ds : List D) {Γ : Gam} {acc : List D}, I ds Γ acc → (∀ d r Γ acc, I (d :: r) Γ acc → evP P d Γ fun Γ1 => evT t Γ1 (fun b Γ2 => (b = true → evE E Γ2 (fun c Γ3 => evKp Γ3 c fun e Γ4 => acc.length < 16777216 ∧ I r (clearG Γ4 is) (acc ++ [e])) (fun _ _ => False)) ∧ (b = false → I r (clearG Γ2 is) acc)) (fun _ _ => False)) → (∀ Γ acc, I [] Γ acc → Q acc Γ) → evLcD P t E is ds Γ acc Q
  | [], Γ, acc, h, _, n => evLcNil (n _ _ h)
  | d :: r, Γ, acc, h, st, n => by
    refine evLcCons ?_
    obtain ⟨Γ1, e1, rr, Γ2, e2, q⟩ := st d r Γ acc h
    refine ⟨Γ1, e1, rr, Γ2, e2, ?_⟩
    cases rr with
    | val b =>
      refine ⟨fun hb => ?_, fun hb => evLc_inv I r (q.2 hb) st n⟩
      exact evE_mono (q.1 hb) (fun c Γ3 ⟨e, Γ4, k, hl, hI⟩ => ⟨e, Γ4, k, hl, evLc_inv I r hI st n⟩) fun _ _ z => z
    | exc x => exact q
theorem evLc {I : IF} {Q : Cell → Gam → Prop} (h : evI I Γ (fun ds Γ1 => evLcD P t E is ds (clearG Γ1 is) [] fun out Γ2 => Q (.ow .lst out) (restoreG Γ1 Γ2 is)) X) : evE (eLc I P t E is) Γ Q X := by
  obtain ⟨r, Γ1, e, q⟩ := h
  cases r with
  | val ds =>
    obtain ⟨out, Γ2, e2, q⟩ := q
    exact ⟨_, _, by unfold eLc; rw [e]; dsimp only; rw [e2], q⟩
  | exc x => exact ⟨.exc x, Γ1, by unfold eLc; rw [e], q⟩
end
end DL

set_option Elab.async false
set_option linter.all false
set_option maxRecDepth 100000
set_option maxHeartbeats 1000000
/-! the mirrors, run: the operators -/
namespace DL
open PySem PySem.Spec PyProof.Rows L2

section
variable {Γ : Gam} {X : Exc → Gam → Prop} {Q : Cell → Gam → Prop}
theorem ev2_mk {g : D → D → Option Out} {x y : Option D} (d e : D) (hx : x = some d) (hy : y = some e) (h : evG (g d e) Γ Q) : ev2 g x y Γ Q := ⟨d, e, hx, hy, h⟩
theorem ev1_mk {g : D → Option Out} {x : Option D} (d : D) (hx : x = some d) (h : evG (g d) Γ Q) : ev1 g x Γ Q := ⟨d, hx, h⟩
theorem evL_mk {g : List D → Option Out} {x : Option (List D)} (d : List D) (hx : x = some d) (h : evG (g d) Γ Q) : evL g x Γ Q := ⟨d, hx, h⟩
theorem evG_old {x : Option Out} {d : D} (h : x = some (.old d)) (q : Q (.sh d) Γ) : evG x Γ Q := ⟨_, h, rfl, q⟩
theorem evG_lst {x : Option Out} {ds : List D} (h : x = some (.new .lst ds)) (q : Q (.ow .lst ds) Γ) : evG x Γ Q := ⟨_, h, rfl, q⟩
theorem evG_tup {x : Option Out} {ds : List D} (h : x = some (.new .tup ds)) (q : Q (.sh (.node .tup ds)) Γ) : evG x Γ Q := ⟨_, h, rfl, q⟩

variable {i j : Int} {xs ys : List D}
theorem vAdd (q : Q (.sh (.leaf (.int (i + j)))) Γ) : evG (gAdd (.leaf (.int i)) (.leaf (.int j))) Γ Q := evG_old rfl q
theorem vAddL (h : xs.length + ys.length ≤ 16777216) (q : Q (.ow .lst (xs ++ ys)) Γ) : evG (gAdd (.node .lst xs) (.node .lst ys)) Γ Q := evG_lst (by unfold gAdd; dsimp only; rw [if_pos h]) q
theorem vAddS {x y : Str} (h : x.length + y.length ≤ 16777216) (q : Q (.sh (.leaf (.str (x ++ y)))) Γ) : evG (gAdd (.leaf (.str x)) (.leaf (.str y))) Γ Q := evG_old (by unfold gAdd; dsimp only; rw [if_pos h]) q
theorem vSub (q : Q (.sh (.leaf (.int (i - j)))) Γ) : evG (gSub (.leaf (.int i)) (.leaf (.int j))) Γ Q := evG_old rfl q
/-- 2 ^ 256, as a bound of what is multiplied and divided -/
theorem bigB : (115792089237316195423570985008687907853269984665640564039457584007913129639936 : Int) ≤ 2 ^ 300 := by decide
theorem bigC : (115792089237316195423570985008687907853269984665640564039457584007913129639936 : Int) ≤ 2 ^ 1000 := by decide +kernel
theorem vMul (h : ((-115792089237316195423570985008687907853269984665640564039457584007913129639936 < i ∧ i < 115792089237316195423570985008687907853269984665640564039457584007913129639936) ∧ -115792089237316195423570985008687907853269984665640564039457584007913129639936 < j ∧ j < 115792089237316195423570985008687907853269984665640564039457584007913129639936)) (q : Q (.sh (.leaf (.int (i * j)))) Γ) : evG (gMul (.leaf (.int i)) (.leaf (.int j))) Γ Q :=
  evG_old (by
    have b := bigC
    have z : cMul i j = true := by
      unfold cMul
      refine decide_eq_true ⟨⟨?_, ?_⟩, ?_, ?_⟩
      · exact Int.lt_of_le_of_lt (Int.neg_le_neg b) h.1.1
      · exact Int.lt_of_lt_of_le h.1.2 b
      · exact Int.lt_of_le_of_lt (Int.neg_le_neg b) h.2.1
      · exact Int.lt_of_lt_of_le h.2.2 b
    unfold gMul
    dsimp only
    rw [if_pos z]) q
theorem vFdiv (h : 0 < j ∧ j < 115792089237316195423570985008687907853269984665640564039457584007913129639936) (q : Q (.sh (.leaf (.int (i / j)))) Γ) : evG (gFdiv (.leaf (.int i)) (.leaf (.int j))) Γ Q :=
  evG_old (by
    have z : cDiv i j = true := by unfold cDiv; exact decide_eq_true ⟨h.1, Int.lt_of_lt_of_le h.2 bigB⟩
    unfold gFdiv gII
    dsimp only
    rw [if_pos z]) q
theorem vMod (h : 0 < j) (q : Q (.sh (.leaf (.int (i % j)))) Γ) : evG (gMod (.leaf (.int i)) (.leaf (.int j))) Γ Q :=
  evG_old (by
    unfold gMod gII
    dsimp only
    rw [if_pos (decide_eq_true h)]) q
theorem vPow {k : Int} (h : 0 ≤ j ∧ j ≤ 1000000 ∧ i.natAbs < 18446744073709551616) (e : i ^ j.toNat = k) (q : Q (.sh (.leaf (.int k))) Γ) : evG (gPow (.leaf (.int i)) (.leaf (.int j))) Γ Q :=
  evG_old (by
    subst e
    unfold gPow gII
    dsimp only
    rw [if_pos (decide_eq_true h)]) q
theorem vNeg (q : Q (.sh (.leaf (.int (-i)))) Γ) : evG (gNeg (.leaf (.int i))) Γ Q := evG_old rfl q
theorem vLt (q : Q (.sh (.leaf (.bl (decide (i < j))))) Γ) : evG (gLt (.leaf (.int i)) (.leaf (.int j))) Γ Q := evG_old rfl q
theorem vLe (q : Q (.sh (.leaf (.bl (decide (i ≤ j))))) Γ) : evG (gLe (.leaf (.int i)) (.leaf (.int j))) Γ Q := evG_old rfl q
theorem vGt (q : Q (.sh (.leaf (.bl (decide (j < i))))) Γ) : evG (gGt (.leaf (.int i)) (.leaf (.int j))) Γ Q := evG_old rfl q
theorem vGe (q : Q (.sh (.leaf (.bl (decide (j ≤ i))))) Γ) : evG (gGe (.leaf (.int i)) (.leaf (.int j))) Γ Q := evG_old rfl q
theorem ev2B_lt {x y : Option D} {Q : Bool → Prop} (hx : x = some (.leaf (.int i))) (hy : y = some (.leaf (.int j))) (q : Q (decide (i < j))) : ev2B gLt x y Q := ⟨_, _, _, hx, hy, rfl, q⟩
theorem ev2B_le {x y : Option D} {Q : Bool → Prop} (hx : x = some (.leaf (.int i))) (hy : y = some (.leaf (.int j))) (q : Q (decide (i ≤ j))) : ev2B gLe x y Q := ⟨_, _, _, hx, hy, rfl, q⟩
theorem ev2B_gt {x y : Option D} {Q : Bool → Prop} (hx : x = some (.leaf (.int i))) (hy : y = some (.leaf (.int j))) (q : Q (decide (j < i))) : ev2B gGt x y Q := ⟨_, _, _, hx, hy, rfl, q⟩
theorem ev2B_ge {x y : Option D} {Q : Bool → Prop} (hx : x = some (.leaf (.int i))) (hy : y = some (.leaf (.int j))) (q : Q (decide (j ≤ i))) : ev2B gGe x y Q := ⟨_, _, _, hx, hy, rfl, q⟩
theorem dec_int : (decide ((V.int i) = V.int j)) = decide (i = j) := by
  by_cases h : i = j
  · subst h; simp
  · rw [decide_eq_false h, decide_eq_false (fun q => h (V.int.inj q))]
theorem dec_str {x y : Str} : (decide ((V.str x) = V.str y)) = decide (x = y) := by
  by_cases h : x = y
  · subst h; simp
  · rw [decide_eq_false h, decide_eq_false (fun q => h (V.str.inj q))]
theorem dec_bl {x y : Bool} : (decide ((V.bl x) = V.bl y)) = decide (x = y) := by
  by_cases h : x = y
  · subst h; simp
  · rw [decide_eq_false h, decide_eq_false (fun q => h (V.bl.inj q))]
theorem eqD_int : eqD (.leaf (.int i)) (.leaf (.int j)) = some (decide (i = j)) := by
  unfold eqD
  dsimp only
  rw [if_pos (by rfl), dec_int]
theorem eqD_str {x y : Str} : eqD (.leaf (.str x)) (.leaf (.str y)) = some (decide (x = y)) := by
  unfold eqD
  dsimp only
  rw [if_pos (by rfl), dec_str]
theorem eqD_bl {x y : Bool} : eqD (.leaf (.bl x)) (.leaf (.bl y)) = some (decide (x = y)) := by
  unfold eqD
  dsimp only
  rw [if_pos (by rfl), dec_bl]
theorem vEqI (q : Q (.sh (.leaf (.bl (decide (i = j))))) Γ) : evG (gEq (.leaf (.int i)) (.leaf (.int j))) Γ Q := evG_old (by unfold gEq; rw [eqD_int]) q
theorem vNeI (q : Q (.sh (.leaf (.bl (!decide (i = j))))) Γ) : evG (gNe (.leaf (.int i)) (.leaf (.int j))) Γ Q := evG_old (by unfold gNe; rw [eqD_int]) q
theorem vEqS {x y : Str} (q : Q (.sh (.leaf (.bl (decide (x = y))))) Γ) : evG (gEq (.leaf (.str x)) (.leaf (.str y))) Γ Q := evG_old (by unfold gEq; rw [eqD_str]) q
theorem vNeS {x y : Str} (q : Q (.sh (.leaf (.bl (!decide (x = y))))) Γ) : evG (gNe (.leaf (.str x)) (.leaf (.str y))) Γ Q := evG_old (by unfold gNe; rw [eqD_str]) q
theorem vEqB {x y : Bool} (q : Q (.sh (.leaf (.bl (decide (x = y))))) Γ) : evG (gEq (.leaf (.bl x)) (.leaf (.bl y))) Γ Q := evG_old (by unfold gEq; rw [eqD_bl]) q
theorem vNeB {x y : Bool} (q : Q (.sh (.leaf (.bl (!decide (x = y))))) Γ) : evG (gNe (.leaf (.bl x)) (.leaf (.bl y))) Γ Q := evG_old (by unfold gNe; rw [eqD_bl]) q
theorem vEq {d e : D} {b : Bool} (h : eqD d e = some b) (q : Q (.sh (.leaf (.bl b))) Γ) : evG (gEq d e) Γ Q := evG_old (by unfold gEq; rw [h]) q
theorem vNe {d e : D} {b : Bool} (h : eqD d e = some b) (q : Q (.sh (.leaf (.bl (!b)))) Γ) : evG (gNe d e) Γ Q := evG_old (by unfold gNe; rw [h]) q
theorem vIsN {d : D} (q : Q (.sh (.leaf (.bl (isNon d)))) Γ) : evG (gIsN d (.leaf .non)) Γ Q := evG_old rfl q
theorem vNotN {d : D} (q : Q (.sh (.leaf (.bl (!isNon d)))) Γ) : evG (gNotN d (.leaf .non)) Γ Q := evG_old rfl q
theorem vIxL {d : D} (h : atI xs i = some d) (q : Q (.sh d) Γ) : evG (gIx (.node .lst xs) (.leaf (.int i))) Γ Q := evG_old (by unfold gIx; dsimp only; rw [h]; rfl) q
theorem vIxT {d : D} (h : atI xs i = some d) (q : Q (.sh d) Γ) : evG (gIx (.node .tup xs) (.leaf (.int i))) Γ Q := evG_old (by unfold gIx; dsimp only; rw [h]; rfl) q
theorem vIxS {d : D} (h : atI xs i = some d) (q : Q (.sh d) Γ) : evG (gIx (.node .scr xs) (.leaf (.int i))) Γ Q := evG_old (by unfold gIx; dsimp only; rw [h]; rfl) q
theorem vGetS {d : D} {ks : List Key} {x : Str} (h : getK (Sum.inr x) ks xs = some d) (q : Q (.sh d) Γ) : evG (gGet (.node (.dk ks) xs) (.leaf (.str x))) Γ Q := evG_old (by unfold gGet; dsimp only; rw [h]; rfl) q
theorem vGetI {d : D} {ks : List Key} (h : getK (Sum.inl i) ks xs = some d) (q : Q (.sh d) Γ) : evG (gGet (.node (.dk ks) xs) (.leaf (.int i))) Γ Q := evG_old (by unfold gGet; dsimp only; rw [h]; rfl) q
theorem vCutL {lo hi : Option Int} (q : Q (.ow .lst (cutD xs lo hi)) Γ) : evG (gCut lo hi (.node .lst xs)) Γ Q := evG_lst rfl q
theorem vCutS {lo hi : Option Int} (q : Q (.ow .lst (cutD xs lo hi)) Γ) : evG (gCut lo hi (.node .scr xs)) Γ Q := evG_lst rfl q
theorem vTup (h : xs.length ≤ 16777216) (q : Q (.sh (.node .tup xs)) Γ) : evG (gTupD xs) Γ Q := evG_tup (by unfold gTupD; rw [if_pos h]) q
theorem vLst (h : xs.length ≤ 16777216) (q : Q (.ow .lst xs) Γ) : evG (gLstD xs) Γ Q := evG_lst (by unfold gLstD; rw [if_pos h]) q
theorem vLenL (q : Q (.sh (.leaf (.int xs.length))) Γ) : evG (gLen [.node .lst xs]) Γ Q := evG_old rfl q
theorem vLenT (q : Q (.sh (.leaf (.int xs.length))) Γ) : evG (gLen [.node .tup xs]) Γ Q := evG_old rfl q
theorem vLenS (q : Q (.sh (.leaf (.int xs.length))) Γ) : evG (gLen [.node .scr xs]) Γ Q := evG_old rfl q
theorem vLenD {ks : List Key} (q : Q (.sh (.leaf (.int xs.length))) Γ) : evG (gLen [.node (.dk ks) xs]) Γ Q := evG_old rfl q
theorem vLenX {x : Str} (h : x.length ≤ 16777216) (q : Q (.sh (.leaf (.int x.length))) Γ) : evG (gLen [.leaf (.str x)]) Γ Q := evG_old (by unfold gLen; dsimp only; rw [if_pos h]) q
theorem vAbs (q : Q (.sh (.leaf (.int (if i < 0 then -i else i)))) Γ) : evG (gAbs [.leaf (.int i)]) Γ Q := evG_old rfl q
theorem vMin2 (q : Q (.sh (.leaf (.int (if j < i then j else i)))) Γ) : evG (gMin2 [.leaf (.int i), .leaf (.int j)]) Γ Q := evG_old rfl q
theorem vMax2 (q : Q (.sh (.leaf (.int (if j > i then j else i)))) Γ) : evG (gMax2 [.leaf (.int i), .leaf (.int j)]) Γ Q := evG_old rfl q
theorem vListL (q : Q (.ow .lst xs) Γ) : evG (gList [.node .lst xs]) Γ Q := evG_lst rfl q
theorem vListT (q : Q (.ow .lst xs) Γ) : evG (gList [.node .tup xs]) Γ Q := evG_lst rfl q
theorem vListS (q : Q (.ow .lst xs) Γ) : evG (gList [.node .scr xs]) Γ Q := evG_lst rfl q
theorem vTupleL (q : Q (.sh (.node .tup xs)) Γ) : evG (gTuple [.node .lst xs]) Γ Q := evG_tup rfl q
theorem vTupleS (q : Q (.sh (.node .tup xs)) Γ) : evG (gTuple [.node .scr xs]) Γ Q := evG_tup rfl q
theorem vSum {ns : List Int} (h : intsOf xs = some ns) (q : Q (.sh (.leaf (.int ns.sum))) Γ) : evG (gSum [.node .lst xs]) Γ Q := evG_old (by unfold gSum; dsimp only; rw [h]; rfl) q
theorem vAll {bs : List Bool} (h : blsOf xs = some bs) (q : Q (.sh (.leaf (.bl (bs.all id)))) Γ) : evG (gAll [.node .lst xs]) Γ Q := evG_old (by unfold gAll; dsimp only; rw [h]; rfl) q
theorem vAny {bs : List Bool} (h : blsOf xs = some bs) (q : Q (.sh (.leaf (.bl (bs.any id)))) Γ) : evG (gAny [.node .lst xs]) Γ Q := evG_old (by unfold gAny; dsimp only; rw [h]; rfl) q
theorem vMaxL {ns : List Int} (h : intsOf xs = some ns) (n : ns.isEmpty = false) (q : Q (.sh (.leaf (.int (maxI ns)))) Γ) : evG (gMax [.node .lst xs]) Γ Q := evG_old (by unfold gMax; dsimp only; rw [h]; dsimp only; rw [if_neg (by rw [n]; exact Bool.false_ne_true)]) q
theorem vMaxT {ns : List Int} (h : intsOf xs = some ns) (n : ns.isEmpty = false) (q : Q (.sh (.leaf (.int (maxI ns)))) Γ) : evG (gMax [.node .tup xs]) Γ Q := evG_old (by unfold gMax; dsimp only; rw [h]; dsimp only; rw [if_neg (by rw [n]; exact Bool.false_ne_true)]) q
theorem vRepr {d : D} {p : PyData} (h : toP d = some p) (k : reprOk p = true) (q : Q (.sh (.leaf (.str p.shown))) Γ) : evG (gRepr [d]) Γ Q := evG_old (gRepr_of h k) q
theorem vIsi {d : D} {n m : String} {b : Bool} (h : tyName d = some m) (k : kitB m n = some b) (q : Q (.sh (.leaf (.bl b))) Γ) : evG (gIsi [d, .leaf (.ty n)]) Γ Q := evG_old (by unfold gIsi; dsimp only; rw [h]; dsimp only; rw [k]; rfl) q

/-! methods -/
theorem uAppend {d : D} {Q : D → Tag → List D → Prop} (h : xs.length < 16777216) (q : Q (.leaf .non) .lst (xs ++ [d])) : evMu (gAppend .lst xs [d]) Q := ⟨_, _, _, by unfold gAppend; dsimp only; rw [if_pos h], q⟩
theorem uPopAt {Q : D → Tag → List D → Prop} (k : Nat) (d : D) (hk : i = (k : Int)) (hd : xs[k]? = some d) (hs : xs.length < 16777216) (q : Q d .lst (xs.eraseIdx k)) : evMu (gPopAt .lst xs [.leaf (.int i)]) Q := by
  have hl : k < xs.length := (List.getElem?_eq_some_iff.mp hd).1
  subst hk
  refine ⟨d, .lst, xs.eraseIdx k, ?_, q⟩
  have e : seqIndex? (k : Int) xs.length = some k := by
    have z : ¬ ((k : Int) < 0) := by omega
    simp only [seqIndex?, if_neg z]
    rw [if_pos (by simp; omega), Int.toNat_natCast]
  unfold gPopAt
  dsimp only
  rw [if_pos (by omega), e]
  dsimp only
  rw [hd]
theorem uPop {d : D} {Q : D → Tag → List D → Prop} (h : xs[xs.length - 1]? = some d) (q : Q d .lst xs.dropLast) : evMu (gPop .lst xs []) Q := ⟨_, _, _, by unfold gPop; dsimp only; rw [h], q⟩

/-! forks -/
theorem fkT {P R : Prop} (h : P) : (true = true → P) ∧ (true = false → R) := ⟨fun _ => h, fun q => nomatch q⟩
theorem fkF {P R : Prop} (h : R) : (false = true → P) ∧ (false = false → R) := ⟨(fun q => nomatch q), fun _ => h⟩
theorem fkD {c P R : Prop} {_ : Decidable c} (h : c → P) (h' : ¬ c → R) : (decide c = true → P) ∧ (decide c = false → R) := ⟨fun q => h (of_decide_eq_true q), fun q => h' (of_decide_eq_false q)⟩
theorem fkDT {c P R : Prop} {_ : Decidable c} (k : c) (h : P) : (decide c = true → P) ∧ (decide c = false → R) := fkD (fun _ => h) fun q => (q k).elim
theorem fkDF {c P R : Prop} {_ : Decidable c} (k : ¬ c) (h : R) : (decide c = true → P) ∧ (decide c = false → R) := fkD (fun q => (k q).elim) fun _ => h
theorem fkN {b : Bool} {P R : Prop} (h : (b = true → R) ∧ (b = false → P)) : ((!b) = true → P) ∧ ((!b) = false → R) := by
  cases b with
  | true => exact ⟨(fun q => nomatch q), fun _ => h.1 rfl⟩
  | false => exact ⟨fun _ => h.2 rfl, (fun q => nomatch q)⟩
theorem atI_nat {α : Type} {l : List α} {k : Nat} {d : α} (h : l[k]? = some d) : atI l (k : Int) = some d := by
  have hl : k < l.length := (List.getElem?_eq_some_iff.mp h).1
  unfold atI ixN
  rw [if_pos (by omega), if_pos (by omega)]
  simpa using h
theorem atI_of {α : Type} {l : List α} {i : Int} (h0 : 0 ≤ i) (h1 : i < l.length) : ∃ d, l[i.toNat]? = some d ∧ atI l i = some d := by
  have h2 : i.toNat < l.length := by omega
  refine ⟨l[i.toNat], List.getElem?_eq_getElem h2, ?_⟩
  have := atI_nat (k := i.toNat) (List.getElem?_eq_getElem h2)
  rwa [Int.toNat_of_nonneg h0] at this
theorem atI_last {α : Type} {l : List α} {d : α} : atI (l ++ [d]) (-1) = some d := by
  unfold atI ixN
  rw [if_neg (by decide), if_pos (by simp; omega)]
  have z : (-1 + (((l ++ [d]).length : Nat) : Int)).toNat = l.length := by simp; omega
  simp only [Option.bind_some, z]
  simp
end
theorem evPutF {i : Nat} {c : Cell} {Γ Γ' : Gam} {N : Gam → Prop} (h : isRf Γ[i]? = false) (e : setG i (some c) Γ = some Γ') (q : N Γ') : evSome (putN i c Γ) N := ⟨Γ', by unfold putN; rw [h]; exact e, q⟩
theorem cutD_mem {α : Type} {xs : List α} {lo hi : Option Int} {x : α} (h : x ∈ DL.cutD xs lo hi) : x ∈ xs := List.mem_of_mem_drop (List.mem_of_mem_take h)
theorem cutD_len {α : Type} (xs : List α) (lo hi : Option Int) : (DL.cutD xs lo hi).length ≤ xs.length := by
  unfold DL.cutD
  rw [List.length_take, List.length_drop]
  omega
theorem evRange1 {j : Int} {Q : List D → Prop} (h : -4611686018427387904 ≤ j ∧ j < 4611686018427387904) (q : Q (rangeD 0 j.toNat)) : evSome (gRange1 [.leaf (.int j)]) Q := ⟨_, by unfold gRange1; dsimp only; rw [if_pos h], q⟩
theorem evRange2 {i j : Int} {Q : List D → Prop} (h : (-4611686018427387904 ≤ i ∧ i < 4611686018427387904) ∧ -4611686018427387904 ≤ j ∧ j < 4611686018427387904) (q : Q (rangeD i (j - i).toNat)) : evSome (gRange2 [.leaf (.int i), .leaf (.int j)]) Q := ⟨_, by unfold gRange2; dsimp only; rw [if_pos h], q⟩
theorem rangeD_nil (i : Int) : rangeD i 0 = [] := rfl
theorem rangeD_succ (i : Int) (n : Nat) : rangeD i (n + 1) = .leaf (.int i) :: rangeD (i + 1) n := by
  unfold rangeD
  rw [List.range_succ_eq_map, List.map_cons, List.map_map]
  refine congr (congrArg _ (by simp)) (List.map_congr_left fun a _ => ?_)
  show D.int (i + ((a + 1 : Nat) : Int)) = D.int (i + 1 + (a : Int))
  have : i + ((a + 1 : Nat) : Int) = i + 1 + (a : Int) := by omega
  rw [this]
/-- a loop over a range: I k before the turn at i + k -/
theorem evFor_range {P : D → Gam → Option Gam} {B : GS} {N : Gam → Prop} {R : Cell → Gam → Prop} {X : Exc → Gam → Prop} (I : Nat → Gam → Prop) : ∀ (n : Nat) (i : Int) (k : Nat) {Γ : Gam}, I k Γ → (∀ m Γ, m < n → I (k + m) Γ → evP P (.leaf (.int (i + (m : Int)))) Γ fun Γ1 => evS B Γ1 (I (k + m + 1)) R N (I (k + m + 1)) X) → (∀ Γ, I (k + n) Γ → N Γ) → evFor P B (rangeD i n) Γ N R X
  | 0, i, k, Γ, h, _, e => evFor_nil (e Γ h)
  | n + 1, i, k, Γ, h, st, e => by
    rw [rangeD_succ]
    have h0 := st 0 Γ (Nat.succ_pos n) h
    rw [show i + ((0 : Nat) : Int) = i by simp] at h0
    refine evFor_cons ?_
    obtain ⟨Γ1, e1, o, e2, q⟩ := h0
    refine ⟨Γ1, e1, o, e2, ?_⟩
    have again : ∀ Γ2, I (k + 1) Γ2 → evFor P B (rangeD (i + 1) n) Γ2 N R X := fun Γ2 h2 =>
      evFor_range I n (i + 1) (k + 1) h2 (fun m Γ hm hI => by
        have := st (m + 1) Γ (by omega) (by rw [show k + (m + 1) = k + 1 + m by omega]; exact hI)
        rw [show i + ((m + 1 : Nat) : Int) = i + 1 + (m : Int) by omega, show k + (m + 1) + 1 = k + 1 + m + 1 by omega] at this
        exact this) (fun Γ hI => e Γ (by rw [show k + (n + 1) = k + 1 + n by omega]; exact hI))
    cases o with
    | nx Γ2 => exact again Γ2 q
    | rt c Γ2 => exact q
    | bk Γ2 => exact q
    | ct Γ2 => exact again Γ2 q
    | xc x Γ2 => exact q
theorem kt_NoneType_bool : kitB "NoneType" "bool" = some false := by with_unfolding_all rfl
theorem kt_NoneType_int : kitB "NoneType" "int" = some false := by with_unfolding_all rfl
theorem kt_NoneType_str : kitB "NoneType" "str" = some false := by with_unfolding_all rfl
theorem kt_NoneType_list : kitB "NoneType" "list" = some false := by with_unfolding_all rfl
theorem kt_NoneType_tuple : kitB "NoneType" "tuple" = some false := by with_unfolding_all rfl
theorem kt_NoneType_dict : kitB "NoneType" "dict" = some false := by with_unfolding_all rfl
theorem kt_bool_bool : kitB "bool" "bool" = some true := by with_unfolding_all rfl
theorem kt_bool_int : kitB "bool" "int" = some true := by with_unfolding_all rfl
theorem kt_bool_str : kitB "bool" "str" = some false := by with_unfolding_all rfl
theorem kt_bool_list : kitB "bool" "list" = some false := by with_unfolding_all rfl
theorem kt_bool_tuple : kitB "bool" "tuple" = some false := by with_unfolding_all rfl
theorem kt_bool_dict : kitB "bool" "dict" = some false := by with_unfolding_all rfl
theorem kt_int_bool : kitB "int" "bool" = some false := by with_unfolding_all rfl
theorem kt_int_int : kitB "int" "int" = some true := by with_unfolding_all rfl
theorem kt_int_str : kitB "int" "str" = some false := by with_unfolding_all rfl
theorem kt_int_list : kitB "int" "list" = some false := by with_unfolding_all rfl
theorem kt_int_tuple : kitB "int" "tuple" = some false := by with_unfolding_all rfl
theorem kt_int_dict : kitB "int" "dict" = some false := by with_unfolding_all rfl
theorem kt_str_bool : kitB "str" "bool" = some false := by with_unfolding_all rfl
theorem kt_str_int : kitB "str" "int" = some false := by with_unfolding_all rfl
theorem kt_str_str : kitB "str" "str" = some true := by with_unfolding_all rfl
theorem kt_str_list : kitB "str" "list" = some false := by with_unfolding_all rfl
theorem kt_str_tuple : kitB "str" "tuple" = some false := by with_unfolding_all rfl
theorem kt_str_dict : kitB "str" "dict" = some false := by with_unfolding_all rfl
theorem kt_list_bool : kitB "list" "bool" = some false := by with_unfolding_all rfl
theorem kt_list_int : kitB "list" "int" = some false := by with_unfolding_all rfl
theorem kt_list_str : kitB "list" "str" = some false := by with_unfolding_all rfl
theorem kt_list_list : kitB "list" "list" = some true := by with_unfolding_all rfl
theorem kt_list_tuple : kitB "list" "tuple" = some false := by with_unfolding_all rfl
theorem kt_list_dict : kitB "list" "dict" = some false := by with_unfolding_all rfl
theorem kt_tuple_bool : kitB "tuple" "bool" = some false := by with_unfolding_all rfl
theorem kt_tuple_int : kitB "tuple" "int" = some false := by with_unfolding_all rfl
theorem kt_tuple_str : kitB "tuple" "str" = some false := by with_unfolding_all rfl
theorem kt_tuple_list : kitB "tuple" "list" = some false := by with_unfolding_all rfl
theorem kt_tuple_tuple : kitB "tuple" "tuple" = some true := by with_unfolding_all rfl
theorem kt_tuple_dict : kitB "tuple" "dict" = some false := by with_unfolding_all rfl
theorem kt_dict_bool : kitB "dict" "bool" = some false := by with_unfolding_all rfl
theorem kt_dict_int : kitB "dict" "int" = some false := by with_unfolding_all rfl
theorem kt_dict_str : kitB "dict" "str" = some false := by with_unfolding_all rfl
theorem kt_dict_list : kitB "dict" "list" = some false := by with_unfolding_all rfl
theorem kt_dict_tuple : kitB "dict" "tuple" = some false := by with_unfolding_all rfl
theorem kt_dict_dict : kitB "dict" "dict" = some true := by with_unfolding_all rfl
theorem evE_id {A : EF} {Γ : Gam} {Q : Cell → Gam → Prop} {X : Exc → Gam → Prop} (h : evE A Γ Q X) : evE A Γ Q X := h
theorem evS_id {G : GS} {Γ : Gam} {N R B C X} (h : evS G Γ N R B C X) : evS G Γ N R B C X := h
theorem evT_id {A : TF} {Γ : Gam} {Q : Bool → Gam → Prop} {X : Exc → Gam → Prop} (h : evT A Γ Q X) : evT A Γ Q X := h
theorem evA_id {A : AF} {Γ : Gam} {Q : List Cell → Gam → Prop} {X : Exc → Gam → Prop} (h : evA A Γ Q X) : evA A Γ Q X := h
theorem evG_id {x : Option Out} {Γ : Gam} {Q : Cell → Gam → Prop} (h : evG x Γ Q) : evG x Γ Q := h
/-- a list of ints, laid -/
abbrev intsD (ns : List Int) : List D := ns.map fun n => .leaf (.int n)
theorem intsOf_ints : ∀ ns : List Int, intsOf (intsD ns) = some ns
  | [] => rfl
  | n :: ns => by
    have h := intsOf_ints ns
    unfold intsD at h ⊢
    rw [List.map_cons]
    unfold intsOf
    rw [h]
    rfl
theorem toPs_ints : ∀ ns : List Int, toPs (intsD ns) = some (ns.map .int)
  | [] => rfl
  | n :: ns => by
    have h := toPs_ints ns
    unfold intsD at h ⊢
    rw [List.map_cons]
    unfold toPs
    rw [h]
    rfl
theorem canLay_ints : ∀ ns : List Int, PyData.canLayAll0 (ns.map .int) = true
  | [] => rfl
  | n :: ns => by
    have h := canLay_ints ns
    rw [List.map_cons]
    unfold PyData.canLayAll0 PyData.canLay0
    rw [h]
    rfl
theorem depthP_ints : ∀ ns : List Int, PyData.depthAll (ns.map .int) ≤ 1
  | [] => by unfold PyData.depthAll; exact Nat.zero_le _
  | n :: ns => by
    have h := depthP_ints ns
    rw [List.map_cons]
    unfold PyData.depthAll PyData.depth
    omega
theorem eqv_ints : ∀ ns ms : List Int, PyData.eqvAll (ns.map .int) (ms.map .int) = decide (ns = ms)
  | [], [] => rfl
  | [], _ :: _ => rfl
  | _ :: _, [] => rfl
  | n :: ns, m :: ms => by
    have h := eqv_ints ns ms
    rw [List.map_cons, List.map_cons]
    unfold PyData.eqvAll PyData.eqv
    rw [h]
    by_cases e : n = m
    · subst e; simp
    · simp [e]
theorem shaped_ints (ns : List Int) : SeqAt.shaped (.list (ns.map .int)) = true := by
  unfold SeqAt.shaped
  unfold PyData.canLay0 PyData.depth
  rw [canLay_ints]
  have := depthP_ints ns
  simp only [Bool.true_and]
  exact decide_eq_true (by omega)
theorem eqD_ints (ns ms : List Int) : eqD (.node .lst (intsD ns)) (.node .lst (intsD ms)) = some (decide (ns = ms)) := by
  unfold eqD toP
  rw [toPs_ints, toPs_ints]
  dsimp only
  rw [shaped_ints, shaped_ints]
  unfold PyData.eqv
  rw [eqv_ints]
  rfl
end DL

set_option Elab.async false
set_option linter.all false
set_option maxRecDepth 100000
set_option maxHeartbeats 1000000
/-! more of the language: extend, sorted, a, b, c = x, y, z -/
namespace DL
open PySem PySem.Spec PyProof.Rows L2

/-- xs.extend(a list) -/
def gExtend : Tag → List D → List D → Option (D × Tag × List D)
  | .lst, ds, [.node .lst es] => if ds.length + es.length ≤ 16777216 then some (.leaf .non, .lst, ds ++ es) else none
  | _, _, _ => none
theorem smExtend {K : PySem.W.Frag} : SM K rExtend gExtend := by
  intro M H a t xs ds vs es d t' ds' Q s own r rh rv hg q
  unfold gExtend at hg
  split at hg
  · rename_i e
    split at hg
    · rename_i hl
      cases hg
      obtain ⟨x, ys, rfl, r1, r2⟩ := rv.cons_of
      rw [r2.nil_of]
      unfold Rep at r1
      obtain ⟨b, zs, rfl, hb, rz⟩ := r1
      have hb' : M b = some (.lst zs) := hb
      exact ⟨a, b, xs, zs, rfl, rfl, own, s b _ hb', by rw [r.length, rz.length, sizeLine_eq]; exact hl, q _ (xs ++ zs) (.lst (xs ++ zs)) (by unfold Rep; rfl) (r.append rz) fun H' e => e⟩
    · cases hg
  · cases hg

/-! ### sorted, of ints -/
def insI (n : Int) : List Int → List Int
  | [] => [n]
  | m :: ms => if n ≤ m then n :: m :: ms else m :: insI n ms
def sortI : List Int → List Int
  | [] => []
  | n :: ns => insI n (sortI ns)
theorem insI_perm (n : Int) : ∀ ms : List Int, (insI n ms).Perm (n :: ms)
  | [] => List.Perm.refl _
  | m :: ms => by
    unfold insI
    split
    · exact List.Perm.refl _
    · exact ((insI_perm n ms).cons m).trans (List.Perm.swap n m ms)
theorem sortI_perm : ∀ ns : List Int, (sortI ns).Perm ns
  | [] => List.Perm.refl _
  | n :: ns => (insI_perm n (sortI ns)).trans ((sortI_perm ns).cons n)
theorem insI_sorted {n : Int} : ∀ {ms : List Int}, ms.Pairwise (· ≤ ·) → (insI n ms).Pairwise (· ≤ ·)
  | [], _ => by simp [insI]
  | m :: ms, h => by
    unfold insI
    obtain ⟨h1, h2⟩ := List.pairwise_cons.mp h
    split
    · rename_i hn
      exact List.pairwise_cons.mpr ⟨fun x hx => by
        rcases List.mem_cons.mp hx with rfl | hx
        · exact hn
        · exact Int.le_trans hn (h1 x hx), h⟩
    · rename_i hn
      exact List.pairwise_cons.mpr ⟨fun x hx => by
        rcases List.mem_cons.mp ((insI_perm n ms).mem_iff.mp hx) with rfl | hx
        · omega
        · exact h1 x hx, insI_sorted h2⟩
theorem sortI_sorted : ∀ ns : List Int, (sortI ns).Pairwise (· ≤ ·)
  | [] => List.Pairwise.nil
  | n :: ns => insI_sorted (sortI_sorted ns)
theorem sorted_one : ∀ {as bs : List Int}, as.Perm bs → as.Pairwise (· ≤ ·) → bs.Pairwise (· ≤ ·) → as = bs
  | [], bs, p, _, _ => by rw [List.nil_perm.mp p]
  | a :: as, [], p, _, _ => by have := p.length_eq; simp at this
  | a :: as, b :: bs, p, h, h' => by
    obtain ⟨a1, a2⟩ := List.pairwise_cons.mp h
    obtain ⟨b1, b2⟩ := List.pairwise_cons.mp h'
    have e : a = b := by
      have x1 : b ≤ a := by
        rcases List.mem_cons.mp (p.mem_iff.mp (List.mem_cons_self)) with e | e
        · omega
        · exact b1 a e
      have x2 : a ≤ b := by
        rcases List.mem_cons.mp (p.mem_iff.mpr (List.mem_cons_self)) with e | e
        · omega
        · exact a1 b e
      omega
    subst e
    rw [sorted_one (List.Perm.cons_inv p) a2 b2]
def gSorted : List D → Option Out
  | [.node .lst ds] => (intsOf ds).map fun ns => .new .lst (intsD (sortI ns))
  | [.node .scr ds] => (intsOf ds).map fun ns => .new .lst (intsD (sortI ns))
  | _ => none
theorem reps_intsD {K : PySem.W.Frag} {M : Hp} : ∀ ns : List Int, Reps K M (ns.map V.int) (intsD ns)
  | [] => .nil
  | n :: ns => .cons (by unfold Rep; rfl) (reps_intsD ns)
theorem shSorted {K : PySem.W.Frag} : SH K (rSortedI K) gSorted := by
  intro M H xs ds o Q s r h q
  unfold gSorted at h
  split at h
  · rename_i ds
    obtain ⟨x, rfl, a, ys, rfl, ho, rs⟩ := r.one
    cases hd : intsOf ds with
    | none => rw [hd] at h; cases h
    | some ns =>
      rw [hd] at h
      cases h
      obtain rfl := intsOf_reps hd rs
      refine ⟨a, ns, rfl, .of ho, fun ns' p hp hs hH => ?_⟩
      have e : ns' = sortI ns := sorted_one (hp.trans (sortI_perm ns).symm) hs (sortI_sorted ns)
      subst e
      exact q.2 p _ hH (reps_intsD _)
  · rename_i ds
    obtain ⟨x, rfl, a, ys, rfl, ho, rs⟩ := r.one
    cases hd : intsOf ds with
    | none => rw [hd] at h; cases h
    | some ns =>
      rw [hd] at h
      cases h
      obtain rfl := intsOf_reps hd rs
      refine ⟨a, ns, rfl, ho, fun ns' p hp hs hH => ?_⟩
      have e : ns' = sortI ns := sorted_one (hp.trans (sortI_perm ns).symm) hs (sortI_sorted ns)
      subst e
      exact q.2 p _ hH (reps_intsD _)
  · cases h
section
variable {Γ : Gam} {Q : Cell → Gam → Prop} {xs : List D}
theorem vSorted {ns : List Int} (q : Q (.ow .lst (intsD (sortI ns))) Γ) : evG (gSorted [.node .lst (intsD ns)]) Γ Q := evG_lst (by unfold gSorted; dsimp only; rw [intsOf_ints]; rfl) q
theorem uExtend {es : List D} {Q : D → Tag → List D → Prop} (h : xs.length + es.length ≤ 16777216) (q : Q (.leaf .non) .lst (xs ++ es)) : evMu (gExtend .lst xs [.node .lst es]) Q := ⟨_, _, _, by unfold gExtend; dsimp only; rw [if_pos h], q⟩
end

/-! ### a, b, c = x, y, z -/
def kPar3 (i j l : Nat) (cs : List Cell) : GS := fun Γ1 => match cs with
  | [c, e, g] => if isSolid c && isSolid e && isSolid g then (match setC l g Γ1 with
    | some Γ2 => match setC j e Γ2 with
      | some Γ3 => match setC i c Γ3 with
        | some Γ4 => some (.nx Γ4)
        | none => none
      | none => none
    | none => none) else none
  | _ => none
def sPar3 (i j l : Nat) (L : AF) : GS := bindLS L (kPar3 i j l)
section
variable {X : Cx} {W : WX}
theorem ds_par3 {pos : Pos} (i j l : Nat) {x y z : Str} {a b c : Expr} {L : AF} {px py pz pt : Pos} {kt k2 pt2} (ha : DA X W [a, b, c] L) (hc : X.calm = true) (hN : X.N.Nodup) (hw : swappedStores [.Tuple [.Name x px, .Name y py, .Name z pz] kt pt] (.Tuple [a, b, c] k2 pt2) X.env = pure (some [x, y, z]))
    (hi : X.N[i]? = some x := by rfl) (hj : X.N[j]? = some y := by rfl) (hl : X.N[l]? = some z := by rfl) (hij : i ≠ j := by decide) (hil : i ≠ l := by decide) (hjl : j ≠ l := by decide)
    (hx : X.env.scope.names.lookup x = some .local := by rfl) (hy : X.env.scope.names.lookup y = some .local := by rfl) (hz : X.env.scope.names.lookup z = some .local := by rfl)
    (hs : swapsWithSole [.Tuple [.Name x px, .Name y py, .Name z pz] kt pt] (.Tuple [a, b, c] k2 pt2) pos.line X.env = pure false := by rfl) :
    DS X W (.Assign [.Tuple [.Name x px, .Name y py, .Name z pz] kt pt] (.Tuple [a, b, c] k2 pt2) pos) (sPar3 i j l L) := by
  refine PSimp (ps_par3 hc hN hi hj hl hij hil hjl hx hy hz ha hw hs) fun D σ H h => ?_
  refine runLS h fun f cs Γ1 vs H1 M1 o hlen G1 hk p => ?_
  unfold kPar3 at hk
  split at hk
  · rename_i c e g
    split at hk
    · rename_i hse
      rw [Bool.and_eq_true, Bool.and_eq_true] at hse
      obtain ⟨⟨sc, se⟩, sg⟩ := hse
      split at hk
      · rename_i Γ2 h2
        split at hk
        · rename_i Γ3 h3
          split at hk
          · rename_i Γ4 h4
            cases hk
            obtain ⟨u, v, w, rfl⟩ : ∃ u v w, vs = [u, v, w] := by
              match vs, hlen with
              | [u, v, w], _ => exact ⟨u, v, w, rfl⟩
            have G2 : Good X.K f M1 H1 [w, v, u] [g, e, c] σ Γ1 := G1
            have nb1 : NoBr [c] := fun d hd => by
              rw [List.mem_singleton] at hd
              rw [hd]
              exact (isSolid_of sc).nobr
            have nb2 : NoBr [e, c] := fun d hd => by
              rcases List.mem_cons.mp hd with rfl | hd
              · exact (isSolid_of se).nobr
              · exact nb1 d hd
            refine ⟨u, v, w, rfl, ?_⟩
            have G3 := (((G2.setS (isSolid_of sg) nb2 h2).setS (isSolid_of se) nb1 h3).setS (isSolid_of sc) NoBr.nil h4)
            have e1 : ((σ.set i (some u)).set j (some v)).set l (some w) = ((σ.set l (some w)).set j (some v)).set i (some u) := by
              rw [List.set_comm _ _ hij, List.set_comm _ _ hil, List.set_comm _ _ hjl]
            rw [e1]
            exact p _ H1 M1 G3
          · cases hk
        · cases hk
      · cases hk
    · cases hk
  · cases hk
end
section
variable {Γ : Gam} {X : Exc → Gam → Prop} {N : Gam → Prop} {R : Cell → Gam → Prop} {Bk Ct : Gam → Prop}
def evPr3 (cs : List Cell) (Q : Cell → Cell → Cell → Prop) : Prop := ∃ c e g, cs = [c, e, g] ∧ isSolid c = true ∧ isSolid e = true ∧ isSolid g = true ∧ Q c e g
theorem evPr3_mk {c e g : Cell} {Q : Cell → Cell → Cell → Prop} (h1 : isSolid c = true) (h2 : isSolid e = true) (h3 : isSolid g = true) (q : Q c e g) : evPr3 [c, e, g] Q := ⟨c, e, g, rfl, h1, h2, h3, q⟩
theorem evPar3 {i j l : Nat} {L : AF} (h : evA L Γ (fun cs Γ1 => evPr3 cs fun c e g => evSome (putN l g Γ1) fun Γ2 => evSome (putN j e Γ2) fun Γ3 => evSome (putN i c Γ3) N) X) : evS (sPar3 i j l L) Γ N R Bk Ct X :=
  evLS_bind (evA_mono h fun cs Γ1 ⟨c, e, g, e1, k1, k2, k3, Γ2, e2, Γ3, e3, Γ4, e4, q⟩ => ⟨.nx Γ4, by
    subst e1
    unfold kPar3
    dsimp only
    rw [k1, k2, k3, if_pos (by rfl), putN_set e2]
    dsimp only
    rw [putN_set e3]
    dsimp only
    rw [putN_set e4], q⟩)
end
theorem takes0 {X : Cx} : Takes X WF := fun _ _ ⟨_, _, _, _, _, _, _, _, _, _, _, _, _, _, _, w⟩ => w.2.elim
section
variable {X : Cx} {W : WX} {A B C : EF}
theorem chain_core {K : PySem.W.Frag} {r r' : R2} {g g' : D → D → Option Out} (hs : S2 K r g) (hs' : S2 K r' g') {σ : L2.St} {H : Hp} {Q : VK} (h : tE K W (eChain g g' A B C) σ H Q) : tChain r r' (tE K W A) (tE K W B) (tE K W C) σ H Q := by
  obtain ⟨f, M, τ, T, Γ, rr, Γ', G, hF, p⟩ := h
  refine run1 G hF p fun c1 Γ1 v H1 M1 G1 e1 => ?_
  refine run2 G1 e1 p fun c2 Γ2 v' H2 M2 G2 e2 => ?_
  split at e2
  · rename_i d d' hd hd'
    split at e2
    · rename_i hg
      refine hs M2 H2 v v' d d' _ _ G2.sub (G2.look (k := .inl 1) rfl hd) (G2.look (k := .inl 0) rfl hd') hg fun w hw => ?_
      unfold Rep at hw
      refine ⟨true, hw, iteT ?_⟩
      refine run3 G2 e2 p fun c3 Γ3 v3 H3 M3 G3 e3 => ?_
      split at e3
      · rename_i d2 d3 h2 h3
        obtain ⟨o, ho, hk, rfl, rfl⟩ := eOut_some e3
        exact hs' M3 H3 v' v3 d2 d3 o Q G3.sub (G3.look (k := .inl 1) rfl h2) (G3.look (k := .inl 0) rfl h3) ho (G3.pop.pop.pop.out (okNew_of hk) p)
      · cases e3
    · rename_i hg
      cases e2
      refine hs M2 H2 v v' d d' _ _ G2.sub (G2.look (k := .inl 1) rfl hd) (G2.look (k := .inl 0) rfl hd') hg fun w hw => ?_
      unfold Rep at hw
      exact ⟨false, hw, iteF (p _ H2 M2 (G2.pop.pop.pushSh (by unfold Rep; rfl)))⟩
    · cases e2
  · cases e2
/-- a < b < c, asked -/
theorem dt_chain {a b c : Expr} {pos : Pos} {op op' : CmpOp} {r r' : R2} {g g' : D → D → Option Out} (ho : OpR X (compareOp op) r) (ho' : OpR X (compareOp op') r') (hs : S2 X.K r g) (hs' : S2 X.K r' g') (ha : DE X W a A) (hb : DE X W b B) (hc : DE X W c C)
    (hm : lastMarks [op, op'] [b, c] = false := by with_unfolding_all rfl) : DT X W (.Compare a [op, op'] [b, c] pos) (tOf (eChain g g' A B C)) :=
  PTimp (pt_chain ho ho' ha hb hc hm) fun σ H Q h => chain_core hs hs' (ofB h)
end
section
variable {Γ : Gam} {Q : Cell → Gam → Prop}
theorem vIsNn (q : Q (.sh (.leaf (.bl true))) Γ) : evG (gIsN (.leaf .non) (.leaf .non)) Γ Q := vIsN q
theorem vIsNd {t : Tag} {ds : List D} (q : Q (.sh (.leaf (.bl false))) Γ) : evG (gIsN (.node t ds) (.leaf .non)) Γ Q := vIsN q
theorem vIsNi {i : Int} (q : Q (.sh (.leaf (.bl false))) Γ) : evG (gIsN (.leaf (.int i)) (.leaf .non)) Γ Q := vIsN q
theorem vIsNs {x : Str} (q : Q (.sh (.leaf (.bl false))) Γ) : evG (gIsN (.leaf (.str x)) (.leaf .non)) Γ Q := vIsN q
theorem vNotNn (q : Q (.sh (.leaf (.bl false))) Γ) : evG (gNotN (.leaf .non) (.leaf .non)) Γ Q := vNotN q
theorem vNotNd {t : Tag} {ds : List D} (q : Q (.sh (.leaf (.bl true))) Γ) : evG (gNotN (.node t ds) (.leaf .non)) Γ Q := vNotN q
theorem vNotNi {i : Int} (q : Q (.sh (.leaf (.bl true))) Γ) : evG (gNotN (.leaf (.int i)) (.leaf .non)) Γ Q := vNotN q
theorem vNotNs {x : Str} (q : Q (.sh (.leaf (.bl true))) Γ) : evG (gNotN (.leaf (.str x)) (.leaf .non)) Γ Q := vNotN q
end
end DL

set_option Elab.async false
set_option linter.all false
set_option maxRecDepth 100000
set_option maxHeartbeats 1000000
/-! a def that calls itself: its mirror at no depth asks for nothing -/
namespace DL
open PySem PySem.Spec PyProof.Rows L2
def mNone : MF := fun _ => none
theorem none_ok {P : Program} {w : World} {K : PySem.W.Frag} {mg : Str → Option Value} {base : Heap} {k : Nat} {f : Addr} {fd : FuncData} {ps : List Str} : FnG P w K mg base k f fd ps mNone :=
  ⟨fun A outer s H args us vs Q E _ _ _ _ h => by
    obtain ⟨_, f, M, T, r, T', _, e, _⟩ := h
    cases e⟩
end DL

set_option Elab.async false
set_option linter.all false
set_option maxRecDepth 100000
set_option maxHeartbeats 1000000
/-! own classes: a new instance, fields read and stored -/
namespace DL
open PySem PySem.Spec PyProof.Rows L2

/-! ### one more pending value in the middle; a pending object as a slot -/
def shiftIx (n : Nat) : Ix → Ix
  | .inl j => if j < n then .inl j else .inl (j + 1)
  | .inr i => .inr i
section
variable {K : PySem.W.Frag} {f : Frm} {M H M' H' : Hp} {τ : List V} {T : List Cell} {σ : L2.St} {Γ : Gam} {v : V} {c : Cell} {t : Tag} {ds : List D}
theorem ent_ins {l1 : List V} {c1 : List Cell} {i : Nat} (hl : l1.length = c1.length) : ∀ (k : Ix) (u : V) (e : Cell), ent (l1 ++ v :: τ) (c1 ++ .br i :: T) σ Γ k = some (u, e) → (u = v ∧ e = .br i) ∨ ∃ k', k = shiftIx l1.length k' ∧ ent (l1 ++ τ) (c1 ++ T) σ Γ k' = some (u, e)
  | .inr j, u, e, q => .inr ⟨.inr j, rfl, q⟩
  | .inl j, u, e, q => by
    obtain ⟨q1, q2⟩ := ent_temp.mp q
    rcases Nat.lt_trichotomy j l1.length with h | h | h
    · refine .inr ⟨.inl j, by show _ = if j < l1.length then _ else _; rw [if_pos h], ent_temp.mpr ⟨?_, ?_⟩⟩
      · rw [List.getElem?_append_left h] at q1 ⊢; exact q1
      · rw [List.getElem?_append_left (by omega)] at q2 ⊢; exact q2
    · rw [List.getElem?_append_right (by omega), show j - l1.length = 0 by omega] at q1
      rw [List.getElem?_append_right (by omega), show j - c1.length = 0 by omega] at q2
      simp at q1 q2
      exact .inl ⟨q1.symm, q2.symm⟩
    · refine .inr ⟨.inl (j - 1), by show _ = if j - 1 < l1.length then _ else Sum.inl (j - 1 + 1); rw [if_neg (by omega), show j - 1 + 1 = j by omega], ent_temp.mpr ⟨?_, ?_⟩⟩
      · rw [List.getElem?_append_right (by omega), show j - l1.length = (j - 1 - l1.length) + 1 by omega, List.getElem?_cons_succ] at q1
        rw [List.getElem?_append_right (by omega)]; exact q1
      · rw [List.getElem?_append_right (by omega), show j - c1.length = (j - 1 - c1.length) + 1 by omega, List.getElem?_cons_succ] at q2
        rw [List.getElem?_append_right (by omega)]; exact q2
theorem Good.insBr {l1 : List V} {c1 : List Cell} {i : Nat} (G : Good K f M H (l1 ++ τ) (c1 ++ T) σ Γ) (hl : l1.length = c1.length) (hs : σ[i]? = some (some v)) : Good K f M H (l1 ++ v :: τ) (c1 ++ .br i :: T) σ Γ where
  bys := G.bys
  sub := G.sub
  m0 := G.m0
  new := G.new
  tl := by have := G.tl; simp only [List.length_append, List.length_cons] at this ⊢; omega
  sl := G.sl
  has := G.has
  ok := fun k u e q => by
    rcases ent_ins hl k u e q with ⟨rfl, rfl⟩ | ⟨k', _, q'⟩
    · exact hs
    · exact G.ok k' u e q'
  inj := fun k k' u e u' e' a q q' r r' => by
    rcases ent_ins hl k u e q with ⟨rfl, rfl⟩ | ⟨j, rfl, q1⟩
    · rw [own_br] at r; cases r
    · rcases ent_ins hl k' u' e' q' with ⟨rfl, rfl⟩ | ⟨j', rfl, q1'⟩
      · rw [own_br] at r'; cases r'
      · rw [G.inj j j' u e u' e' a q1 q1' r r']
  nbr := G.nbr
  args := G.args
theorem ent_toSlot (hl : σ.length = Γ.length) : ∀ (k : Ix) (u : V) (e : Cell), ent τ T (σ ++ [some v]) (Γ ++ [some c]) k = some (u, e) → (k = .inr σ.length ∧ u = v ∧ e = c) ∨ (∃ j, k = .inl j ∧ ent (v :: τ) (c :: T) σ Γ (.inl (j + 1)) = some (u, e)) ∨ ∃ i, k = .inr i ∧ i < σ.length ∧ ent (v :: τ) (c :: T) σ Γ (.inr i) = some (u, e)
  | .inl j, u, e, q => .inr (.inl ⟨j, rfl, q⟩)
  | .inr i, u, e, q => by
    obtain ⟨q1, q2⟩ := ent_slot.mp q
    rcases Nat.lt_trichotomy i σ.length with h | h | h
    · rw [List.getElem?_append_left h] at q1
      rw [List.getElem?_append_left (by omega)] at q2
      exact .inr (.inr ⟨i, rfl, h, ent_slot.mpr ⟨q1, q2⟩⟩)
    · rw [List.getElem?_append_right (by omega), show i - σ.length = 0 by omega] at q1
      rw [List.getElem?_append_right (by omega), show i - Γ.length = 0 by omega] at q2
      simp at q1 q2
      exact .inl ⟨by rw [h], q1.symm, q2.symm⟩
    · have := lt_of_get q1
      simp at this
      omega
theorem COk.more {u : V} {e : Cell} {z : Option V} (h : COk K f M H σ u e) : COk K f M H (σ ++ [z]) u e := by
  cases e with
  | sh d => exact h
  | ow t ds => exact h
  | rf t ds => exact h
  | br i =>
    have h' : σ[i]? = some (some u) := h
    show (σ ++ [z])[i]? = some (some u)
    rw [List.getElem?_append_left (lt_of_get h')]
    exact h'
theorem Good.toSlot (G : Good K f M H (v :: τ) (.ow t ds :: T) σ Γ) : Good K f M H τ T (σ ++ [some v]) (Γ ++ [some (.ow t ds)]) where
  bys := G.bys
  sub := G.sub
  m0 := G.m0
  new := G.new
  tl := by have := G.tl; simp only [List.length_cons] at this; omega
  sl := by rw [List.length_append, List.length_append, G.sl]; rfl
  has := fun i c e => by
    have hl := G.sl
    by_cases h : i < Γ.length
    · rw [List.getElem?_append_left h] at e
      obtain ⟨u, hu⟩ := G.has i c e
      exact ⟨u, by rw [List.getElem?_append_left (by omega)]; exact hu⟩
    · have := lt_of_get e
      simp at this
      refine ⟨v, ?_⟩
      rw [List.getElem?_append_right (by omega), show i - σ.length = 0 by omega]
      rfl
  ok := fun k u e q => by
    rcases ent_toSlot G.sl k u e q with ⟨_, rfl, rfl⟩ | ⟨j, _, q⟩ | ⟨i, _, _, q⟩
    · exact (G.ok (.inl 0) _ _ rfl).more
    · exact (G.ok _ u e q).more
    · exact (G.ok _ u e q).more
  inj := fun k k' u e u' e' a q q' r r' => by
    rcases ent_toSlot G.sl k u e q with ⟨k1, u1, e1⟩ | ⟨j, k1, p⟩ | ⟨i, k1, _, p⟩
    · rcases ent_toSlot G.sl k' u' e' q' with ⟨k2, u2, e2⟩ | ⟨j', k2, p'⟩ | ⟨i', k2, _, p'⟩
      · rw [k1, k2]
      · have z := G.inj (.inl 0) _ v (.ow t ds) u' e' a rfl p' (by rw [← u1, ← e1]; exact r) r'; cases z
      · have z := G.inj (.inl 0) _ v (.ow t ds) u' e' a rfl p' (by rw [← u1, ← e1]; exact r) r'; cases z
    · rcases ent_toSlot G.sl k' u' e' q' with ⟨k2, u2, e2⟩ | ⟨j', k2, p'⟩ | ⟨i', k2, _, p'⟩
      · have z := G.inj (.inl 0) _ v (.ow t ds) u e a rfl p (by rw [← u2, ← e2]; exact r') r; cases z
      · have z := G.inj _ _ u e u' e' a p p' r r'; rw [k1, k2]; cases z; rfl
      · have z := G.inj _ _ u e u' e' a p p' r r'; cases z
    · rcases ent_toSlot G.sl k' u' e' q' with ⟨k2, u2, e2⟩ | ⟨j', k2, p'⟩ | ⟨i', k2, _, p'⟩
      · have z := G.inj (.inl 0) _ v (.ow t ds) u e a rfl p (by rw [← u2, ← e2]; exact r') r; cases z
      · have z := G.inj _ _ u e u' e' a p p' r r'; cases z
      · have z := G.inj _ _ u e u' e' a p p' r r'; rw [k1, k2]; cases z; rfl
  nbr := fun i j e => by
    by_cases h : i < Γ.length
    · rw [List.getElem?_append_left h] at e; exact G.nbr i j e
    · have := lt_of_get e
      simp at this
      rw [List.getElem?_append_right (by omega), show i - Γ.length = 0 by omega] at e
      cases e
  args := fun i t' ds' e => by
    have hl := G.sl
    by_cases h : i < Γ.length
    · rw [List.getElem?_append_left h] at e
      rw [List.getElem?_append_left (by omega)]
      exact G.args i t' ds' e
    · have := lt_of_get e
      simp at this
      rw [List.getElem?_append_right (by omega), show i - Γ.length = 0 by omega] at e
      cases e
theorem Good.ofSlot (G : Good K f M H τ T (σ ++ [some v]) (Γ ++ [some (.ow t ds)])) (hl : σ.length = Γ.length) (hbr : ∀ j u i, ent τ T σ Γ (.inl j) = some (u, .br i) → σ[i]? = some (some u)) : Good K f M H (v :: τ) (.ow t ds :: T) σ Γ := by
  have up : ∀ i u e, ent (v :: τ) (.ow t ds :: T) σ Γ (.inr i) = some (u, e) → ent τ T (σ ++ [some v]) (Γ ++ [some (.ow t ds)]) (.inr i) = some (u, e) := fun i u e q => by
    obtain ⟨q1, q2⟩ := ent_slot.mp q
    have := lt_of_get q1
    exact ent_slot.mpr ⟨by rw [List.getElem?_append_left this]; exact q1, by rw [List.getElem?_append_left (by omega)]; exact q2⟩
  have last : ent τ T (σ ++ [some v]) (Γ ++ [some (.ow t ds)]) (.inr σ.length) = some (v, .ow t ds) := ent_slot.mpr ⟨by rw [List.getElem?_append_right (Nat.le_refl _), Nat.sub_self]; rfl, by rw [List.getElem?_append_right (by omega), show σ.length - Γ.length = 0 by omega]; rfl⟩
  refine ⟨G.bys, G.sub, G.m0, G.new, by rw [List.length_cons, List.length_cons, G.tl], hl, fun i c e => ?_, fun k u e q => ?_, fun k k' u e u' e' a q q' r r' => ?_, fun i j e => ?_, fun i t' ds' e => ?_⟩
  · have hi := lt_of_get e
    obtain ⟨u, hu⟩ := G.has i c (by rw [List.getElem?_append_left hi]; exact e)
    rw [List.getElem?_append_left (by omega)] at hu
    exact ⟨u, hu⟩
  · match k with
    | .inl 0 => cases q; exact G.ok _ _ _ last
    | .inl (j + 1) =>
      have h0 := G.ok (.inl j) u e q
      cases e with
      | sh d => exact h0
      | ow t ds => exact h0
      | rf t ds => exact h0
      | br i => exact hbr j u i q
    | .inr i =>
      have h0 := G.ok (.inr i) u e (up i u e q)
      cases e with
      | sh d => exact h0
      | ow t ds => exact h0
      | rf t ds => exact h0
      | br j => exact (G.nbr i j (ent_slot.mp (up i u _ q)).2).elim
  · match k, k' with
    | .inl 0, .inl 0 => rfl
    | .inl 0, .inl (j + 1) => cases q; have z := G.inj _ (.inl j) _ _ u' e' a last q' r r'; cases z
    | .inl 0, .inr i =>
      cases q
      have z := G.inj _ (.inr i) _ _ u' e' a last (up i u' e' q') r r'
      have := lt_of_get (ent_slot.mp q').1
      cases z
      omega
    | .inl (j + 1), .inl 0 => cases q'; have z := G.inj _ (.inl j) _ _ u e a last q r' r; cases z
    | .inr i, .inl 0 =>
      cases q'
      have z := G.inj _ (.inr i) _ _ u e a last (up i u e q) r' r
      have := lt_of_get (ent_slot.mp q).1
      cases z
      omega
    | .inl (j + 1), .inl (j' + 1) => have z := G.inj (.inl j) (.inl j') u e u' e' a q q' r r'; cases z; rfl
    | .inl (j + 1), .inr i => have z := G.inj (.inl j) (.inr i) u e u' e' a q (up i u' e' q') r r'; cases z
    | .inr i, .inl (j + 1) => have z := G.inj (.inr i) (.inl j) u e u' e' a (up i u e q) q' r r'; cases z
    | .inr i, .inr i' => have z := G.inj (.inr i) (.inr i') u e u' e' a (up i u e q) (up i' u' e' q') r r'; cases z; rfl
  · have hi := lt_of_get e
    exact G.nbr i j (by rw [List.getElem?_append_left hi]; exact e)
  · have hi := lt_of_get e
    have := G.args i t' ds' (by rw [List.getElem?_append_left hi]; exact e)
    rw [List.getElem?_append_left (by omega)] at this
    exact this
theorem argsC_more {z : Option Cell} : ∀ {cs T : List Cell} {b : Option (Nat × Nat)}, argsC Γ cs = some (T, b) → argsC (Γ ++ [z]) cs = some (T, b)
  | [], T, b, h => h
  | .sh d :: cs, T, b, h => by
    unfold argsC at h ⊢
    split at h
    · rename_i T1 b1 e
      rw [argsC_more e]
      exact h
    · cases h
  | .br i :: cs, T, b, h => by
    unfold argsC at h ⊢
    split at h
    · rename_i T1 b1 e
      rw [argsC_more e]
      dsimp only at h ⊢
      have hi : i < Γ.length := by
        split at h
        · rename_i e1; exact lt_of_get e1
        · rename_i e1; exact lt_of_get e1
        · rename_i e1; exact lt_of_get e1
        · cases h
      rw [List.getElem?_append_left hi]
      exact h
    · cases h
  | .ow _ _ :: _, _, _, h => by cases h
  | .rf _ _ :: _, _, _, h => by cases h
/-- a new instance: the state of its __init__, and the way back -/
theorem Good.make {vs : List V} {cs T0 T1 : List Cell} {C x dx : Addr} (G : Good K f M H (vs.reverse ++ τ) (cs.reverse ++ T0) σ Γ) (hl : vs.length = cs.length) (h : argsC Γ cs = some (T1, none)) {dvs : List V} {dfl : List D} (hd : Reps K M dvs dfl) (hx : H x = none) (hdx : H dx = none) (hne : dx ≠ x) :
    ∃ fc, Good K fc M (upd (upd H dx (.own x)) x (.ins C dx [])) (.ref x :: (vs ++ dvs)) (.ow (.ins C []) [] :: (T1 ++ dfl.map .sh)) [] [] ∧ ∀ M' H' T' t ds, 
      (Good K fc M' H' (.ref x :: (vs ++ dvs)) (.ow t ds :: T') [] [] → Good K f M' H' (.ref x :: τ) (.ow t ds :: T0) σ Γ) ∧ ∀ v c, Solid c → Good K fc M' H' (v :: .ref x :: (vs ++ dvs)) (c :: .ow t ds :: T') [] [] → Good K f M' H' (.ref x :: τ) (.ow t ds :: T0) σ Γ := by
  have hlen : vs.reverse.length = cs.reverse.length := by rw [List.length_reverse, List.length_reverse, hl]
  have hx1 : upd H dx (.own x) x = none := by rw [upd_ne hne.symm]; exact hx
  have fresh : ∀ k v c, ent (vs.reverse ++ τ) (cs.reverse ++ T0) σ Γ k = some (v, c) → own v c ≠ some dx := fun k v c e q => by
    obtain ⟨o, z⟩ := G.ownedSome e q
    rw [hdx] at z; cases z
  have G1 := (G.lay (G.notM hdx) (G.notB hdx) fresh (.own x)).alloc (p := x) (t := .ins C []) (xs := []) (ds := []) (o := .ins C dx []) hx1 ⟨rfl, dx, by rw [upd_same]; rfl⟩ .nil
  have G2 := G1.toSlot
  have G3 := G2.insBr (i := σ.length) (v := .ref x) hlen (by rw [List.getElem?_append_right (Nat.le_refl _), Nat.sub_self]; rfl)
  have sl := G.sl
  have hA : argsC (Γ ++ [some (.ow (.ins C []) [])]) (.br σ.length :: cs) = some (.ow (.ins C []) [] :: T1, some (σ.length, 0)) := by
    unfold argsC
    rw [argsC_more h]
    dsimp only
    rw [List.getElem?_append_right (by omega), show σ.length - Γ.length = 0 by omega]
    rfl
  have G4 : Good K f M (upd (upd H dx (.own x)) x (.ins C dx [])) ((V.ref x :: vs).reverse ++ τ) ((Cell.br σ.length :: cs).reverse ++ T0) (σ ++ [some (.ref x)]) (Γ ++ [some (.ow (.ins C []) [])]) := by
    rw [List.reverse_cons, List.reverse_cons, List.append_assoc, List.append_assoc]
    exact G3
  obtain ⟨fc, gc, back⟩ := G4.call (by rw [List.length_cons, List.length_cons, hl]) hA hd
  have G0 := G.drop hlen
  have hbr : ∀ j u i, ent τ T0 σ Γ (.inl j) = some (u, .br i) → σ[i]? = some (some u) := fun j u i q => G0.ok _ _ _ q
  refine ⟨fc, gc, fun M' H' T' t ds => ?_⟩
  have hp : putB (Γ ++ [some (.ow (.ins C []) [])]) (some (σ.length, 0)) (.ow t ds :: T') = some (Γ ++ [some (.ow t ds)]) := by
    unfold putB
    dsimp only [List.getElem?_cons_zero]
    rw [List.getElem?_append_right (by omega), show σ.length - Γ.length = 0 by omega]
    dsimp only [List.getElem?_cons_zero]
    rw [List.set_append_right _ _ (by omega), show σ.length - Γ.length = 0 by omega]
    rfl
  obtain ⟨b1, b2⟩ := back M' H' _ _ hp
  exact ⟨fun g => (b1 g).ofSlot sl hbr, fun v c sc g => (b2 v c sc g).pop.ofSlot sl hbr⟩
end
/-- C(..): the instance made, then __init__ -/
def eMake (C : Addr) (n : Nat) (m : MF) (dfl : List D) (L : AF) : EF := bindL L fun cs Γ => if cs.length + dfl.length + 1 = n then (match argsC Γ cs with
  | some (T, none) => (match m (.ow (.ins C []) [] :: (T ++ dfl.map .sh)) with
    | some (.val (.sh (.leaf .non)), .ow t ds :: _) => some (.val (.ow t ds), Γ)
    | some (.exc x, .ow _ _ :: _) => some (.exc x, Γ)
    | _ => none)
  | _ => none) else none
section
variable {X : Cx} {W : WX} {k : Nat} {f C : Addr} {fd : FuncData} {ps : List Str} {m : MF} {dvs : List V} {ds : List Value} {dfl : List D} {x nm : Str} {p pos apos : Pos} {e o : Expr} {es : List Expr} {L : AF} {A : EF}
theorem run_makeG {pins : List (Addr × Obj)} {σ : L2.St} {H : Hp} {s : Shared} {Q : VK} {us : List Value} {vs : List V} (N : Mk X.K C f) (F : FnG X.prog X.w X.K X.mg X.base k f fd ps m) (hr : RoomG (k + 1) X.A) (hb : Binds X.K fd ps ds) (hd : Vals dvs ds) (tk : Takes X W)
    (I : Inv X pins σ H s) (r : Vals vs us)
    (h : ∀ x dx, H x = none → H dx = none → dx ≠ x → spM X.K ps.length m (.ref x :: (vs ++ dvs)) (upd (upd H dx (.own x)) x (.ins C dx [])) (fun v H2 => v = .non ∧ Q (.ref x) H2) (WE W σ)) :
    wpAny (model X.prog X.w) X.A (call (.ref C) us) (EP X pins σ Q) X.xe s := by
  have hq := h (s.heap.objs.size + 1) s.heap.objs.size (I.hok.fresh (Nat.le_succ _)) (I.hok.fresh (Nat.le_refl _)) (Nat.ne_of_lt (Nat.lt_succ_self _))
  have I2 := Inv.made (C := C) I
  have r2 : Vals (V.ref (s.heap.objs.size + 1) :: (vs ++ dvs)) (Value.ref (s.heap.objs.size + 1) :: (us ++ ds)) := .cons rfl (r.append hd)
  have hl : (Value.ref (s.heap.objs.size + 1) :: us ++ ds).length = ps.length := by
    have e := r2.length
    rw [hq.1] at e
    exact e.symm
  refine wpAny_call (make_map (f := f) I.kIn N.makes N.init (beq_iff_eq.mp N.fn) (codeAny_mono (F.run _ X.stack _ _ ⟨Value.ref (s.heap.objs.size + 1) :: us, []⟩ (Value.ref (s.heap.objs.size + 1) :: (us ++ ds)) _ _ (WE W σ) ⟨hr.room.make C us [], hr.gd⟩
    (I2.env0.make C us []) (hb _ (Value.ref (s.heap.objs.size + 1) :: us) I2.kIn hl) r2 hq) fun r s' hq' => ?_))
  cases r with
  | error e => exact passAt tk σ pins _ _ e s' I2 hq'
  | ok fl =>
    cases fl with
    | ret u =>
      obtain ⟨v, H', I3, rv, ev, q3⟩ := I2.after hq'
      subst ev
      exact ⟨rv, ⟨V.ref (s.heap.objs.size + 1), H', I3, rfl, q3⟩⟩
    | next => exact False.elim hq'
    | brk => exact False.elim hq'
    | cont => exact False.elim hq'
theorem make_core {σ : L2.St} {H : Hp} {Q : VK} {f0 : Frm} {M : Hp} {τ : List V} {T0 : List Cell} {Γ Γ' : Gam} {r : Res} {cs : List Cell} {vs : List V} {n : Nat} (G : Good X.K f0 M H (vs.reverse ++ τ) (cs.reverse ++ T0) σ Γ) (hl : vs.length = cs.length) (p : PostE X.K W f0 τ T0 σ Q r Γ') (hd : Reps X.K M dvs dfl)
    (e : (if cs.length + dfl.length + 1 = n then (match argsC Γ cs with
      | some (T, none) => (match m (.ow (.ins C []) [] :: (T ++ dfl.map .sh)) with
        | some (.val (.sh (.leaf .non)), .ow t ds :: _) => some (Res.val (.ow t ds), Γ)
        | some (.exc x, .ow _ _ :: _) => some (.exc x, Γ)
        | _ => none)
      | _ => none) else none) = some (r, Γ')) (x dx : Addr) (hx : H x = none) (hdx : H dx = none) (hne : dx ≠ x) : spM X.K n m (.ref x :: (vs ++ dvs)) (upd (upd H dx (.own x)) x (.ins C dx [])) (fun v H2 => v = .non ∧ Q (.ref x) H2) (WE W σ) := by
  split at e
  · rename_i hn
    refine ⟨by rw [List.length_cons, List.length_append, hl, hd.length]; exact hn, ?_⟩
    split at e
    · rename_i T hT
      obtain ⟨fc, gc, back⟩ := G.make (C := C) hl hT hd hx hdx hne
      split at e
      · rename_i t ds T' hm
        cases e
        refine ⟨fc, M, _, _, _, gc, hm, trivial, fun v H' M' g' => ?_⟩
        have hv : Rep X.K M' v (.leaf .non) := g'.ok (.inl 0) v _ rfl
        unfold Rep at hv
        exact ⟨hv, p _ H' M' ((back M' H' T' t ds).2 v (.sh (.leaf .non)) trivial g')⟩
      · rename_i x1 t ds T' hm
        cases e
        exact ⟨fc, M, _, _, _, gc, hm, fun d H' M' g' hx => p d H' M' ((back M' H' T' t ds).1 g').pop hx⟩
      · cases e
    · cases e
  · cases e
theorem de_make (N : Mk X.K C f) (F : FnG X.prog X.w X.K X.mg X.base k f fd ps m) (hr : RoomG (k + 1) X.A) (tk : Takes X W) (hm : X.mg x = some (.ref C)) (hb : Binds X.K fd ps ds) (hd : Vals dvs ds) (hdf : Reps X.K (fun _ => none) dvs dfl)
    (ha : DA X W (e :: es) L) (hg : Gl X x := by rfl) (hdb : (x == ("__debug__" : Str)) = false := by decide) (he : starEach (e :: es) X.env = (false, eval e X.env) :: starEach es X.env := by rfl) (hpl : (backTo pos (starEach es X.env)).any (·.1) = false := by rfl) :
    DE X W (.Call (.Name x p) (e :: es) [] pos) (eMake C ps.length m dfl L) := by
  refine ⟨fun pins s σ H Q I h => ?_⟩
  obtain ⟨f0, M, τ, T, Γ, r, Γ', G, hF, post⟩ := h
  apply wpAny_Call_Name_kw
  refine ld_glob I hg hm ?_ hdb
  have asked : (tL X.K W L) σ H (fun vs H1 => ∀ x dx, H1 x = none → H1 dx = none → dx ≠ x → spM X.K ps.length m (.ref x :: (vs ++ dvs)) (upd (upd H1 dx (.own x)) x (.ins C dx [])) (fun v H2 => v = .non ∧ Q (.ref x) H2) (WE W σ)) :=
    runL G hF post fun cs Γ1 vs H1 M1 hl G1 e => make_core G1 hl post (Reps.mono (fun _ _ q => by cases q) _ _ hdf) e
  refine PySem.W.callWith_K (h₀ := X.base) I.ok.mod.kin N.kp ?_ he hpl
  refine thn (ha.run pos pins s σ H _ I asked) ?_
  rintro us s1 ⟨vs, H1, I1, rr, q⟩
  exact ⟨I1.kIn, run_makeG N F hr hb hd tk I1 rr q⟩
theorem de_make0 (N : Mk X.K C f) (F : FnG X.prog X.w X.K X.mg X.base k f fd ps m) (hr : RoomG (k + 1) X.A) (tk : Takes X W) (hm : X.mg x = some (.ref C)) (hb : Binds X.K fd ps ds) (hd : Vals dvs ds) (hdf : Reps X.K (fun _ => none) dvs dfl)
    (hg : Gl X x := by rfl) (hdb : (x == ("__debug__" : Str)) = false := by decide) : DE X W (.Call (.Name x p) [] [] pos) (eMake C ps.length m dfl aNil) := by
  refine ⟨fun pins s σ H Q I h => ?_⟩
  obtain ⟨f0, M, τ, T, Γ, r, Γ', G, hF, post⟩ := h
  apply wpAny_Call_Name_kw
  refine ld_glob I hg hm ?_ hdb
  have asked := make_core (C := C) (vs := []) (cs := []) (τ := τ) (T0 := T) (n := ps.length) G rfl post (Reps.mono (fun _ _ q => by cases q) _ _ hdf) hF
  exact PySem.W.callWith_K0 I.kIn N.kp (run_makeG (us := []) (vs := []) N F hr hb hd tk I .nil asked)
end

/-! ### fields -/
def fldD (nm : Str) : List Str → List D → Option D
  | n :: ns, d :: ds => if nm == n then some d else fldD nm ns ds
  | _, _ => none
theorem fld_of {K : PySem.W.Frag} {M : Hp} {nm : Str} : ∀ {ns : List Str} {xs : List V} {ds : List D} {d : D}, Reps K M xs ds → fldD nm ns ds = some d → ∃ v, (ns.zip xs).lookup nm = some v ∧ Rep K M v d
  | [], xs, ds, d, r, h => by unfold fldD at h; cases h
  | n :: ns, xs, [], d, r, h => by unfold fldD at h; cases h
  | n :: ns, xs, e :: ds, d, r, h => by
    obtain ⟨x, ys, rfl, r1, r2⟩ := r.cons_of
    unfold fldD at h
    rw [List.zip_cons_cons, List.lookup_cons]
    split at h
    · rename_i hq
      cases h
      exact ⟨x, by rw [hq], r1⟩
    · rename_i hq
      obtain ⟨v, e1, e2⟩ := fld_of r2 h
      exact ⟨v, by simp only [Bool.not_eq_true] at hq; rw [hq]; exact e1, e2⟩
def gFld (C : Addr) (nm : Str) : D → Option Out
  | .node (.ins C' ns) ds => if C' = C then (match fldD nm ns ds with
    | some d => some (.old d)
    | none => none) else none
  | _ => none
theorem s1Fld {K : PySem.W.Frag} {C : Addr} {nm : Str} (c : Cls K C) (n : NoAttr K C nm) : S1 K (fun x H1 Q => ∃ a C dx fs v, x = .ref a ∧ H1 a = some (.ins C dx fs) ∧ Cls K C ∧ NoAttr K C nm ∧ fs.lookup nm = some v ∧ Q v H1) (gFld C nm) := by
  intro M H x d o Q s rx hg q
  unfold gFld at hg
  split at hg
  · rename_i C' ns ds
    split at hg
    · rename_i hC
      subst hC
      split at hg
      · rename_i e he
        cases hg
        obtain ⟨a, xs, rfl, ⟨_, dx, ho⟩, rs⟩ := rx
        obtain ⟨v, h1, h2⟩ := fld_of rs he
        exact ⟨a, _, dx, _, v, rfl, ho, c, n, h1, q v h2⟩
      · cases hg
    · cases hg
  · cases hg
section
variable {X : Cx} {W : WX} {e : Expr} {nm : Str} {pos pos' : Pos} {A : EF} {C : Addr}
theorem de_fld (c : Cls X.K C) (n : NoAttr X.K C nm) (he : DE X W e A) (hb : attributeBase e nm X.env (eval e X.env) = eval e X.env := by rfl) : DE X W (.Attribute e nm pos) (eUn (gFld C nm) A) :=
  PEimp (pe_fld he hb) fun σ H Q h => un_core (s1Fld c n) h
end
def putD (nm : Str) (d : D) : List Str → List D → List Str × List D
  | n :: ns, e :: ds => if n = nm then (n :: ns, d :: ds) else let p := putD nm d ns ds; (n :: p.1, e :: p.2)
  | _, _ => ([nm], [d])
theorem putD_of {K : PySem.W.Frag} {M : Hp} {nm : Str} {v : V} {d : D} (rv : Rep K M v d) : ∀ {ns : List Str} {xs : List V} {ds : List D}, ns.length = xs.length → Reps K M xs ds → ∃ xs', putF nm v (ns.zip xs) = (putD nm d ns ds).1.zip xs' ∧ (putD nm d ns ds).1.length = xs'.length ∧ Reps K M xs' (putD nm d ns ds).2
  | [], xs, ds, hl, r => by
    cases xs with
    | nil =>
      cases ds with
      | nil => exact ⟨[v], rfl, rfl, .cons rv .nil⟩
      | cons e ds => unfold Reps at r; exact r.elim
    | cons x xs => cases hl
  | n :: ns, xs, ds, hl, r => by
    cases xs with
    | nil => cases hl
    | cons x xs =>
      cases ds with
      | nil => unfold Reps at r; exact r.elim
      | cons e ds =>
        obtain ⟨r1, r2⟩ := r.of_cons
        rw [List.zip_cons_cons]
        unfold putF putD
        by_cases h : n = nm
        · rw [if_pos h, if_pos h]
          exact ⟨v :: xs, rfl, hl, .cons rv r2⟩
        · rw [if_neg h, if_neg h]
          obtain ⟨xs', e1, e2, e3⟩ := putD_of rv (ns := ns) (by simpa using hl) r2
          exact ⟨x :: xs', by rw [e1]; rfl, by rw [List.length_cons, List.length_cons, e2], .cons r1 e3⟩
/-- o.f = e, o the object of slot i -/
def sFld (i : Nat) (C : Addr) (nm : Str) (A : EF) : GS := bindS (eKeep A) fun c Γ => match c, slotO Γ i with
  | .sh d, some (.ins C' ns, ds) => if C' = C ∧ ns.length < 1000 then (match slotP Γ i (.ins C (putD nm d ns ds).1) (putD nm d ns ds).2 with
    | some Γ1 => some (.nx Γ1)
    | none => none) else none
  | _, _ => none
section
variable {X : Cx} {W : WX} {value : Expr} {x nm : Str} {opos pos pos' : Pos} {A : EF} {C : Addr}
theorem ds_fld (i : Nat) (c : Cls X.K C) (n : NoAttr X.K C nm) (hv : DE X W value A) (hN : X.N[i]? = some x := by rfl)
    (hvis : Vis X.env.scope x := by first | exact Or.inl rfl | exact Or.inr (Or.inl rfl) | exact Or.inr (Or.inr rfl)) (hd : (x == ("__debug__" : Str)) = false := by decide) (hcd : (x == ("__classdict__" : Str)) = false := by decide)
    (hs : swapsWith value (some (.Attribute (.Name x opos) nm pos')) pos.line X.env = pure false := by rfl) :
    DS X W (.Assign [.Attribute (.Name x opos) nm pos'] value pos) (sFld i C nm A) := by
  refine PSimp (ps_fld (pe_var hN hvis hd hcd) (de_keep hv) hs) fun D σ H h => ?_
  refine runS h fun f c1 Γ1 v H1 M1 o G1 hk p => ?_
  split at hk
  · rename_i d C' ns ds hso
    split at hk
    · rename_i hC
      obtain ⟨rfl, hl⟩ := hC
      split at hk
      · rename_i Γ2 hp
        cases hk
        have rv : Rep X.K M1 v d := G1.ok (.inl 0) v _ rfl
        have G2 := G1.pop
        obtain ⟨a, xs, hσ, ⟨hln, dx, ho⟩, rs, m, b⟩ := G2.slotO hso
        obtain ⟨xs', e1, e2, e3⟩ := putD_of (nm := nm) rv hln rs
        refine ⟨.ref a, hσ, a, _, dx, _, rfl, ho, c, n, ?_, ?_⟩
        · rw [List.length_zip, hln, Nat.min_self, ← hln]; exact hl
        · rw [e1]
          exact p _ _ M1 (G2.put (o := .ins _ dx ((putD nm d ns ds).1.zip xs')) (t' := .ins _ (putD nm d ns ds).1) (xs' := xs') hso hσ ⟨e2, dx, by rw [upd_same]⟩ e3 hp)
      · cases hk
    · cases hk
  · cases hk
end

/-! ### run -/
section
variable {Γ : Gam} {X : Exc → Gam → Prop} {Q : Cell → Gam → Prop} {A B : EF} {N : Gam → Prop} {R : Cell → Gam → Prop} {Bk Ct : Gam → Prop}
def evOw (c : Cell) (T' : List Cell) (Q : Tag → List D → Prop) : Prop := ∃ t ds T2, c = .sh (.leaf .non) ∧ T' = .ow t ds :: T2 ∧ Q t ds
theorem evOw_mk {t : Tag} {ds : List D} {T2 : List Cell} {Q : Tag → List D → Prop} (q : Q t ds) : evOw (.sh (.leaf .non)) (.ow t ds :: T2) Q := ⟨t, ds, T2, rfl, rfl, q⟩
def evNoB (x : Option (List Cell × Option (Nat × Nat))) (Q : List Cell → Prop) : Prop := ∃ T, x = some (T, none) ∧ Q T
theorem evNoB_mk {x : Option (List Cell × Option (Nat × Nat))} {Q : List Cell → Prop} (T : List Cell) (h : x = some (T, none)) (q : Q T) : evNoB x Q := ⟨T, h, q⟩
theorem evMake {C : Addr} {n : Nat} {m : MF} {L : AF}
    (h : evA L Γ (fun cs Γ1 => cs.length + 0 + 1 = n ∧ evNoB (argsC Γ1 cs) fun T => evM m (.ow (.ins C []) [] :: T) (fun c T' => evOw c T' fun t ds => Q (.ow t ds) Γ1) (fun x T' => ∃ t ds T2, T' = .ow t ds :: T2 ∧ X x Γ1)) X) : evE (eMake C n m [] L) Γ Q X := by
  refine evL_bind (evA_mono h fun cs Γ1 ⟨hn, T, hT, r, T', hm, q⟩ => ?_)
  cases r with
  | val c =>
    obtain ⟨t, ds, T2, rfl, rfl, q⟩ := q
    refine ⟨.val (.ow t ds), Γ1, ?_, q⟩
    (try dsimp only)
    rw [if_pos (show cs.length + ([] : List D).length + 1 = n from hn), hT]
    dsimp only
    rw [List.map_nil, List.append_nil, hm]
  | exc x =>
    obtain ⟨t, ds, T2, rfl, q⟩ := q
    refine ⟨.exc x, Γ1, ?_, q⟩
    (try dsimp only)
    rw [if_pos (show cs.length + ([] : List D).length + 1 = n from hn), hT]
    dsimp only
    rw [List.map_nil, List.append_nil, hm]
/-- a method: the receiver is an instance of the class -/
def evRc (x : Option D) (C : Addr) (nm : Str) (P : Prop) : Prop := ∃ ns ds, x = some (.node (.ins C ns) ds) ∧ ns.contains nm = false ∧ P
theorem evRc_mk {x : Option D} {C : Addr} {nm : Str} {P : Prop} (ns : List Str) (ds : List D) (h : x = some (.node (.ins C ns) ds)) (n : ns.contains nm = false) (p : P) : evRc x C nm P := ⟨ns, ds, h, n, p⟩
theorem evMeth {C : Addr} {nm : Str} {n : Nat} {m : MF} {L : AF}
    (h : evE A Γ (fun c Γ0 => evRc (look Γ0 c) C nm (evA L Γ0 (fun cs Γ1 => (c :: cs).length + 0 = n ∧ evSome (argsC Γ1 (c :: cs)) fun p => evM m p.1 (fun c T' => evSome (putBN Γ1 p.2 T') fun Γ' => isSolid c = true ∧ Q c Γ') (fun x T' => evSome (putBN Γ1 p.2 T') fun Γ' => X x Γ')) X)) X) : evE (eMethN C nm n m [] A L) Γ Q X := by
  refine evE_bind (evE_mono h (fun c Γ0 ⟨ns, ds, hd, hn, q⟩ => ?_) fun _ _ z => z)
  have z : evE (DL.bindL L fun cs Γ => if (c :: cs).length + ([] : List D).length = n then (match argsC Γ (c :: cs) with
      | some (T, b) => (match m (T ++ ([] : List D).map .sh) with
        | some (r, T') => (match putB Γ b T' with
          | some Γ' => (match r with
            | .val c => if isSolid c then some (Res.val c, Γ') else none
            | .exc x => some (.exc x, Γ'))
          | none => none)
        | none => none)
      | none => none) else none) Γ0 Q X := by
    refine evL_bind (evA_mono q fun cs Γ1 ⟨hl, p, hp, r, T', hm, q⟩ => ?_)
    cases r with
    | val c1 =>
      obtain ⟨Γ', e, sc, q⟩ := q
      refine ⟨.val c1, Γ', ?_, q⟩
      (try dsimp only)
      rw [if_pos (show (c :: cs).length + ([] : List D).length = n from hl), hp]
      dsimp only
      rw [List.map_nil, List.append_nil, hm]
      dsimp only
      rw [putBN_putB e]
      dsimp only
      rw [if_pos sc]
    | exc x =>
      obtain ⟨Γ', e, q⟩ := q
      refine ⟨.exc x, Γ', ?_, q⟩
      (try dsimp only)
      rw [if_pos (show (c :: cs).length + ([] : List D).length = n from hl), hp]
      dsimp only
      rw [List.map_nil, List.append_nil, hm]
      dsimp only
      rw [putBN_putB e]
  obtain ⟨r, Γ2, e2, q2⟩ := z
  exact ⟨r, Γ2, by (try dsimp only); rw [hd]; dsimp only; rw [if_pos ⟨rfl, hn⟩]; exact e2, q2⟩
theorem vFld {C : Addr} {nm : Str} {ns : List Str} {ds : List D} (d : D) (h : fldD nm ns ds = some d) (q : Q (.sh d) Γ) : evG (gFld C nm (.node (.ins C ns) ds)) Γ Q := ⟨.old d, by unfold gFld; dsimp only; rw [if_pos rfl, h], rfl, q⟩
def evIns (Γ : Gam) (i : Nat) (C : Addr) (Q : List Str → List D → Prop) : Prop := ∃ ns ds, slotO Γ i = some (.ins C ns, ds) ∧ ns.length < 1000 ∧ Q ns ds
theorem evIns_mk {Γ : Gam} {i : Nat} {C : Addr} {Q : List Str → List D → Prop} (ns : List Str) (ds : List D) (h : slotO Γ i = some (.ins C ns, ds)) (hl : ns.length < 1000) (q : Q ns ds) : evIns Γ i C Q := ⟨ns, ds, h, hl, q⟩
theorem evSFld {i : Nat} {C : Addr} {nm : Str} (h : evE A Γ (fun c Γ1 => evKp Γ1 c fun d Γ2 => evIns Γ2 i C fun ns ds => evSome (slotN Γ2 i (.ins C (putD nm d ns ds).1) (putD nm d ns ds).2) N) X) : evS (sFld i C nm A) Γ N R Bk Ct X := by
  refine evS_bind (evKeepN (evE_mono h (fun c Γ1 ⟨d, Γ2, e, ns, ds, e1, hl, Γ3, e2, q⟩ => ⟨d, Γ2, e, ?_⟩) fun _ _ z => z))
  refine ⟨.nx Γ3, ?_, q⟩
  (try dsimp only)
  rw [e1]
  dsimp only
  rw [if_pos ⟨rfl, hl⟩, slotN_slotP e2]
end
end DL

set_option Elab.async false
set_option linter.all false
set_option maxRecDepth 100000
set_option maxHeartbeats 1000000
/-! questions, told by their heads -/
namespace DL
open PySem PySem.Spec PyProof.Rows L2
section
variable {Γ : Gam} {X : Exc → Gam → Prop} {N : Gam → Prop}
theorem evI_id {F : IF} {Q : List D → Gam → Prop} (h : evI F Γ Q X) : evI F Γ Q X := h
theorem evO_id {F : OF} {Q : Option Int → Gam → Prop} (h : evO F Γ Q X) : evO F Γ Q X := h
theorem evP_id {P : D → Gam → Option Gam} {d : D} {Q : Gam → Prop} (h : evP P d Γ Q) : evP P d Γ Q := h
theorem evPs_id {P : List D → Gam → Option Gam} {ds : List D} {Q : Gam → Prop} (h : evPs P ds Γ Q) : evPs P ds Γ Q := h
theorem evM_id {m : MF} {T : List Cell} {Q : Cell → List Cell → Prop} {X : Exc → List Cell → Prop} (h : evM m T Q X) : evM m T Q X := h
theorem evM_at (m : MF) {T : List Cell} {Q : Cell → List Cell → Prop} {X : Exc → List Cell → Prop} (h : evM m T Q X) : evM m T Q X := h
theorem ev1_id {g : D → Option Out} {x : Option D} {Q : Cell → Gam → Prop} (h : ev1 g x Γ Q) : ev1 g x Γ Q := h
theorem ev2_id {g : D → D → Option Out} {x y : Option D} {Q : Cell → Gam → Prop} (h : ev2 g x y Γ Q) : ev2 g x y Γ Q := h
theorem evL_id {g : List D → Option Out} {x : Option (List D)} {Q : Cell → Gam → Prop} (h : evL g x Γ Q) : evL g x Γ Q := h
theorem evSome_id {α : Type} {x : Option α} {Q : α → Prop} (h : evSome x Q) : evSome x Q := h
theorem evR1_id {ds : List D} {Q : List D → Prop} (h : evSome (gRange1 ds) Q) : evSome (gRange1 ds) Q := h
theorem evR2_id {ds : List D} {Q : List D → Prop} (h : evSome (gRange2 ds) Q) : evSome (gRange2 ds) Q := h
theorem evPut_id {i : Nat} {c : Cell} {Q : Gam → Prop} (h : evSome (putN i c Γ) Q) : evSome (putN i c Γ) Q := h
theorem evBl_id {x : Option D} {Q : Bool → Prop} (h : evBl x Q) : evBl x Q := h
theorem evInt_id {x : Option D} {Q : Int → Prop} (h : evInt x Q) : evInt x Q := h
theorem ev2B_id {g : D → D → Option Out} {x y : Option D} {Q : Bool → Prop} (h : ev2B g x y Q) : ev2B g x y Q := h
theorem evKp_id {c : Cell} {Q : D → Gam → Prop} (h : evKp Γ c Q) : evKp Γ c Q := h
theorem evSd_id {c : Cell} {Q : Cell → Gam → Prop} (h : evSd Γ c Q) : evSd Γ c Q := h
theorem evSt_id {i : Nat} {Q : Tag → List D → Prop} (h : evSt Γ i Q) : evSt Γ i Q := h
theorem evIns_id {i : Nat} {C : Addr} {Q : List Str → List D → Prop} (h : evIns Γ i C Q) : evIns Γ i C Q := h
theorem evRc_id {x : Option D} {C : Addr} {nm : Str} {P : Prop} (h : evRc x C nm P) : evRc x C nm P := h
theorem evNoB_id {x : Option (List Cell × Option (Nat × Nat))} {Q : List Cell → Prop} (h : evNoB x Q) : evNoB x Q := h
theorem evOw_id {c : Cell} {T' : List Cell} {Q : Tag → List D → Prop} (h : evOw c T' Q) : evOw c T' Q := h
theorem evPr_id {cs : List Cell} {Q : Cell → Cell → Prop} (h : evPr cs Q) : evPr cs Q := h
theorem evPr3_id {cs : List Cell} {Q : Cell → Cell → Cell → Prop} (h : evPr3 cs Q) : evPr3 cs Q := h
theorem evMut_id {i : Nat} {tn : String} {g : Tag → List D → List D → Option (D × Tag × List D)} {L : AF} {Q : Cell → Gam → Prop} (h : evE (eMut i tn g L) Γ Q X) : evE (eMut i tn g L) Γ Q X := h
theorem fk_id {b : Bool} {P R : Prop} (h : (b = true → P) ∧ (b = false → R)) : (b = true → P) ∧ (b = false → R) := h
theorem fkD_id {c P R : Prop} {_ : Decidable c} (h : (decide c = true → P) ∧ (decide c = false → R)) : (decide c = true → P) ∧ (decide c = false → R) := h
theorem and_id {P R : Prop} (h : P ∧ R) : P ∧ R := h
theorem evG_1 (g : D → Option Out) {d : D} {Q : Cell → Gam → Prop} (h : evG (g d) Γ Q) : evG (g d) Γ Q := h
theorem evG_2 (g : D → D → Option Out) {d e : D} {Q : Cell → Gam → Prop} (h : evG (g d e) Γ Q) : evG (g d e) Γ Q := h
theorem evG_L (g : List D → Option Out) {ds : List D} {Q : Cell → Gam → Prop} (h : evG (g ds) Γ Q) : evG (g ds) Γ Q := h
end
end DL

set_option Elab.async false
set_option linter.all false
set_option maxRecDepth 100000
set_option maxHeartbeats 1000000
/-! in, not in; methods that change nothing -/
namespace DL
open PySem PySem.Spec PyProof.Rows L2

/-! ### in -/
def rInTD (K : PySem.W.Frag) (neg : Bool) : R2 := fun x y H Q => ∃ d ds, Dp K H x d ∧ Dp K H y (.tuple ds) ∧ SeqAt.shaped d = true ∧ SeqAt.shaped (.tuple ds) = true ∧ Q (.bl (neg != (ds.any fun z => PyData.eqv z d))) H
theorem shapedT_lay {ds : List PyData} (h : SeqAt.shaped (.tuple ds) = true) : PyData.canLayAll0 ds = true := by
  unfold SeqAt.shaped PyData.canLay0 at h
  rw [Bool.and_eq_true] at h
  exact h.1
section
variable {X : Cx}
theorem op_inTD (hu : X.A.units + 65 < cLine) : OpR X (compareOp .In) (rInTD X.K false) := by
  intro pins s σ H x y v u Q I rx ry h
  obtain ⟨d, ds, hd, he, sd, se, q⟩ := h
  obtain ⟨as, r1⟩ := Dp.reads I d x v hd rx
  obtain ⟨bs, r2⟩ := Dp.reads I (.tuple ds) y u he ry
  exact SeqAt.in_tuple_reads r2 r1 (shapedT_lay se) (SeqAt.canLay_of_shaped sd) (room_in_shaped sd hu) ⟨.bl _, H, I, rfl, by simpa using q⟩
theorem op_notInTD (hu : X.A.units + 65 < cLine) : OpR X (compareOp .NotIn) (rInTD X.K true) := by
  intro pins s σ H x y v u Q I rx ry h
  obtain ⟨d, ds, hd, he, sd, se, q⟩ := h
  obtain ⟨as, r1⟩ := Dp.reads I d x v hd rx
  obtain ⟨bs, r2⟩ := Dp.reads I (.tuple ds) y u he ry
  exact SeqAt.notIn_tuple_reads r2 r1 (shapedT_lay se) (SeqAt.canLay_of_shaped sd) (room_in_shaped sd hu) ⟨.bl _, H, I, rfl, by simpa using q⟩
def inS (x z : Str) : Bool := !(Builtin.Str.occurrences z x 0 z.length 1).isEmpty
def inP (d e : D) : Option Bool := match toP d, toP e with
  | some p, some (.list ps) => if SeqAt.shaped p && SeqAt.shaped (.list ps) then some (ps.any fun z => PyData.eqv z p) else none
  | some p, some (.tuple ps) => if SeqAt.shaped p && SeqAt.shaped (.tuple ps) then some (ps.any fun z => PyData.eqv z p) else none
  | some (.str x), some (.str z) => some (inS x z)
  | _, _ => none
def gIn (d e : D) : Option Out := match inP d e with
  | some b => some (.old (.leaf (.bl b)))
  | none => none
def gNotIn (d e : D) : Option Out := match inP d e with
  | some b => some (.old (.leaf (.bl (!b))))
  | none => none
def rInS (neg : Bool) : R2 := fun x y H Q => ∃ i j, x = .str i ∧ y = .str j ∧ Q (.bl (neg != !(Builtin.Str.occurrences j i 0 j.length 1).isEmpty)) H
theorem opIn {k : Nat} (hr : RoomG k X.A) : OpR X (compareOp .In) (fun x y H Q => rInD X.K x y H Q ∨ rInTD X.K false x y H Q ∨ rInS false x y H Q) := by
  have hu : X.A.units + 65 < cLine := by have := hr.room.un; omega
  intro pins s σ H x y v u Q I rx ry h
  rcases h with h | h | ⟨i, j, h1, h2, h3⟩
  · exact op_inD hu pins s σ H x y v u Q I rx ry h
  · exact op_inTD hu pins s σ H x y v u Q I rx ry h
  · exact op_in_str pins s σ H x y v u Q I rx ry ⟨i, j, h1, h2, by simpa using h3⟩
theorem opNotIn {k : Nat} (hr : RoomG k X.A) : OpR X (compareOp .NotIn) (fun x y H Q => rNotInD X.K x y H Q ∨ rInTD X.K true x y H Q ∨ rInS true x y H Q) := by
  have hu : X.A.units + 65 < cLine := by have := hr.room.un; omega
  intro pins s σ H x y v u Q I rx ry h
  rcases h with h | h | ⟨i, j, h1, h2, h3⟩
  · exact op_notInD hu pins s σ H x y v u Q I rx ry h
  · exact op_notInTD hu pins s σ H x y v u Q I rx ry h
  · exact op_notIn_str pins s σ H x y v u Q I rx ry ⟨i, j, h1, h2, by simpa using h3⟩
end
theorem inP_of {K : PySem.W.Frag} {M H : Hp} {x y : V} {d e : D} {b : Bool} (s : Sub M H) (rx : RepH K M H x d) (ry : RepH K M H y e) (h : inP d e = some b) :
    (∃ p ps, Dp K H x p ∧ Dp K H y (.list ps) ∧ SeqAt.shaped p = true ∧ SeqAt.shaped (.list ps) = true ∧ b = ps.any fun z => PyData.eqv z p) ∨
    (∃ p ps, Dp K H x p ∧ Dp K H y (.tuple ps) ∧ SeqAt.shaped p = true ∧ SeqAt.shaped (.tuple ps) = true ∧ b = ps.any fun z => PyData.eqv z p) ∨
    ∃ i j, x = .str i ∧ y = .str j ∧ b = inS i j := by
  unfold inP at h
  split at h
  · rename_i p ps h1 h2
    split at h
    · rename_i hs
      rw [Bool.and_eq_true] at hs
      cases h
      exact .inl ⟨p, ps, dp_of d x p (rx.full s) h1, dp_of e y _ (ry.full s) h2, hs.1, hs.2, rfl⟩
    · cases h
  · rename_i p ps h1 h2
    split at h
    · rename_i hs
      rw [Bool.and_eq_true] at hs
      cases h
      exact .inr (.inl ⟨p, ps, dp_of d x p (rx.full s) h1, dp_of e y _ (ry.full s) h2, hs.1, hs.2, rfl⟩)
    · cases h
  · rename_i i j h1 h2
    cases h
    have a1 := dp_of d x _ (rx.full s) h1
    have a2 := dp_of e y _ (ry.full s) h2
    cases a1
    cases a2
    exact .inr (.inr ⟨_, _, rfl, rfl, rfl⟩)
  · cases h
theorem s2In {K : PySem.W.Frag} : S2 K (fun x y H Q => rInD K x y H Q ∨ rInTD K false x y H Q ∨ rInS false x y H Q) gIn := by
  intro M H x y d e o Q s rx ry hg q
  unfold gIn at hg
  split at hg
  · rename_i b hb
    cases hg
    have q' := q (.bl b) (by unfold Rep; rfl)
    rcases inP_of s rx ry hb with ⟨p, ps, h1, h2, h3, h4, rfl⟩ | ⟨p, ps, h1, h2, h3, h4, rfl⟩ | ⟨i, j, rfl, rfl, rfl⟩
    · exact .inl ⟨p, ps, h1, h2, h3, h4, q'⟩
    · exact .inr (.inl ⟨p, ps, h1, h2, h3, h4, by simpa using q'⟩)
    · exact .inr (.inr ⟨i, j, rfl, rfl, by simpa [inS] using q'⟩)
  · cases hg
theorem s2NotIn {K : PySem.W.Frag} : S2 K (fun x y H Q => rNotInD K x y H Q ∨ rInTD K true x y H Q ∨ rInS true x y H Q) gNotIn := by
  intro M H x y d e o Q s rx ry hg q
  unfold gNotIn at hg
  split at hg
  · rename_i b hb
    cases hg
    have q' := q (.bl (!b)) (by unfold Rep; rfl)
    rcases inP_of s rx ry hb with ⟨p, ps, h1, h2, h3, h4, rfl⟩ | ⟨p, ps, h1, h2, h3, h4, rfl⟩ | ⟨i, j, rfl, rfl, rfl⟩
    · exact .inl ⟨p, ps, h1, h2, h3, h4, q'⟩
    · exact .inr (.inl ⟨p, ps, h1, h2, h3, h4, by simpa using q'⟩)
    · exact .inr (.inr ⟨i, j, rfl, rfl, by simpa [inS] using q'⟩)
  · cases hg

/-! ### methods that change nothing -/
def tyD : D → String
  | .leaf (.str _) => "str"
  | .node .lst _ => "list"
  | .node .scr _ => "list"
  | _ => "-"
def eMet (tn : String) (g : D → List D → Option Out) (A : EF) (L : AF) : EF := bindE A fun c Γ => match look Γ c with
  | some d0 => if tyD d0 = tn ∧ tn ≠ "-" then bindL L (fun cs Γ1 => match look Γ1 c, shs cs with
    | some d, some es => eOut (g d es) Γ1
    | _, _ => none) Γ else none
  | none => none
def SP (K : PySem.W.Frag) (r : V → List V → Hp → VK → Prop) (g : D → List D → Option Out) : Prop := ∀ M H x vs d es o Q, Sub M H → RepH K M H x d → Reps K M vs es → g d es = some o → OutOk K M H o Q → r x vs H Q
theorem tyV_of {K : PySem.W.Frag} {M H : Hp} {x : V} {d : D} {tn : String} (r : RepH K M H x d) (h : tyD d = tn) (n : tn ≠ "-") : tyV K tn x H := by
  unfold tyD at h
  split at h
  · cases (show x = _ from r); exact h.symm
  · obtain ⟨a, xs, rfl, ho, _⟩ := r
    exact .inl ⟨h.symm, xs, .of ho⟩
  · obtain ⟨a, xs, rfl, ho, _⟩ := r
    exact .inl ⟨h.symm, xs, ho⟩
  · exact (n h.symm).elim
section
variable {X : Cx} {W : WX} {o e : Expr} {es : List Expr} {A : EF} {L : AF} {name : Str} {apos cpos : Pos} {tn id : String} {r : V → List V → Hp → VK → Prop} {g : D → List D → Option Out}
theorem met_core (hs : SP X.K r g) {σ : L2.St} {H : Hp} {Q : VK} (h : tE X.K W (eMet tn g A L) σ H Q) : tBM X.K tn r (tE X.K W A) (tL X.K W L) σ H Q := by
  obtain ⟨f0, M, τ, T, Γ, ra, Γ', G, hF, post⟩ := h
  refine run1 G hF post fun c Γ1 v H1 M1 G1 e => ?_
  split at e
  · rename_i d0 hd0
    split at e
    · rename_i ht
      refine ⟨tyV_of (G1.look (k := .inl 0) rfl hd0) ht.1 ht.2, ?_⟩
      unfold bindL at e
      cases hL : L Γ1 with
      | none => rw [hL] at e; cases e
      | some z =>
        obtain ⟨rl, Γ2⟩ := z
        rw [hL] at e
        cases rl with
        | exc x =>
          cases e
          exact ⟨f0, M1, _, _, Γ1, .exc x, Γ', G1, hL, PostX.pop post⟩
        | val cs =>
          refine ⟨f0, M1, _, _, Γ1, .val cs, Γ2, G1, hL, fun vs H2 M2 hl G2 => ?_⟩
          dsimp only at e
          split at e
          · rename_i d es hd hes
            obtain ⟨rs, G3⟩ := G2.shs hl hes
            obtain ⟨o', ho, hk, rfl, rfl⟩ := eOut_some e
            exact hs M2 H2 v vs d es o' Q G3.sub (G3.look (k := .inl 0) rfl hd) rs ho (G3.pop.out (okNew_of hk) post)
          · cases e
    · cases e
  · cases e
theorem de_met (pa : PlainAttrs tn) (slot : Slot tn name id) (hty : typeOf (.builtin id) = pure (.type "method_descriptor")) (hm : MtR X id r) (hs : SP X.K r g) (ho : DE X W o A) (ha : DA X W (e :: es) L)
    (hbase : attributeBase o name X.env (eval o X.env) = eval o X.env := by rfl)
    (hfew : ((backTo cpos (starEach (e :: es) X.env)).all (fun x => !x.1) && (backToKw cpos (keywordEach [] X.env)).all (fun x => x.1.isSome)
      && decide ((e :: es).length + ([] : List Keyword).length + (if ([] : List Keyword).isEmpty then 0 else 1) < 30)) = true := by rfl)
    (hline : (apos.endLine == cpos.line) = true := by rfl) (hst : starEach (e :: es) X.env = (false, eval e X.env) :: starEach es X.env := by rfl) (hplain : (backTo cpos (starEach es X.env)).any (·.1) = false := by rfl) :
    DE X W (.Call (.Attribute o name apos) (e :: es) [] cpos) (eMet tn g A L) :=
  PEimp (pe_bm pa slot hty hm ho ha hbase hfew hline hst hplain) fun _ _ _ h => met_core hs h
theorem mt_indexG {X : Cx} {k : Nat} (hr : RoomG k X.A) : MtR X "list.index" (rIndexD X.K) := mt_indexD (by have := hr.room.un; omega)
end
/-- l.index(x) -/
def ixP (p : PyData) : List PyData → Option Nat
  | [] => none
  | z :: ps => if PyData.eqv z p then some 0 else match ixP p ps with
    | some j => some (j + 1)
    | none => none
theorem ixP_of {p : PyData} : ∀ {ps : List PyData} {j : Nat}, ixP p ps = some j → ∃ z, ps[j]? = some z ∧ PyData.eqv z p = true ∧ ∀ (m : Nat) (z' : PyData), m < j → ps[m]? = some z' → PyData.eqv z' p = false
  | [], j, h => by cases h
  | z :: ps, j, h => by
    unfold ixP at h
    split at h
    · rename_i e
      cases h
      exact ⟨z, rfl, e, fun m z' hm => absurd hm (Nat.not_lt_zero _)⟩
    · rename_i e
      split at h
      · rename_i i hi
        cases h
        obtain ⟨y, h1, h2, h3⟩ := ixP_of hi
        refine ⟨y, by simpa using h1, h2, fun m z' hm hz => ?_⟩
        cases m with
        | zero => simp at hz; subst hz; simpa using e
        | succ m => exact h3 m z' (by omega) (by simpa using hz)
      · cases h
def gIndex : D → List D → Option Out
  | d, [e] => (match toP d, toP e with
    | some (.list ps), some p => if SeqAt.shaped p && SeqAt.shaped (.list ps) then (match ixP p ps with
      | some j => some (.old (.leaf (.int (j : Int))))
      | none => none) else none
    | _, _ => none)
  | _, _ => none
theorem spIndex {K : PySem.W.Frag} : SP K (rIndexD K) gIndex := by
  intro M H x vs d es o Q s rx rv hg q
  unfold gIndex at hg
  split at hg
  · rename_i d' e
    split at hg
    · rename_i ps p h1 h2
      split at hg
      · rename_i hs
        rw [Bool.and_eq_true] at hs
        split at hg
        · rename_i j hj
          cases hg
          obtain ⟨y, ys, rfl, r1, r2⟩ := rv.cons_of
          rw [r2.nil_of]
          obtain ⟨z, a1, a2, a3⟩ := ixP_of hj
          have hl := dp_of d x _ (rx.full s) h1
          obtain ⟨a, ha⟩ : ∃ a, x = .ref a := by
            cases hl with
            | lst _ _ => exact ⟨_, rfl⟩
          subst ha
          exact ⟨a, y, p, ps, j, z, rfl, rfl, hl, dp_of e y p (Rep.mono s _ _ r1) h2, hs.2, hs.1, a1, a2, a3, q _ (by unfold Rep; rfl)⟩
        · cases hg
      · cases hg
    · cases hg
  · cases hg

/-! ### run -/
section
variable {Γ : Gam} {X : Exc → Gam → Prop} {Q : Cell → Gam → Prop} {A : EF}
theorem vIn {d e : D} {b : Bool} (h : inP d e = some b) (q : Q (.sh (.leaf (.bl b))) Γ) : evG (gIn d e) Γ Q := ⟨.old (.leaf (.bl b)), by unfold gIn; rw [h], rfl, q⟩
theorem vNotIn {d e : D} {b : Bool} (h : inP d e = some b) (q : Q (.sh (.leaf (.bl (!b)))) Γ) : evG (gNotIn d e) Γ Q := ⟨.old (.leaf (.bl (!b))), by unfold gNotIn; rw [h], rfl, q⟩
def evTy (x : Option D) (tn : String) (P : Prop) : Prop := ∃ d, x = some d ∧ (tyD d = tn ∧ tn ≠ "-") ∧ P
theorem evTy_mk {x : Option D} {tn : String} {P : Prop} (d : D) (h : x = some d) (t : tyD d = tn ∧ tn ≠ "-") (p : P) : evTy x tn P := ⟨d, h, t, p⟩
theorem evTy_id {x : Option D} {tn : String} {P : Prop} (h : evTy x tn P) : evTy x tn P := h
def evDL (x : Option D) (y : Option (List D)) (Q : D → List D → Prop) : Prop := ∃ d es, x = some d ∧ y = some es ∧ Q d es
theorem evDL_mk {x : Option D} {y : Option (List D)} {Q : D → List D → Prop} (d : D) (es : List D) (h : x = some d) (h' : y = some es) (q : Q d es) : evDL x y Q := ⟨d, es, h, h', q⟩
theorem evDL_id {x : Option D} {y : Option (List D)} {Q : D → List D → Prop} (h : evDL x y Q) : evDL x y Q := h
theorem evMet {tn : String} {g : D → List D → Option Out} {L : AF}
    (h : evE A Γ (fun c Γ0 => evTy (look Γ0 c) tn (evA L Γ0 (fun cs Γ1 => evDL (look Γ1 c) (shs cs) fun d es => evG (g d es) Γ1 Q) X)) X) : evE (eMet tn g A L) Γ Q X := by
  refine evE_bind (evE_mono h (fun c Γ0 ⟨d0, e0, t0, q⟩ => ?_) fun _ _ z => z)
  have z : evE (DL.bindL L fun cs Γ1 => match look Γ1 c, shs cs with
    | some d, some es => eOut (g d es) Γ1
    | _, _ => none) Γ0 Q X := by
    refine evL_bind (evA_mono q fun cs Γ1 ⟨d, es, e1, e2, q⟩ => ?_)
    obtain ⟨r, Γ2, e3, q3⟩ := evOut (X := X) q
    exact ⟨r, Γ2, by (try dsimp only); rw [e1, e2]; exact e3, q3⟩
  obtain ⟨r, Γ2, e2, q2⟩ := z
  exact ⟨r, Γ2, by (try dsimp only); rw [e0]; dsimp only; rw [if_pos t0]; exact e2, q2⟩
end
theorem any_ints {n : Int} : ∀ ns : List Int, ((ns.map PyData.int).any fun z => PyData.eqv z (.int n)) = decide (n ∈ ns)
  | [] => rfl
  | m :: ns => by
    rw [List.map_cons, List.any_cons, any_ints ns]
    show ((m == n) || _) = _
    by_cases e : m = n
    · subst e; simp
    · have : ¬ n = m := fun z => e z.symm
      simp [e, this]
theorem inP_ints (n : Int) (ns : List Int) : inP (.leaf (.int n)) (.node .lst (intsD ns)) = some (decide (n ∈ ns)) := by
  have e : toP (.node .lst (intsD ns)) = some (.list (ns.map .int)) := by
    unfold toP
    rw [toPs_ints]
  unfold inP
  rw [e]
  dsimp only [toP]
  rw [shaped_ints, any_ints]
  rfl
theorem ixP_ints {n : Int} : ∀ {ns : List Int} {j : Nat}, ns[j]? = some n → (∀ m, m < j → ns[m]? ≠ some n) → ixP (.int n) (ns.map PyData.int) = some j
  | [], j, h, _ => by simp at h
  | m :: ns, 0, h, _ => by
    simp at h
    subst h
    rw [List.map_cons]
    unfold ixP
    rw [if_pos (show PyData.eqv (.int m) (.int m) = true by show (m == m) = true; simp)]
  | m :: ns, j + 1, h, hn => by
    have h0 := hn 0 (Nat.succ_pos j)
    have ih := ixP_ints (n := n) (ns := ns) (j := j) (by simpa using h) fun i hi => by simpa using hn (i + 1) (by omega)
    rw [List.map_cons]
    unfold ixP
    rw [if_neg (show ¬ PyData.eqv (.int m) (.int n) = true by
      show ¬ (m == n) = true
      simp at h0 ⊢
      exact h0), ih]
theorem vIndexI {Γ : Gam} {Q : Cell → Gam → Prop} {n : Int} {ns : List Int} (j : Nat) (h : ns[j]? = some n) (hn : ∀ m, m < j → ns[m]? ≠ some n) (q : Q (.sh (.leaf (.int (j : Int)))) Γ) : evG (gIndex (.node .lst (intsD ns)) [.leaf (.int n)]) Γ Q := by
  refine ⟨.old (.leaf (.int (j : Int))), ?_, rfl, q⟩
  have e : toP (.node .lst (intsD ns)) = some (.list (ns.map .int)) := by
    unfold toP
    rw [toPs_ints]
  unfold gIndex
  dsimp only
  rw [e]
  dsimp only [toP]
  rw [shaped_ints, ixP_ints h hn]
  rfl
/-- the end, for laws whose mirror asks for the addresses of classes -/
theorem fin_of2 {P : Program} {w : World} {K : PySem.W.Frag} {mg : Str → Option Value} {k : Nat} {fa : Addr} {x : Str} {S : MF → Prop} (h : ∀ m0, S m0 → ∀ ns : List Int, ns.length ≤ 63 → SaysTrue m0 ns)
    (q : ∃ (fd : FuncData) (m : MF), (∀ (s : Shared) (v : Value), BindsTo s fd ⟨[v], []⟩ [(x, v)]) ∧ (∀ base : Heap, K.In base → base.Ns mainGlobals mg → FnG P w K mg base k fa fd [x] m) ∧ S m) :
    ∃ (fd : FuncData) (m : MF), (∀ (s : Shared) (u : Value), BindsTo s fd ⟨[u], []⟩ [(x, u)]) ∧ (∀ base : Heap, K.In base → base.Ns mainGlobals mg → FnG P w K mg base k fa fd [x] m) ∧ ∀ ns : List Int, ns.length ≤ 63 → SaysTrue m ns := by
  obtain ⟨fd, m, q1, q2, hs⟩ := q
  exact ⟨fd, _, q1, q2, h m hs⟩
end DL

set_option Elab.async false
set_option linter.all false
set_option maxRecDepth 100000
set_option maxHeartbeats 1000000
/-! fields stored: the fields stay written lists -/
namespace DL
open PySem PySem.Spec PyProof.Rows L2
def putO (nm : Str) (d : D) : List Str → List D → Option (List Str × List D)
  | [], [] => some ([nm], [d])
  | n :: ns, e :: ds => match decide (n = nm) with
    | true => some (n :: ns, d :: ds)
    | false => match putO nm d ns ds with
      | some (a, b) => some (n :: a, e :: b)
      | none => none
  | _, _ => none
theorem putO_of {nm : Str} {d : D} : ∀ {ns : List Str} {ds : List D} {a : List Str} {b : List D}, putO nm d ns ds = some (a, b) → putD nm d ns ds = (a, b)
  | [], [], a, b, h => by unfold putO at h; cases h; rfl
  | [], _ :: _, a, b, h => by unfold putO at h; cases h
  | _ :: _, [], a, b, h => by unfold putO at h; cases h
  | n :: ns, e :: ds, a, b, h => by
    unfold putO at h
    unfold putD
    by_cases hn : n = nm
    · rw [decide_eq_true hn] at h
      cases h
      rw [if_pos hn]
    · rw [decide_eq_false hn] at h
      dsimp only at h
      rw [if_neg hn]
      split at h
      · rename_i a1 b1 e1
        cases h
        rw [putO_of e1]
      · cases h
section
variable {Γ : Gam} {X : Exc → Gam → Prop} {A : EF} {N : Gam → Prop} {R : Cell → Gam → Prop} {Bk Ct : Gam → Prop}
def evP2 (x : Option (List Str × List D)) (Q : List Str → List D → Prop) : Prop := ∃ a b, x = some (a, b) ∧ Q a b
theorem evP2_mk {x : Option (List Str × List D)} {Q : List Str → List D → Prop} (a : List Str) (b : List D) (h : x = some (a, b)) (q : Q a b) : evP2 x Q := ⟨a, b, h, q⟩
theorem evP2_id {x : Option (List Str × List D)} {Q : List Str → List D → Prop} (h : evP2 x Q) : evP2 x Q := h
theorem evSFldO {i : Nat} {C : Addr} {nm : Str} (h : evE A Γ (fun c Γ1 => evKp Γ1 c fun d Γ2 => evIns Γ2 i C fun ns ds => evP2 (putO nm d ns ds) fun a b => evSome (slotN Γ2 i (.ins C a) b) N) X) : evS (sFld i C nm A) Γ N R Bk Ct X :=
  evSFld (evE_mono h (fun c Γ1 ⟨d, Γ2, e, ns, ds, e1, hl, a, b, hp, Γ3, e2, q⟩ => ⟨d, Γ2, e, ns, ds, e1, hl, Γ3, by rw [putO_of hp]; exact e2, q⟩) fun _ _ z => z)
end
end DL

set_option Elab.async false
set_option linter.all false
set_option maxRecDepth 100000
set_option maxHeartbeats 1000000
/-! dicts by data: a key in a dict, dict(pairs), int of an int or a bool -/
namespace DL
open PySem PySem.Spec PyProof.Rows L2
section
variable {X : Cx}
def rInK (neg : Bool) : R2 := fun x y H Q => ∃ a o, y = .ref a ∧ DGet H a x o ∧ Q (.bl (neg != o.isSome)) H
theorem opInK {k : Nat} (hr : RoomG k X.A) : OpR X (compareOp .In) (rInK false) := by
  have hu : X.A.units + 1 < cLine := by have := hr.room.un; omega
  intro pins s σ H x y v u Q I rx ry h
  obtain ⟨a, o, rfl, hg, q⟩ := h
  cases (show u = Value.ref a from ry)
  exact d_in hu I hg rx fun s' I' => ⟨.bl _, H, I', rfl, by simpa using q⟩
theorem opNotInK {k : Nat} (hr : RoomG k X.A) : OpR X (compareOp .NotIn) (rInK true) := by
  have hu : X.A.units + 1 < cLine := by have := hr.room.un; omega
  intro pins s σ H x y v u Q I rx ry h
  obtain ⟨a, o, rfl, hg, q⟩ := h
  cases (show u = Value.ref a from ry)
  exact d_notIn hu I hg rx fun s' I' => ⟨.bl _, H, I', rfl, by simpa using q⟩
end
def keyD : D → Option Key
  | .leaf (.int i) => some (.inl i)
  | .leaf (.str x) => some (.inr x)
  | _ => none
theorem keyD_of {d : D} {k : Key} (h : keyD d = some k) : d = .leaf (kV k) := by
  unfold keyD at h
  split at h
  · cases h; rfl
  · cases h; rfl
  · cases h
def inK (d e : D) : Option Bool := match keyD d, e with
  | some k, .node (.dk ks) ds => some (getK k ks ds).isSome
  | _, _ => none
def gInK (d e : D) : Option Out := match inK d e with
  | some b => some (.old (.leaf (.bl b)))
  | none => none
def gNotInK (d e : D) : Option Out := match inK d e with
  | some b => some (.old (.leaf (.bl (!b))))
  | none => none
theorem inK_of {K : PySem.W.Frag} {M H : Hp} {x y : V} {d e : D} {b : Bool} (s : Sub M H) (rx : RepH K M H x d) (ry : RepH K M H y e) (h : inK d e = some b) : ∃ a o, y = .ref a ∧ DGet H a x o ∧ b = o.isSome := by
  unfold inK at h
  split at h
  · rename_i k ks ds hk
    cases h
    obtain rfl := keyD_of hk
    cases (show x = kV k from rx)
    obtain ⟨a, xs, rfl, ⟨hl, ho⟩, rs⟩ := ry
    refine ⟨a, valV (ks.zip xs) k, rfl, .inl ⟨_, k, ho, rfl, rfl⟩, ?_⟩
    cases hg : getK k ks ds with
    | none => rw [(getK_val rs).2 hg]; rfl
    | some d => obtain ⟨v, h1, h2⟩ := (getK_val rs).1 d hg; rw [h1]; rfl
  · cases h
theorem s2InK {K : PySem.W.Frag} : S2 K (rInK false) gInK := by
  intro M H x y d e o Q s rx ry hg q
  unfold gInK at hg
  split at hg
  · rename_i b hb
    cases hg
    obtain ⟨a, o, rfl, h1, rfl⟩ := inK_of s rx ry hb
    exact ⟨a, o, rfl, h1, by simpa using q (.bl o.isSome) (by unfold Rep; rfl)⟩
  · cases hg
theorem s2NotInK {K : PySem.W.Frag} : S2 K (rInK true) gNotInK := by
  intro M H x y d e o Q s rx ry hg q
  unfold gNotInK at hg
  split at hg
  · rename_i b hb
    cases hg
    obtain ⟨a, o, rfl, h1, rfl⟩ := inK_of s rx ry hb
    exact ⟨a, o, rfl, h1, by simpa using q (.bl (!o.isSome)) (by unfold Rep; rfl)⟩
  · cases hg

/-- int of an int or a bool -/
def gInt : List D → Option Out
  | [.leaf (.int i)] => some (.old (.leaf (.int i)))
  | [.leaf (.bl b)] => some (.old (.leaf (.int (if b then 1 else 0))))
  | _ => none
theorem shInt {K : PySem.W.Frag} : SH K (fun xs H Q => (∃ i, xs = [.int i] ∧ Q (.int i) H) ∨ ∃ k, xs = [.bl k] ∧ Q (.int (if k then 1 else 0)) H) gInt := by
  intro M H xs ds o Q s r h q
  unfold gInt at h
  split at h
  · cases h
    obtain ⟨x, rfl, hx⟩ := r.one
    cases (show x = _ from hx)
    exact .inl ⟨_, rfl, q _ (by unfold Rep; rfl)⟩
  · cases h
    obtain ⟨x, rfl, hx⟩ := r.one
    cases (show x = _ from hx)
    exact .inr ⟨_, rfl, q _ (by unfold Rep; rfl)⟩
  · cases h

/-- dict of a list of pairs -/
def putKD (kvs : List (Key × D)) (k : Key) (v : D) : List (Key × D) :=
  if (kvs.any fun kv => decide (kv.1 = k)) = true then kvs.map (fun kv => if kv.1 = k then (kv.1, v) else kv) else kvs ++ [(k, v)]
def mergeKD (kvs more : List (Key × D)) : List (Key × D) := more.foldl (fun acc kv => putKD acc kv.1 kv.2) kvs
def pairD : D → Option (Key × D)
  | .node .tup [a, d] => match keyD a with
    | some k => some (k, d)
    | none => none
  | _ => none
def pairsD : List D → Option (List (Key × D))
  | [] => some []
  | d :: ds => match pairD d, pairsD ds with
    | some p, some ps => some (p :: ps)
    | _, _ => none
def KD (K : PySem.W.Frag) (M : Hp) : List (Key × V) → List (Key × D) → Prop
  | [], [] => True
  | p :: ps, q :: qs => p.1 = q.1 ∧ Rep K M p.2 q.2 ∧ KD K M ps qs
  | _, _ => False
section
variable {K : PySem.W.Frag} {M H : Hp}
theorem KD.snoc {k : Key} {v : V} {d : D} (h : Rep K M v d) : ∀ {ps : List (Key × V)} {qs : List (Key × D)}, KD K M ps qs → KD K M (ps ++ [(k, v)]) (qs ++ [(k, d)])
  | [], [], _ => ⟨rfl, h, trivial⟩
  | _ :: _, _ :: _, ⟨a, b, c⟩ => ⟨a, b, c.snoc h⟩
  | [], _ :: _, z => z.elim
  | _ :: _, [], z => z.elim
theorem KD.any {k : Key} : ∀ {ps : List (Key × V)} {qs : List (Key × D)}, KD K M ps qs → (ps.any fun kv => decide (kv.1 = k)) = (qs.any fun kv => decide (kv.1 = k))
  | [], [], _ => rfl
  | _ :: _, _ :: _, ⟨a, b, c⟩ => by rw [List.any_cons, List.any_cons, a, c.any]
  | [], _ :: _, z => z.elim
  | _ :: _, [], z => z.elim
theorem KD.map {k : Key} {v : V} {d : D} (h : Rep K M v d) : ∀ {ps : List (Key × V)} {qs : List (Key × D)}, KD K M ps qs → KD K M (ps.map fun kv => if kv.1 = k then (kv.1, v) else kv) (qs.map fun kv => if kv.1 = k then (kv.1, d) else kv)
  | [], [], _ => trivial
  | p :: _, q :: _, ⟨a, b, c⟩ => by
    rw [List.map_cons, List.map_cons]
    refine ⟨?_, ?_, c.map h⟩
    · by_cases e : q.1 = k
      · rw [if_pos e, if_pos (a.trans e)]; exact a
      · rw [if_neg e, if_neg (by rw [a]; exact e)]; exact a
    · by_cases e : q.1 = k
      · rw [if_pos e, if_pos (a.trans e)]; exact h
      · rw [if_neg e, if_neg (by rw [a]; exact e)]; exact b
  | [], _ :: _, z => z.elim
  | _ :: _, [], z => z.elim
theorem KD.put {k : Key} {v : V} {d : D} (h : Rep K M v d) {ps : List (Key × V)} {qs : List (Key × D)} (r : KD K M ps qs) : KD K M (putK ps k v) (putKD qs k d) := by
  unfold putK putKD
  rw [r.any]
  split
  · exact r.map h
  · exact r.snoc h
theorem KD.merge : ∀ {more : List (Key × V)} {moreD : List (Key × D)} {ps : List (Key × V)} {qs : List (Key × D)}, KD K M more moreD → KD K M ps qs → KD K M (mergeK ps more) (mergeKD qs moreD)
  | [], [], _, _, _, r => r
  | (k, v) :: more, (k', d) :: moreD, ps, qs, ⟨a, b, c⟩, r => by
    cases (show k = k' from a)
    show KD K M (mergeK (putK ps k v) more) (mergeKD (putKD qs k d) moreD)
    exact KD.merge c (r.put b)
  | [], _ :: _, _, _, z, _ => z.elim
  | _ :: _, [], _, _, z, _ => z.elim
theorem KD.keys : ∀ {ps : List (Key × V)} {qs : List (Key × D)}, KD K M ps qs → ps.map (·.1) = qs.map (·.1)
  | [], [], _ => rfl
  | _ :: _, _ :: _, ⟨a, b, c⟩ => by rw [List.map_cons, List.map_cons, a, c.keys]
  | [], _ :: _, z => z.elim
  | _ :: _, [], z => z.elim
theorem KD.reps : ∀ {ps : List (Key × V)} {qs : List (Key × D)}, KD K M ps qs → Reps K M (ps.map (·.2)) (qs.map (·.2))
  | [], [], _ => Reps.nil
  | _ :: _, _ :: _, ⟨a, b, c⟩ => Reps.cons b c.reps
  | [], _ :: _, z => z.elim
  | _ :: _, [], z => z.elim
theorem pairsD_of (s : Sub M H) : ∀ {ds : List D} {xs : List V} {qs : List (Key × D)}, Reps K M xs ds → pairsD ds = some qs → ∃ (ps : List Addr) (kvs : List (Key × V)), xs = ps.map V.ref ∧ Paired (fun p kv => SqT K H p [kV kv.1, kv.2]) ps kvs ∧ KD K M kvs qs
  | [], xs, qs, r, h => by
    cases h
    rw [r.nil_of]
    exact ⟨[], [], rfl, .nil, trivial⟩
  | d :: ds, xs, qs, r, h => by
    unfold pairsD at h
    split at h
    · rename_i p ps hp hps
      cases h
      obtain ⟨x, ys, rfl, r1, r2⟩ := r.cons_of
      obtain ⟨as, kvs, rfl, h1, h2⟩ := pairsD_of s r2 hps
      unfold pairD at hp
      split at hp
      · rename_i a d'
        split at hp
        · rename_i k hk
          cases hp
          obtain rfl := keyD_of hk
          unfold Rep at r1
          obtain ⟨a, zs, rfl, ho, rs⟩ := r1
          obtain ⟨z1, zs1, rfl, q1, rs⟩ := rs.cons_of
          obtain ⟨z2, zs2, rfl, q2, rs⟩ := rs.cons_of
          rw [rs.nil_of] at ho
          unfold Rep at q1
          subst q1
          exact ⟨a :: as, (k, z2) :: kvs, rfl, .cons (Sub.sqt s ho) h1, ⟨rfl, q2, h2⟩⟩
        · cases hp
      · cases hp
    · cases h
end
theorem zip_map {α β : Type} : ∀ l : List (α × β), (l.map (·.1)).zip (l.map (·.2)) = l
  | [] => rfl
  | p :: l => by rw [List.map_cons, List.map_cons, List.zip_cons_cons, zip_map l]
def gDictP : List D → Option Out
  | [.node .lst ds] => match pairsD ds with
    | some qs => some (.new (.dk ((mergeKD [] qs).map (·.1))) ((mergeKD [] qs).map (·.2)))
    | none => none
  | _ => none
theorem shDictP {K : PySem.W.Frag} : SH K (fun xs H Q => ∃ (a : Addr) (ps : List Addr) (kvs : List (Key × V)), xs = [.ref a] ∧ SqL K H a (ps.map V.ref) ∧ Paired (fun p kv => SqT K H p [kV kv.1, kv.2]) ps kvs ∧
    ∀ p, H p = none → Q (.ref p) (upd H p (.dK (mergeK [] kvs)))) gDictP := by
  intro M H xs ds o Q s r h q
  unfold gDictP at h
  split at h
  · split at h
    · rename_i qs hq
      cases h
      obtain ⟨x, rfl, a, ys, rfl, ho, rs⟩ := r.one
      obtain ⟨ps, kvs, rfl, h1, h2⟩ := pairsD_of s rs hq
      have h3 : KD K M (mergeK [] kvs) (mergeKD [] qs) := KD.merge h2 trivial
      refine ⟨a, ps, kvs, rfl, .of ho, h1, fun p hp => ?_⟩
      have := q.2 p _ hp h3.reps
      rw [← h3.keys] at this
      have e : mkO (.dk ((mergeK [] kvs).map (·.1))) ((mergeK [] kvs).map (·.2)) = .dK (mergeK [] kvs) := by
        show HO.dK (((mergeK [] kvs).map (·.1)).zip ((mergeK [] kvs).map (·.2))) = _
        rw [zip_map]
      rw [e] at this
      exact this
    · cases h
  · cases h

/-! ### run -/
section
variable {Γ : Gam} {X : Exc → Gam → Prop} {Q : Cell → Gam → Prop} {A : EF}
theorem vInK {d e : D} {b : Bool} (h : inK d e = some b) (q : Q (.sh (.leaf (.bl b))) Γ) : evG (gInK d e) Γ Q := ⟨.old (.leaf (.bl b)), by unfold gInK; rw [h], rfl, q⟩
theorem vNotInK {d e : D} {b : Bool} (h : inK d e = some b) (q : Q (.sh (.leaf (.bl (!b)))) Γ) : evG (gNotInK d e) Γ Q := ⟨.old (.leaf (.bl (!b))), by unfold gNotInK; rw [h], rfl, q⟩
theorem vIntI {i : Int} (q : Q (.sh (.leaf (.int i))) Γ) : evG (gInt [.leaf (.int i)]) Γ Q := evG_old rfl q
theorem vIntB {b : Bool} (q : Q (.sh (.leaf (.int (if b then 1 else 0)))) Γ) : evG (gInt [.leaf (.bl b)]) Γ Q := evG_old rfl q
end
/-- the dict of int keys that all hold True -/
def mrk (ns : List Int) : List (Key × D) := mergeKD [] (ns.map fun n => ((Sum.inl n : Key), D.leaf (.bl true)))
theorem pairsD_mrk : ∀ ns : List Int, pairsD (ns.map fun n => D.node .tup [.leaf (.int n), .leaf (.bl true)]) = some (ns.map fun n => ((Sum.inl n : Key), D.leaf (.bl true)))
  | [] => rfl
  | n :: ns => by
    rw [List.map_cons]
    unfold pairsD
    rw [pairsD_mrk ns]
    rfl
theorem putKD_has {k k' : Key} {v : D} {kvs : List (Key × D)} : (k' ∈ (putKD kvs k v).map (·.1)) ↔ k' ∈ kvs.map (·.1) ∨ k' = k := by
  unfold putKD
  split
  · rename_i h
    have e : (kvs.map fun kv => if kv.1 = k then (kv.1, v) else kv).map (·.1) = kvs.map (·.1) := by
      rw [List.map_map]
      refine List.map_congr_left fun p _ => ?_
      show (if p.1 = k then (p.1, v) else p).1 = p.1
      split <;> rfl
    rw [e]
    constructor
    · exact .inl
    · rintro (h' | rfl)
      · exact h'
      · rw [List.any_eq_true] at h
        obtain ⟨p, hp, e⟩ := h
        exact List.mem_map.mpr ⟨p, hp, of_decide_eq_true e⟩
  · rw [List.map_append, List.mem_append]
    simp
theorem mergeKD_has {k : Key} : ∀ {more kvs : List (Key × D)}, (k ∈ (mergeKD kvs more).map (·.1)) ↔ k ∈ kvs.map (·.1) ∨ k ∈ more.map (·.1)
  | [], kvs => by unfold mergeKD; simp
  | p :: more, kvs => by
    show (k ∈ (mergeKD (putKD kvs p.1 p.2) more).map (·.1)) ↔ _
    rw [mergeKD_has, putKD_has, List.map_cons, List.mem_cons, or_assoc]
theorem getK_isSome {k : Key} : ∀ {ks : List Key} {ds : List D}, ks.length = ds.length → ((getK k ks ds).isSome = true ↔ k ∈ ks)
  | [], [], _ => by unfold getK; simp
  | k' :: ks, d :: ds, h => by
    have ih := getK_isSome (k := k) (ks := ks) (ds := ds) (by simpa using h)
    unfold getK
    by_cases e : k' = k
    · subst e; simp
    · simp [e, ih, Ne.symm e]
theorem inK_mrk {n : Int} {ns : List Int} : inK (.leaf (.int n)) (.node (.dk ((mrk ns).map (·.1))) ((mrk ns).map (·.2))) = some (decide (n ∈ ns)) := by
  show some (getK (Sum.inl n : Key) ((mrk ns).map (·.1)) ((mrk ns).map (·.2))).isSome = _
  congr 1
  rw [Bool.eq_iff_iff, getK_isSome (by simp), decide_eq_true_iff]
  unfold mrk
  rw [mergeKD_has, List.map_map]
  simp
end DL

set_option Elab.async false
set_option linter.all false
set_option maxRecDepth 100000
set_option maxHeartbeats 1000000
/-! calls with keywords that fill the last parameters in order; keyword-only parameters left out; zip of two lists -/
namespace DL
open PySem PySem.Spec PyProof.Rows L2
def aApp (L1 L2 : AF) : AF := fun Γ => match L1 Γ with
  | some (.val cs, Γ1) => (match L2 Γ1 with
    | some (.val ds, Γ2) => some (.val (cs ++ ds), Γ2)
    | some (.exc x, Γ2) => some (.exc x, Γ2)
    | none => none)
  | some (.exc x, Γ1) => some (.exc x, Γ1)
  | none => none
section
variable {K : PySem.W.Frag} {W : WX} {f : Frm} {M H : Hp} {τ : List V} {T : List Cell} {σ : L2.St} {Γ Γ' : Gam} {Q : VK}
theorem PostX.popL {f : Frm} {x : Exc} (p : PostX K W f τ T σ x Γ') : ∀ {vs : List V} {cs : List Cell}, vs.length = cs.length → PostX K W f (vs ++ τ) (cs ++ T) σ x Γ'
  | [], [], _ => p
  | [], _ :: _, h => by cases h
  | _ :: _, [], h => by cases h
  | v :: vs, c :: cs, h => PostX.pop (PostX.popL p (Nat.succ.inj h))
theorem runApp {A B : AF} {k : List Cell → EF} {r : Res} {R : List V → Hp → Prop} (G : Good K f M H τ T σ Γ) (e : DL.bindL (aApp A B) k Γ = some (r, Γ')) (p : PostE K W f τ T σ Q r Γ')
    (h : ∀ cs Γ1 vs H1 M1, vs.length = cs.length → Good K f M1 H1 (vs.reverse ++ τ) (cs.reverse ++ T) σ Γ1 → k cs Γ1 = some (r, Γ') → R vs H1) : tL K W A σ H fun vs H1 => tL K W B σ H1 fun zs H2 => zs.length + vs.length = (vs ++ zs).length ∧ R (vs ++ zs) H2 := by
  unfold DL.bindL aApp at e
  cases hA : A Γ with
  | none => rw [hA] at e; cases e
  | some q =>
    obtain ⟨ra, Γ1⟩ := q
    rw [hA] at e
    cases ra with
    | exc x => cases e; exact ⟨f, M, τ, T, Γ, .exc x, Γ', G, hA, p⟩
    | val cs =>
      refine ⟨f, M, τ, T, Γ, .val cs, Γ1, G, hA, fun vs H1 M1 hl G1 => ?_⟩
      dsimp only at e
      cases hB : B Γ1 with
      | none => rw [hB] at e; cases e
      | some q2 =>
        obtain ⟨rb, Γ2⟩ := q2
        rw [hB] at e
        cases rb with
        | exc x =>
          cases e
          exact ⟨f, M1, _, _, Γ1, .exc x, Γ', G1, hB, PostX.popL p (by rw [List.length_reverse, List.length_reverse, hl])⟩
        | val ds =>
          refine ⟨f, M1, _, _, Γ1, .val ds, Γ2, G1, hB, fun zs H2 M2 hl2 G2 => ⟨by rw [List.length_append, Nat.add_comm], ?_⟩⟩
          refine h (cs ++ ds) Γ2 (vs ++ zs) H2 M2 (by rw [List.length_append, List.length_append, hl, hl2]) ?_ e
          rw [List.reverse_append, List.reverse_append, List.append_assoc, List.append_assoc]
          exact G2
end
/-- keywords' values -/
abbrev DK (X : Cx) (W : WX) (kws : List Keyword) (F : AF) : Prop := PK X kws (tL X.K W F)
section
variable {X : Cx} {W : WX} {k : Nat} {f C : Addr} {fd : FuncData} {ps : List Str} {m : MF} {dvs : List V} {ds : List Value} {dfl : List D} {x nm : Str} {p pos apos kpos : Pos} {e o : Expr} {es : List Expr} {L L' : AF} {A : EF} {kws : List Keyword} {kn : Option Str}
theorem dk_nil : DK X W [] aNil := by
  refine ⟨fun pos pins s σ H Q I h => pk_nil.run pos pins s σ H Q I ?_⟩
  obtain ⟨f, M, τ, T, Γ, r, Γ', G, hF, p⟩ := h
  cases hF
  exact p [] H M rfl G
theorem dk_cons (ha : DE X W e A) (hr : DK X W kws L) : DK X W (⟨kn, e, kpos⟩ :: kws) (aCons A L) := by
  refine ⟨fun pos pins s σ H Q I h => (pk_cons ha hr).run pos pins s σ H Q I ?_⟩
  obtain ⟨f, M, τ, T, Γ, r, Γ', G, hF, p⟩ := h
  unfold aCons at hF
  cases hA : A Γ with
  | none => rw [hA] at hF; cases hF
  | some q =>
    obtain ⟨ra, Γ1⟩ := q
    rw [hA] at hF
    cases ra with
    | exc x => cases hF; exact ⟨f, M, τ, T, Γ, .exc x, Γ', G, hA, p⟩
    | val c =>
      refine ⟨f, M, τ, T, Γ, .val c, Γ1, G, hA, fun v H1 M1 G1 => ?_⟩
      dsimp only at hF
      cases hL : L Γ1 with
      | none => rw [hL] at hF; cases hF
      | some q2 =>
        obtain ⟨rl, Γ2⟩ := q2
        rw [hL] at hF
        cases rl with
        | exc x => cases hF; exact ⟨f, M1, _, _, Γ1, .exc x, Γ', G1, hL, PostX.pop p⟩
        | val cs =>
          cases hF
          refine ⟨f, M1, _, _, Γ1, .val cs, Γ', G1, hL, fun vs H2 M2 hl G2 => ?_⟩
          refine p (v :: vs) H2 M2 (by rw [List.length_cons, List.length_cons, hl]) ?_
          rw [List.reverse_cons, List.reverse_cons, List.append_assoc, List.append_assoc]
          exact G2
/-- all parameters given, the last ones by their names, in order -/
def KAll (fd : FuncData) (ps ks : List Str) : Prop := ∀ (s : Shared) (us ws : List Value), ws.length = ks.length → (us ++ ws).length = ps.length → BindsTo s fd ⟨us, ks.zip ws⟩ (ps.zip (us ++ ws))
theorem kall_mk {K : PySem.W.Frag} {x qual : Str} {st : Stmt} {f : Addr} {fd : FuncData} {ps ks : List Str} (F : Fun K x qual st f fd) {n : Nat} (hn : ps.length = n + ks.length)
    (h : ∀ (kV doc pm : Value) (an : Option Addr) (cdv ct : Value) (us ws : List Value), us.length = n → ws.length = ks.length → bindArgs (PySem.W.fnOf x qual (defArgs st) (defBody st) (defScope st) .none kV doc pm an cdv ct) ⟨us, ks.zip ws⟩ = pure (ps.zip (us ++ ws))) : KAll fd ps ks := by
  obtain ⟨oc, od, kV, doc, pm, an, cdv, ct, osl, rfl, lk, hcd⟩ := F.ex
  intro s us ws hk hl
  rw [List.length_append] at hl
  exact .of_eq (h kV doc pm an cdv ct us ws (by omega) hk)
theorem run_fnK {pins : List (Addr × Obj)} {σ : L2.St} {H : Hp} {s : Shared} {Q : VK} {ks : List Str} {us ws : List Value} {vs zs : List V} (F : FnG X.prog X.w X.K X.mg X.base k f fd ps m) (hr : RoomG k X.A) (hb : KAll fd ps ks) (tk : Takes X W)
    (I : Inv X pins σ H s) (r : Vals vs us) (rz : Vals zs ws) (lz : zs.length = ks.length) (h : spM X.K ps.length m (vs ++ zs) H Q (WE W σ)) : wpAny (model X.prog X.w) X.A (call (.ref f) us (ks.zip ws)) (EP X pins σ Q) X.xe s := by
  have both := r.append rz
  have count : (us ++ ws).length = ps.length := both.length.symm.trans h.1
  apply wpAny_call
  apply codeAny_mono (F.run X.A X.stack s H ⟨us, ks.zip ws⟩ (us ++ ws) (vs ++ zs) Q (WE W σ) hr I.env0 (hb s us ws (rz.length.symm.trans lz) count) both h)
  rintro (er | fl) s' hq
  · exact passAt tk σ pins H s er s' I hq
  · cases fl with
    | ret u => exact I.after hq
    | next => exact hq.elim
    | brk => exact hq.elim
    | cont => exact hq.elim
def aLen (n : Nat) (L : AF) : AF := fun Γ => match L Γ with
  | some (.val cs, Γ1) => if cs.length = n then some (.val cs, Γ1) else none
  | o => o
theorem runLen {K : PySem.W.Frag} {W : WX} {n : Nat} {L : AF} {σ : L2.St} {H : Hp} {R : List V → Hp → Prop} (h : tL K W (aLen n L) σ H R) : tL K W L σ H fun zs H2 => zs.length = n ∧ R zs H2 := by
  obtain ⟨f, M, τ, T, Γ, r, Γ', G, hF, p⟩ := h
  unfold aLen at hF
  cases hA : L Γ with
  | none => rw [hA] at hF; cases hF
  | some q =>
    obtain ⟨ra, Γ1⟩ := q
    rw [hA] at hF
    cases ra with
    | exc x => cases hF; exact ⟨f, M, τ, T, Γ, .exc x, Γ', G, hA, p⟩
    | val cs =>
      dsimp only at hF
      split at hF
      · rename_i hc
        cases hF
        exact ⟨f, M, τ, T, Γ, .val cs, Γ', G, hA, fun vs H' M' hl G' => ⟨hl.trans hc, p vs H' M' hl G'⟩⟩
      · cases hF
theorem de_callKW {ks : List Str} {n nps : Nat} (F : FnG X.prog X.w X.K X.mg X.base k f fd ps m) (hr : RoomG k X.A) (tk : Takes X W) (hm : X.mg x = some (.ref f)) (hk : PySem.W.keepIn X.K (.ref f) = true) (hb : KAll fd ps ks)
    (ha : DA X W (e :: es) L) (hkw : DK X W kws L') (hall : (backToKw pos (keywordEach kws X.env)).all (·.1.isSome) = true := by rfl) (hks : (backToKw pos (keywordEach kws X.env)).filterMap (·.1) = ks := by rfl)
    (hnk : ks.length = n := by rfl) (hnp : ps.length = nps := by rfl) (hg : Gl X x := by rfl) (hdb : (x == ("__debug__" : Str)) = false := by decide) (he : starEach (e :: es) X.env = (false, eval e X.env) :: starEach es X.env := by rfl)
    (hpl : ((backTo pos (starEach (e :: es) X.env)).any (·.1) || (backToKw pos (keywordEach kws X.env)).any (·.1.isNone)) = false := by rfl) :
    DE X W (.Call (.Name x p) (e :: es) kws pos) (eCallN nps m [] (aApp L (aLen n L'))) := by
  subst hnk hnp
  refine ⟨fun pins s σ H Q I h => ?_⟩
  obtain ⟨f0, M, τ, T, Γ, r, Γ', G, hF, post⟩ := h
  apply wpAny_Call_Name_kw
  refine ld_glob I hg hm ?_ hdb
  have asked := runApp (R := fun vs H1 => spM X.K ps.length m (vs ++ []) H1 Q (WE W σ)) G hF post fun cs Γ1 vs H1 M1 hl G1 e => callN_core (dvs := []) (dfl := []) G1 hl post Reps.nil e
  refine PySem.W.callWith_KW (h₀ := X.base) I.ok.mod.kin hk hall (thn (ha.run pos pins s σ H _ I asked) ?_) hpl he
  rintro us s1 ⟨vs, H1, I1, rr, q⟩
  refine thn (hkw.run pos pins s1 σ H1 _ I1 (runLen q)) ?_
  rintro ws s2 ⟨zs, H2, I2, rz, l2, _, q2⟩
  rw [List.append_nil] at q2
  refine ⟨I2.kIn, ?_⟩
  rw [hks]
  exact run_fnK F hr hb tk I2 rr rz l2 q2
end
/-- one keyword-only parameter is left out: its default is None -/
theorem binds_kw1 {K : PySem.W.Frag} {fd : FuncData} {ps : List Str} {n : Nat} {D : Addr} {kn : Str} (hk : PySem.W.nsIn K D kn = some (some .none)) (hn : ps.length = n + 1)
    (h : ∀ us : List Value, us.length = n → KwChain D [(kn, Value.none)] (bindArgs fd ⟨us, []⟩) (ps.zip (us ++ [.none]))) : Binds K fd ps [.none] := fun s us X hlen => by
  have l2 : us.length = n := by
    rw [List.length_append, List.length_singleton] at hlen
    omega
  exact BindsTo.of_looks fun M => KwChain.looks X (fun q hq => by rw [List.mem_singleton] at hq; subst hq; exact hk) (h us l2)
/-- zip of two lists -/
def zipD : List D → List D → List D
  | d :: ds, e :: es => .node .tup [d, e] :: zipD ds es
  | _, _ => []
theorem zipD_get : ∀ {ds es : List D} {i : Nat} {d : D}, (zipD ds es)[i]? = some d → ∃ a b, ds[i]? = some a ∧ es[i]? = some b ∧ d = .node .tup [a, b]
  | [], _, _, _, h => by unfold zipD at h; simp at h
  | _ :: _, [], _, _, h => by unfold zipD at h; simp at h
  | a :: ds, b :: es, 0, d, h => by
    unfold zipD at h
    cases h
    exact ⟨a, b, rfl, rfl, rfl⟩
  | a :: ds, b :: es, i + 1, d, h => by
    unfold zipD at h
    obtain ⟨a', b', h1, h2, h3⟩ := zipD_get (ds := ds) (es := es) (i := i) (by simpa using h)
    exact ⟨a', b', by simpa using h1, by simpa using h2, h3⟩
theorem zipD_len : ∀ (ds es : List D), ds.length ≤ (zipD ds es).length ∨ es.length ≤ (zipD ds es).length
  | [], _ => .inl (by simp)
  | _ :: _, [] => .inr (by simp)
  | a :: ds, b :: es => by
    unfold zipD
    rw [List.length_cons, List.length_cons, List.length_cons]
    rcases zipD_len ds es with h | h
    · exact .inl (by omega)
    · exact .inr (by omega)
theorem Yl.zip {K : PySem.W.Frag} {M : Hp} {a b : Addr} {xs ys : List V} {ds es : List D} (h : SqL K M a xs) (r : Reps K M xs ds) (h' : SqL K M b ys) (r' : Reps K M ys es) : Yl K (Itz K a b) M (zipD ds es) := fun i H s => ⟨fun d e => by
    obtain ⟨d1, d2, e1, e2, rfl⟩ := zipD_get e
    obtain ⟨x, ex, rx⟩ := r.get e1
    obtain ⟨y, ey, ry⟩ := r'.get e2
    refine ⟨⟨xs, ys, x, y, s.sql h, s.sql h', ex, ey⟩, ?_⟩
    rintro v H' ⟨T, x', y', rfl, hT, rfl, hx, hy⟩
    have ex' := hx xs (s.sql h)
    have ey' := hy ys (s.sql h')
    rw [ex] at ex'
    rw [ey] at ey'
    cases ex'
    cases ey'
    exact .inr ⟨T, [x, y], [d1, d2], hT, rfl, rfl, .cons rx (.cons ry .nil), rfl⟩, fun e => ⟨xs, ys, s.sql h, s.sql h', by
      have := zipD_len ds es
      rw [r.length, r'.length, e]
      exact this⟩⟩
def gZip : List D → Option (List D)
  | [.node .lst ds, .node .lst es] => some (zipD ds es)
  | _ => none
theorem Reps.ref2 {K : PySem.W.Frag} {M : Hp} {vs : List V} {ds es : List D} (r : Reps K M vs [.node .lst ds, .node .lst es]) : ∃ a b xs ys, vs = [.ref a, .ref b] ∧ SqL K M a xs ∧ Reps K M xs ds ∧ SqL K M b ys ∧ Reps K M ys es := by
  obtain ⟨x, xs, rfl, r1, r2⟩ := r.cons_of
  obtain ⟨y, ys, rfl, r3, r4⟩ := r2.cons_of
  rw [r4.nil_of]
  unfold Rep at r1 r3
  obtain ⟨a, zs, rfl, ho, rs⟩ := r1
  obtain ⟨b, ws, rfl, ho', rs'⟩ := r3
  exact ⟨a, b, zs, ws, rfl, SqL.of ho, rs, SqL.of ho', rs'⟩
section
variable {X : Cx} {W : WX} {p pos tpos : Pos} {elts : List Expr} {kk : Nat} {L : AF}
theorem di_zip {a b : Expr} (ha : DA X W [a, b] L) (hm : X.mg "zip" = none) (hg : Gl X "zip" := by rfl) (hs : starEach [a, b] X.env = (false, eval a X.env) :: starEach [b] X.env := by rfl) (hpl : (backTo pos (starEach [b] X.env)).any (·.1) = false := by rfl) :
    DI X W (.Tuple elts kk tpos) (.Call (.Name "zip" p) [a, b] [] pos) (iOfL gZip L) := by
  refine PIimp (pi_zip hg hm ha hs hpl) fun σ H R h => il_core h fun M H vs ds es s rs he q => ?_
  unfold gZip at he
  split at he
  · cases he
    obtain ⟨a, b, xs, ys, rfl, h1, r1, h2, r2⟩ := Reps.ref2 rs
    exact ⟨a, b, xs, ys, rfl, s.sql h1, s.sql h2, q _ (Yl.zip h1 r1 h2 r2)⟩
  · cases he
end
/-! ### run -/
section
variable {Γ : Gam} {X : Exc → Gam → Prop}
theorem evApp {A B : AF} {Q : List Cell → Gam → Prop} (h : evA A Γ (fun cs Γ1 => evA B Γ1 (fun ds Γ2 => Q (cs ++ ds) Γ2) X) X) : evA (aApp A B) Γ Q X := by
  obtain ⟨r, Γ1, e, q⟩ := h
  cases r with
  | val cs =>
    obtain ⟨r2, Γ2, e2, q2⟩ := q
    cases r2 with
    | val ds => exact ⟨.val (cs ++ ds), Γ2, by unfold aApp; rw [e]; dsimp only; rw [e2], q2⟩
    | exc x => exact ⟨.exc x, Γ2, by unfold aApp; rw [e]; dsimp only; rw [e2], q2⟩
  | exc x => exact ⟨.exc x, Γ1, by unfold aApp; rw [e], q⟩
theorem evLen {A : AF} {n : Nat} {Q : List Cell → Gam → Prop} (h : evA A Γ (fun cs Γ1 => cs.length = n ∧ Q cs Γ1) X) : evA (aLen n A) Γ Q X := by
  obtain ⟨r, Γ1, e, q⟩ := h
  cases r with
  | val cs => exact ⟨.val cs, Γ1, by unfold aLen; rw [e]; dsimp only; rw [if_pos q.1], q.2⟩
  | exc x => exact ⟨.exc x, Γ1, by unfold aLen; rw [e], q⟩
end
end DL

set_option Elab.async false
set_option linter.all false
set_option maxRecDepth 100000
set_option maxHeartbeats 1000000
/-! is True, is False and their negations -/
namespace DL
open PySem PySem.Spec PyProof.Rows L2
def gIsB : D → D → Option Out := fun d e => match d, e with
  | .leaf (.bl a), .leaf (.bl b) => some (.old (.leaf (.bl (decide (a = b)))))
  | _, _ => none
def gNotB : D → D → Option Out := fun d e => match d, e with
  | .leaf (.bl a), .leaf (.bl b) => some (.old (.leaf (.bl (!decide (a = b)))))
  | _, _ => none
theorem s2IsB {K : PySem.W.Frag} : S2 K rIsB gIsB := by
  intro M H x y d e o Q s rx ry hg q
  unfold gIsB at hg
  split at hg
  · rename_i a b
    cases hg
    cases (show x = .bl a from rx)
    cases (show y = .bl b from ry)
    exact ⟨a, b, rfl, rfl, q _ (by unfold Rep; rfl)⟩
  · cases hg
theorem s2NotB {K : PySem.W.Frag} : S2 K rNotB gNotB := by
  intro M H x y d e o Q s rx ry hg q
  unfold gNotB at hg
  split at hg
  · rename_i a b
    cases hg
    cases (show x = .bl a from rx)
    cases (show y = .bl b from ry)
    exact ⟨a, b, rfl, rfl, q _ (by unfold Rep; rfl)⟩
  · cases hg
section
variable {Γ : Gam} {Q : Cell → Gam → Prop}
theorem vIsB {a b : Bool} (q : Q (.sh (.leaf (.bl (decide (a = b))))) Γ) : evG (gIsB (.leaf (.bl a)) (.leaf (.bl b))) Γ Q := evG_old rfl q
theorem vNotB {a b : Bool} (q : Q (.sh (.leaf (.bl (!decide (a = b))))) Γ) : evG (gNotB (.leaf (.bl a)) (.leaf (.bl b))) Γ Q := evG_old rfl q
end
end DL

set_option Elab.async false
set_option linter.all false
set_option maxRecDepth 100000
set_option maxHeartbeats 1000000
/-! calls that lend several objects -/
namespace DL
open PySem PySem.Spec PyProof.Rows L2
/-- b: the slots whose objects are lent, and their places among the arguments -/
def argsM (Γ : Gam) : List Cell → Option (List Cell × List (Nat × Nat))
  | [] => some ([], [])
  | .sh d :: cs => match argsM Γ cs with
    | some (T, b) => some (.sh d :: T, b.map fun p => (p.1, p.2 + 1))
    | none => none
  | .br i :: cs => match argsM Γ cs with
    | some (T, b) => (match Γ[i]? with
      | some (some (.sh d)) => some (.sh d :: T, b.map fun p => (p.1, p.2 + 1))
      | some (some (.ow t ds)) => if i ∈ b.map (·.1) then none else some (.ow t ds :: T, (i, 0) :: b.map fun p => (p.1, p.2 + 1))
      | some (some (.rf t ds)) => if i ∈ b.map (·.1) then none else some (.ow t ds :: T, (i, 0) :: b.map fun p => (p.1, p.2 + 1))
      | _ => none)
    | none => none
  | _ :: _ => none
def putM (T' : List Cell) : List (Nat × Nat) → Gam → Option Gam
  | [], Γ => some Γ
  | (i, j) :: b, Γ => match T'[j]? with
    | some (.ow t ds) => (match Γ[i]? with
      | some (some (.ow _ _)) => putM T' b (Γ.set i (some (.ow t ds)))
      | some (some (.rf _ _)) => putM T' b (Γ.set i (some (.rf t ds)))
      | _ => none)
    | _ => none
section
variable {K : PySem.W.Frag} {f : Frm} {M H M' H' : Hp} {τ : List V} {T0 T : List Cell} {σ : L2.St} {Γ : Gam}
structure ArgsM (K : PySem.W.Frag) (M : Hp) (σ : L2.St) (Γ : Gam) (vs : List V) (T : List Cell) (b : List (Nat × Nat)) : Prop where
  len : T.length = vs.length
  kind : ∀ (j : Nat) (v : V) (c : Cell), vs[j]? = some v → T[j]? = some c → (∃ d, c = .sh d ∧ Rep K M v d) ∨ ∃ t ds i, c = .ow t ds ∧ (i, j) ∈ b ∧ σ[i]? = some (some v) ∧ (Γ[i]? = some (some (.ow t ds)) ∨ Γ[i]? = some (some (.rf t ds)))
  lent : ∀ i j, (i, j) ∈ b → ∃ v t ds, vs[j]? = some v ∧ T[j]? = some (Cell.ow t ds) ∧ σ[i]? = some (some v) ∧ (Γ[i]? = some (some (.ow t ds)) ∨ Γ[i]? = some (some (.rf t ds)))
  uniq : ∀ i j j', (i, j) ∈ b → (i, j') ∈ b → j = j'
theorem shift_mem {b : List (Nat × Nat)} {i j : Nat} : (i, j) ∈ (b.map fun p => (p.1, p.2 + 1)) ↔ ∃ j', j = j' + 1 ∧ (i, j') ∈ b := by
  rw [List.mem_map]
  constructor
  · rintro ⟨p, hp, e⟩
    cases e
    exact ⟨p.2, rfl, hp⟩
  · rintro ⟨j', rfl, h⟩
    exact ⟨(i, j'), h, rfl⟩
theorem ArgsM.sh {vs : List V} {b : List (Nat × Nat)} {v : V} {d : D} (r0 : Rep K M v d) (h : ArgsM K M σ Γ vs T b) : ArgsM K M σ Γ (v :: vs) (.sh d :: T) (b.map fun p => (p.1, p.2 + 1)) := by
  refine ⟨by rw [List.length_cons, List.length_cons, h.len], fun j u c q r => ?_, fun i j e => ?_, fun i j j' e e' => ?_⟩
  · cases j with
    | zero => cases q; cases r; exact .inl ⟨d, rfl, r0⟩
    | succ j =>
      rcases h.kind j u c q r with z | ⟨t, ds, i, e1, e2, e3⟩
      · exact .inl z
      · exact .inr ⟨t, ds, i, e1, shift_mem.mpr ⟨j, rfl, e2⟩, e3⟩
  · obtain ⟨j', rfl, e1⟩ := shift_mem.mp e
    obtain ⟨v, t, ds, h1, h2, h3⟩ := h.lent i j' e1
    exact ⟨v, t, ds, h1, h2, h3⟩
  · obtain ⟨a, rfl, e1⟩ := shift_mem.mp e
    obtain ⟨a', rfl, e2⟩ := shift_mem.mp e'
    rw [h.uniq i a a' e1 e2]
theorem ArgsM.ow {vs : List V} {b : List (Nat × Nat)} {v : V} {i : Nat} {t : Tag} {ds : List D} (hv : σ[i]? = some (some v)) (hg : Γ[i]? = some (some (.ow t ds)) ∨ Γ[i]? = some (some (.rf t ds))) (hn : i ∉ b.map (·.1)) (h : ArgsM K M σ Γ vs T b) :
    ArgsM K M σ Γ (v :: vs) (.ow t ds :: T) ((i, 0) :: b.map fun p => (p.1, p.2 + 1)) := by
  have hn' : ∀ j, (i, j) ∉ b.map fun p => (p.1, p.2 + 1) := fun j e => by
    obtain ⟨a, _, e⟩ := shift_mem.mp e
    exact hn (List.mem_map.mpr ⟨(i, a), e, rfl⟩)
  refine ⟨by rw [List.length_cons, List.length_cons, h.len], fun j u c q r => ?_, fun i' j e => ?_, fun i' j j' e e' => ?_⟩
  · cases j with
    | zero => cases q; cases r; exact .inr ⟨t, ds, i, rfl, List.mem_cons_self, hv, hg⟩
    | succ j =>
      rcases h.kind j u c q r with z | ⟨t', ds', i', e1, e2, e3⟩
      · exact .inl z
      · exact .inr ⟨t', ds', i', e1, List.mem_cons_of_mem _ (shift_mem.mpr ⟨j, rfl, e2⟩), e3⟩
  · rcases List.mem_cons.mp e with e | e
    · cases e
      exact ⟨v, t, ds, rfl, rfl, hv, hg⟩
    · obtain ⟨j', rfl, e1⟩ := shift_mem.mp e
      obtain ⟨v, t, ds, h1, h2, h3⟩ := h.lent i' j' e1
      exact ⟨v, t, ds, h1, h2, h3⟩
  · rcases List.mem_cons.mp e with e | e
    · cases e
      rcases List.mem_cons.mp e' with e' | e'
      · cases e'; rfl
      · exact (hn' _ e').elim
    · rcases List.mem_cons.mp e' with e' | e'
      · cases e'
        exact (hn' _ e).elim
      · obtain ⟨a, rfl, e1⟩ := shift_mem.mp e
        obtain ⟨a', rfl, e2⟩ := shift_mem.mp e'
        rw [h.uniq i' a a' e1 e2]
theorem argsM_ok (hs : ∀ (i : Nat) (c : Cell), Γ[i]? = some (some c) → ∃ v, σ[i]? = some (some v) ∧ COk K f M H σ v c) : ∀ {cs T : List Cell} {b : List (Nat × Nat)} {vs : List V}, vs.length = cs.length → (∀ (j : Nat) (v : V) (c : Cell), vs[j]? = some v → cs[j]? = some c → COk K f M H σ v c) → argsM Γ cs = some (T, b) → ArgsM K M σ Γ vs T b
  | [], T, b, vs, hl, _, h => by
    cases h
    have : vs = [] := List.length_eq_zero_iff.mp hl
    subst this
    exact ⟨rfl, fun j v c e => by simp at e, fun i j e => by simp at e, fun i j j' e => by simp at e⟩
  | c :: cs, T, b, [], hl, _, _ => by cases hl
  | .sh d :: cs, T, b, v :: vs, hl, hc, h => by
    unfold argsM at h
    split at h
    · rename_i T1 b1 h1
      cases h
      exact (argsM_ok hs (vs := vs) (by simpa using hl) (fun j u e q r => hc (j + 1) u e q r) h1).sh (hc 0 _ _ rfl rfl)
    · cases h
  | .br i :: cs, T, b, v :: vs, hl, hc, h => by
    have hv : σ[i]? = some (some v) := hc 0 v _ rfl rfl
    unfold argsM at h
    split at h
    · rename_i T1 b1 h1
      have ih := argsM_ok hs (vs := vs) (by simpa using hl) (fun j u e q r => hc (j + 1) u e q r) h1
      split at h
      · rename_i d hg
        cases h
        obtain ⟨v', hv', k⟩ := hs i _ hg
        rw [hv] at hv'; cases hv'
        exact ih.sh k
      · rename_i t ds hg
        split at h
        · cases h
        · rename_i hn
          cases h
          exact ih.ow hv (.inl hg) hn
      · rename_i t ds hg
        split at h
        · cases h
        · rename_i hn
          cases h
          exact ih.ow hv (.inr hg) hn
      · cases h
    · cases h
  | .ow _ _ :: _, _, _, _ :: _, _, _, h => by cases h
  | .rf _ _ :: _, _, _, _ :: _, _, _, h => by cases h
theorem putM_ok {T' : List Cell} : ∀ {b : List (Nat × Nat)} {Γ Γ' : Gam}, putM T' b Γ = some Γ' → Γ'.length = Γ.length ∧ (∀ i j, (i, j) ∈ b → ∃ t ds, T'[j]? = some (Cell.ow t ds)) ∧
    ∀ (i : Nat) (c : Cell), Γ'[i]? = some (some c) → (∃ j t ds, (i, j) ∈ b ∧ T'[j]? = some (Cell.ow t ds) ∧ (c = .ow t ds ∨ ∃ t0 ds0, c = .rf t ds ∧ Γ[i]? = some (some (.rf t0 ds0)))) ∨ ((∀ j, (i, j) ∉ b) ∧ Γ[i]? = some (some c))
  | [], Γ, Γ', h => by
    cases h
    exact ⟨rfl, fun i j e => by simp at e, fun i c e => .inr ⟨fun j z => by simp at z, e⟩⟩
  | (i0, j0) :: b, Γ, Γ', h => by
    unfold putM at h
    split at h
    · rename_i t ds hT
      have go : ∀ c0 : Cell, (c0 = .ow t ds ∨ ∃ t0 ds0, c0 = .rf t ds ∧ Γ[i0]? = some (some (.rf t0 ds0))) → i0 < Γ.length → putM T' b (Γ.set i0 (some c0)) = some Γ' → Γ'.length = Γ.length ∧ (∀ i j, (i, j) ∈ (i0, j0) :: b → ∃ t ds, T'[j]? = some (Cell.ow t ds)) ∧
          ∀ (i : Nat) (c : Cell), Γ'[i]? = some (some c) → (∃ j t ds, (i, j) ∈ (i0, j0) :: b ∧ T'[j]? = some (Cell.ow t ds) ∧ (c = .ow t ds ∨ ∃ t0 ds0, c = .rf t ds ∧ Γ[i]? = some (some (.rf t0 ds0)))) ∨ ((∀ j, (i, j) ∉ (i0, j0) :: b) ∧ Γ[i]? = some (some c)) := fun c0 hc0 hi0 hput => by
        obtain ⟨h1, h2, h3⟩ := putM_ok hput
        refine ⟨by rw [h1, List.length_set], fun i j e => ?_, fun i c e => ?_⟩
        · rcases List.mem_cons.mp e with e | e
          · cases e; exact ⟨t, ds, hT⟩
          · exact h2 i j e
        · rcases h3 i c e with ⟨j, t', ds', e1, e2, e3⟩ | ⟨e1, e2⟩
          · refine .inl ⟨j, t', ds', List.mem_cons_of_mem _ e1, e2, ?_⟩
            rcases e3 with e3 | ⟨t0, ds0, e3, e4⟩
            · exact .inl e3
            · refine .inr ?_
              by_cases hi : i0 = i
              · subst hi
                rw [List.getElem?_set_self hi0] at e4
                cases e4
                rcases hc0 with z | ⟨t1, ds1, z, z2⟩
                · cases z
                · exact ⟨t1, ds1, e3, z2⟩
              · rw [List.getElem?_set_ne hi] at e4
                exact ⟨t0, ds0, e3, e4⟩
          · by_cases hi : i0 = i
            · subst hi
              rw [List.getElem?_set_self hi0] at e2
              cases e2
              exact .inl ⟨j0, t, ds, List.mem_cons_self, hT, hc0⟩
            · rw [List.getElem?_set_ne hi] at e2
              refine .inr ⟨fun j z => ?_, e2⟩
              rcases List.mem_cons.mp z with z | z
              · cases z; exact hi rfl
              · exact e1 j z
      split at h
      · rename_i t1 ds1 hg
        exact go _ (.inl rfl) (lt_of_get hg) h
      · rename_i t1 ds1 hg
        exact go _ (.inr ⟨t1, ds1, rfl, hg⟩) (lt_of_get hg) h
      · cases h
    · cases h
open Classical in
/-- the callers' world, as a callee sees it: all that stands but the objects that are lent -/
noncomputable def callP (H : Hp) (P : Addr → Prop) : Hp := fun a => if P a then none else H a
theorem callP_some {H : Hp} {P : Addr → Prop} {a : Addr} {u : HO} (h : callP H P a = some u) : ¬ P a ∧ H a = some u := by
  unfold callP at h
  split at h
  · cases h
  · rename_i n; exact ⟨n, h⟩
theorem callP_of {H : Hp} {P : Addr → Prop} {a : Addr} {u : HO} (n : ¬ P a) (h : H a = some u) : callP H P a = some u := by
  unfold callP
  rw [if_neg n]
  exact h
theorem callP_none {H : Hp} {P : Addr → Prop} {a : Addr} (n : P a) : callP H P a = none := by
  unfold callP
  rw [if_pos n]
theorem Good.callM {vs : List V} {cs : List Cell} {b : List (Nat × Nat)} (G : Good K f M H (vs.reverse ++ τ) (cs.reverse ++ T0) σ Γ) (hl : vs.length = cs.length) (h : argsM Γ cs = some (T, b)) {dvs : List V} {dfl : List D} (hd : Reps K M dvs dfl) :
    ∃ fc, Good K fc M H (vs ++ dvs) (T ++ dfl.map .sh) [] [] ∧ ∀ M' H' T' Γ', putM T' b Γ = some Γ' →
      (Good K fc M' H' (vs ++ dvs) T' [] [] → Good K f M' H' τ T0 σ Γ') ∧ ∀ v c, Solid c → Good K fc M' H' (v :: (vs ++ dvs)) (c :: T') [] [] → Good K f M' H' (v :: τ) (c :: T0) σ Γ' := by
  have hlen : vs.reverse.length = cs.reverse.length := by rw [List.length_reverse, List.length_reverse, hl]
  have G0 := G.drop hlen
  have hcs : ∀ (j : Nat) (v : V) (c : Cell), vs[j]? = some v → cs[j]? = some c → COk K f M H σ v c := fun j v c e1 e2 => by
    have l1 := lt_of_get e1
    have l2 := lt_of_get e2
    refine G.ok (.inl (vs.length - 1 - j)) v c (ent_temp.mpr ⟨?_, ?_⟩)
    · rw [List.getElem?_append_left (by rw [List.length_reverse]; omega), List.getElem?_reverse (by omega), show vs.length - 1 - (vs.length - 1 - j) = j by omega]
      exact e1
    · rw [List.getElem?_append_left (by rw [List.length_reverse]; omega), List.getElem?_reverse (by omega), show cs.length - 1 - (vs.length - 1 - j) = j by omega]
      exact e2
  have hsl : ∀ (i : Nat) (c : Cell), Γ[i]? = some (some c) → ∃ v, σ[i]? = some (some v) ∧ COk K f M H σ v c := fun i c e => by
    obtain ⟨v, hv⟩ := G.has i c e
    exact ⟨v, hv, G.ok (.inr i) v c (ent_slot.mpr ⟨hv, e⟩)⟩
  have A := argsM_ok hsl hl hcs h
  -- what is lent
  let lent : Addr → Prop := fun a => ∃ i j, (i, j) ∈ b ∧ vs[j]? = some (.ref a)
  have key : ∀ i j, (i, j) ∈ b → ∃ a t ds, vs[j]? = some (.ref a) ∧ σ[i]? = some (some (.ref a)) ∧ (Γ[i]? = some (some (.ow t ds)) ∨ Γ[i]? = some (some (.rf t ds))) ∧ OwnOk K f M H (.ref a) t ds := fun i j e => by
    obtain ⟨v, t, ds, h1, h2, h3, h4⟩ := A.lent i j e
    have ok : OwnOk K f M H v t ds := by
      rcases h4 with h4 | h4
      · exact G.ok (.inr i) _ _ (ent_slot.mpr ⟨h3, h4⟩)
      · exact G.ok (.inr i) _ _ (ent_slot.mpr ⟨h3, h4⟩)
    obtain ⟨a, xs, ea, r⟩ := id ok
    subst ea
    exact ⟨a, t, ds, h1, h3, h4, ok⟩
  have slotOwn : ∀ i j a, (i, j) ∈ b → vs[j]? = some (.ref a) → ∃ c, ent τ T0 σ Γ (.inr i) = some (.ref a, c) ∧ own (.ref a) c = some a := fun i j a e ev => by
    obtain ⟨a', t, ds, h1, h2, h3, _⟩ := key i j e
    rw [ev] at h1; cases h1
    rcases h3 with h3 | h3
    · exact ⟨_, ent_slot.mpr ⟨h2, h3⟩, rfl⟩
    · exact ⟨_, ent_slot.mpr ⟨h2, h3⟩, rfl⟩
  have others : ∀ k v c a, ent τ T0 σ Γ k = some (v, c) → own v c = some a → lent a → ∃ i j, (i, j) ∈ b ∧ k = .inr i := fun k v c a q r ⟨i, j, e, ev⟩ => by
    obtain ⟨c', h1, h2⟩ := slotOwn i j a e ev
    exact ⟨i, j, e, G0.inj k (.inr i) v c _ _ a q h1 r h2⟩
  have offM : ∀ a, lent a → M a = none ∧ f.B a = none ∧ ∃ o, H a = some o := fun a ⟨i, j, e, ev⟩ => by
    obtain ⟨a', t, ds, h1, _, _, a2, xs, ea, g1, g2, g3, g4⟩ := key i j e
    rw [ev] at h1; cases h1
    cases ea
    exact ⟨g3, g4, g1.tracked⟩
  have notB : ∀ {a : Addr}, callP H lent a = none → f.B a = none := fun {a} e => by
    by_cases z : lent a
    · exact (offM a z).2.1
    · cases q : f.B a with
      | none => rfl
      | some u => rw [callP_of z (G0.bys a u q)] at e; cases e
  refine ⟨⟨callP H lent, M, []⟩, ?_, ?_⟩
  · -- the callee's state
    have entv : ∀ (j : Nat) (v : V) (c : Cell), ent (vs ++ dvs) (T ++ dfl.map .sh) [] [] (.inl j) = some (v, c) → (∃ d, c = .sh d ∧ Rep K M v d) ∨ ∃ t ds i, c = .ow t ds ∧ (i, j) ∈ b ∧ vs[j]? = some v ∧ σ[i]? = some (some v) ∧ (Γ[i]? = some (some (.ow t ds)) ∨ Γ[i]? = some (some (.rf t ds))) := fun j v c q => by
      obtain ⟨q1, q2⟩ := ent_temp.mp q
      by_cases hj : j < vs.length
      · rw [List.getElem?_append_left hj] at q1
        rw [List.getElem?_append_left (by rw [A.len]; exact hj)] at q2
        rcases A.kind j v c q1 q2 with z | ⟨t, ds, i, e1, e2, e3⟩
        · exact .inl z
        · exact .inr ⟨t, ds, i, e1, e2, q1, e3⟩
      · rw [List.getElem?_append_right (by omega)] at q1
        rw [List.getElem?_append_right (by rw [A.len]; omega), List.getElem?_map] at q2
        cases hd2 : dfl[j - T.length]? with
        | none => rw [hd2] at q2; cases q2
        | some d =>
          rw [hd2] at q2
          cases q2
          obtain ⟨x, ex, rx⟩ := hd.get hd2
          rw [A.len] at ex
          rw [ex] at q1
          cases q1
          exact .inl ⟨d, rfl, rx⟩
    have noslot : ∀ {v c i}, ent (vs ++ dvs) (T ++ dfl.map .sh) [] [] (.inr i) ≠ some (v, c) := fun {v c i} q => by
      have := (ent_slot.mp q).1
      simp at this
    refine ⟨fun a u e => (callP_some e).2, G.sub, Sub.refl M, fun a o u e _ => ⟨o, e⟩, ?_, rfl, fun i c e => by simp at e, fun k v c q => ?_, fun k k' v c v' c' a q q' r r' => ?_, fun i j e => by simp at e, fun i t ds e => by simp at e⟩
    · rw [List.length_append, List.length_append, List.length_map, A.len, hd.length]
    · match k with
      | .inr i => exact (noslot q).elim
      | .inl j =>
        rcases entv j v c q with ⟨d, rfl, r⟩ | ⟨t, ds, i, rfl, hb, hvj, hv, hg⟩
        · exact r
        · have ok : OwnOk K f M H v t ds := by
            rcases hg with hg | hg
            · exact G.ok (.inr i) _ _ (ent_slot.mpr ⟨hv, hg⟩)
            · exact G.ok (.inr i) _ _ (ent_slot.mpr ⟨hv, hg⟩)
          refine OwnOk.frm ok fun a2 ea => ?_
          subst ea
          exact callP_none ⟨i, j, hb, hvj⟩
    · match k, k' with
      | .inr i, _ => exact (noslot q).elim
      | .inl j, .inr i => exact (noslot q').elim
      | .inl j, .inl j' =>
        rcases entv j v c q with ⟨d, rfl, _⟩ | ⟨t, ds, i, rfl, hb, hvj, _⟩
        · rw [own_sh] at r; cases r
        · rcases entv j' v' c' q' with ⟨d, rfl, _⟩ | ⟨t', ds', i', rfl, hb', hvj', _⟩
          · rw [own_sh] at r'; cases r'
          · obtain ⟨rfl, _⟩ := own_ref r
            obtain ⟨rfl, _⟩ := own_ref r'
            obtain ⟨c1, g1, g2⟩ := slotOwn i j a hb hvj
            obtain ⟨c2, g3, g4⟩ := slotOwn i' j' a hb' hvj'
            have := G0.inj (.inr i) (.inr i') _ _ _ _ a g1 g3 g2 g4
            cases this
            rw [A.uniq i j j' hb hb']
  · -- the way back
    intro M' H' T' Γ' hp
    obtain ⟨pl, pT, pG⟩ := putM_ok hp
    have back : Good K ⟨callP H lent, M, []⟩ M' H' (vs ++ dvs) T' [] [] → Good K f M' H' τ T0 σ Γ' ∧ ∀ a, lent a → ∃ j t ds, ent (vs ++ dvs) T' [] [] (.inl j) = some (.ref a, .ow t ds) := fun G' => by
      have keepA : ∀ {a : Addr} {o : HO}, ¬ lent a → H a = some o → H' a = some o := fun {a o} n e => G'.bys a o (callP_of n e)
      have keepN : ∀ {a : Addr} {o : HO}, ¬ lent a → H a = some o → M a = none → M' a = none := fun {a o} n e m => by
        cases hq : M' a with
        | none => rfl
        | some u =>
          obtain ⟨w, hw⟩ := G'.new a u o hq (callP_of n e)
          have hw' : M a = some w := hw
          rw [m] at hw'; cases hw'
      have lentT : ∀ i j a, (i, j) ∈ b → vs[j]? = some (.ref a) → ∀ t ds, T'[j]? = some (Cell.ow t ds) → ent (vs ++ dvs) T' [] [] (.inl j) = some (.ref a, .ow t ds) := fun i j a e ev t ds eT =>
        ent_temp.mpr ⟨by rw [List.getElem?_append_left (lt_of_get ev)]; exact ev, eT⟩
      have cs1 : ∀ k v c, ent τ T0 σ Γ' k = some (v, c) → (∃ i j a t ds, k = .inr i ∧ (i, j) ∈ b ∧ vs[j]? = some (.ref a) ∧ v = .ref a ∧ (c = .ow t ds ∨ ∃ t0 ds0, c = .rf t ds ∧ Γ[i]? = some (some (.rf t0 ds0))) ∧ OwnOk K f M' H' (.ref a) t ds) ∨ ((∀ i j, k = .inr i → (i, j) ∉ b) ∧ ent τ T0 σ Γ k = some (v, c)) := fun k v c q => by
        match k with
        | .inl j => exact .inr ⟨(fun i j z => by cases z), q⟩
        | .inr i =>
          obtain ⟨q1, q2⟩ := ent_slot.mp q
          rcases pG i c q2 with ⟨j, t, ds, e1, e2, e3⟩ | ⟨nb, e⟩
          · obtain ⟨a, t1, ds1, g1, g2, _, _⟩ := key i j e1
            rw [g2] at q1; cases q1
            have ok : OwnOk K f M' H' (.ref a) t ds := OwnOk.frm (G'.ok _ _ _ (lentT i j a e1 g1 t ds e2)) fun a2 ea => by cases ea; exact (offM a ⟨i, j, e1, g1⟩).2.1
            exact .inl ⟨i, j, a, t, ds, rfl, e1, g1, rfl, e3, ok⟩
          · exact .inr ⟨(fun i' j z => by cases z; exact nb j), ent_slot.mpr ⟨q1, e⟩⟩
      -- who owns now, owned before
      have was : ∀ k v c a, ent τ T0 σ Γ' k = some (v, c) → own v c = some a → ∃ c', ent τ T0 σ Γ k = some (v, c') ∧ own v c' = some a := fun k v c a q r => by
        rcases cs1 k v c q with ⟨i, j, a1, t, ds, rfl, e1, e2, rfl, _, _⟩ | ⟨_, q2⟩
        · obtain ⟨ea, _⟩ := own_ref r
          cases ea
          exact slotOwn i j _ e1 e2
        · exact ⟨c, q2, r⟩
      refine ⟨⟨fun a u e => ?_, G'.sub, G0.m0.trans G'.m0, fun a o u e e' => ?_, G0.tl, by rw [pl]; exact G0.sl, fun i c e => ?_, fun k v c q => ?_, fun k k' v c v' c' a q q' r r' => ?_, fun i j e => ?_, fun i t ds e => ?_⟩, fun a ⟨i, j, e, ev⟩ => ?_⟩
      · have n : ¬ lent a := fun z => by have := (offM a z).2.1; rw [this] at e; cases e
        exact keepA n (G0.bys a u e)
      · have n : ¬ lent a := fun z => by have := (offM a z).2.1; rw [this] at e'; cases e'
        obtain ⟨w, hw⟩ := G'.new a o u e (callP_of n (G0.bys a u e'))
        exact G0.new a w u hw e'
      · rcases pG i c e with ⟨j, t, ds, e1, _⟩ | ⟨_, e⟩
        · obtain ⟨a, _, _, _, e2, _⟩ := key i j e1
          exact ⟨_, e2⟩
        · exact G0.has i c e
      · rcases cs1 k v c q with ⟨i, j, a, t, ds, _, _, _, rfl, rfl | ⟨_, _, rfl, _⟩, ok⟩ | ⟨nb, q⟩
        · exact ok
        · exact ok
        · have hk : ∀ a, own v c = some a → ¬ lent a := fun a r z => by
            obtain ⟨i, j, hb, e⟩ := others k v c a q r z
            exact nb i j e hb
          refine (G0.ok k v c q).step G'.m0 fun a r => ?_
          obtain ⟨o, ho⟩ := G0.ownedSome q r
          obtain ⟨_, _, _, _, _, m, _⟩ := (G0.ok k v c q).own_ok r
          exact ⟨by rw [keepA (hk a r) ho, ho], keepN (hk a r) ho m⟩
      · obtain ⟨c1, g1, g2⟩ := was k v c a q r
        obtain ⟨c2, g3, g4⟩ := was k' v' c' a q' r'
        exact G0.inj k k' v c1 v' c2 a g1 g3 g2 g4
      · rcases pG i _ e with ⟨_, _, _, _, _, z | ⟨_, _, z, _⟩⟩ | ⟨_, e⟩
        · cases z
        · cases z
        · exact G0.nbr i j e
      · rcases pG i _ e with ⟨_, _, _, _, _, z | ⟨t0, ds0, _, z⟩⟩ | ⟨_, e⟩
        · cases z
        · exact G0.args i t0 ds0 z
        · exact G0.args i t ds e
      · obtain ⟨t, ds, eT⟩ := pT i j e
        exact ⟨j, t, ds, lentT i j a e ev t ds eT⟩
    refine ⟨fun G' => (back G').1, fun v c sc G' => ?_⟩
    obtain ⟨G2, hlent⟩ := back G'.pop
    have h0 := G'.ok (.inl 0) v c rfl
    refine G2.push ?_ fun a r k v' c' q r' => ?_
    · cases c with
      | sh d => exact h0
      | ow t ds =>
        obtain ⟨a1, xs, ea, h1, h2, h3, h4⟩ := h0
        exact ⟨a1, xs, ea, h1, h2, h3, notB h4⟩
      | rf t ds => exact sc.elim
      | br i => exact sc.elim
    · -- the new object is no one else's
      obtain ⟨_, _, _, _, _, _, hb0⟩ := h0.own_ok r
      by_cases z : lent a
      · obtain ⟨j, t, ds, hj⟩ := hlent a z
        have z2 := G'.inj (.inl 0) (.inl (j + 1)) v c _ _ a rfl hj r rfl
        cases z2
      · have hH : H a = none := by
          cases q3 : H a with
          | none => rfl
          | some o =>
            have hb0' : callP H lent a = none := hb0
            rw [callP_of z q3] at hb0'; cases hb0'
        by_cases hold : ∃ c2, ent τ T0 σ Γ k = some (v', c2) ∧ own v' c2 = some a
        · obtain ⟨c2, q4, r4⟩ := hold
          obtain ⟨o, ho⟩ := G0.ownedSome q4 r4
          rw [hH] at ho; cases ho
        · refine hold ?_
          match k, q with
          | .inl j, q => exact ⟨c', q, r'⟩
          | .inr i, q =>
            obtain ⟨q1, q2⟩ := ent_slot.mp q
            rcases pG i c' q2 with ⟨j, t, ds, e1, _, _⟩ | ⟨_, e⟩
            · obtain ⟨a', _, _, g1, g2, _⟩ := key i j e1
              rw [g2] at q1
              cases q1
              obtain ⟨ea, _⟩ := own_ref r'
              cases ea
              exact slotOwn i j a e1 g1
            · exact ⟨c', ent_slot.mpr ⟨q1, e⟩, r'⟩
end
/-- f(e, ..), several objects lent -/
def eCallM (n : Nat) (m : MF) (L : AF) : EF := bindL L fun cs Γ => if cs.length = n then (match argsM Γ cs with
  | some (T, b) => (match m T with
    | some (r, T') => (match putM T' b Γ with
      | some Γ' => (match r with
        | .val c => if isSolid c then some (.val c, Γ') else none
        | .exc x => some (.exc x, Γ'))
      | none => none)
    | none => none)
  | none => none) else none
section
variable {X : Cx} {W : WX} {k : Nat} {f C : Addr} {fd : FuncData} {ps : List Str} {m : MF} {x nm : Str} {p pos apos : Pos} {e o : Expr} {es : List Expr} {L : AF} {A : EF}
theorem callM_core {σ : L2.St} {H : Hp} {Q : VK} {f : Frm} {M : Hp} {τ : List V} {T0 : List Cell} {Γ Γ' : Gam} {r : Res} {cs : List Cell} {vs : List V} {n : Nat} (G : Good X.K f M H (vs.reverse ++ τ) (cs.reverse ++ T0) σ Γ) (hl : vs.length = cs.length) (p : PostE X.K W f τ T0 σ Q r Γ')
    (e : (if cs.length = n then (match argsM Γ cs with
      | some (T, b) => (match m T with
        | some (r, T') => (match putM T' b Γ with
          | some Γ' => (match r with
            | .val c => if isSolid c then some (Res.val c, Γ') else none
            | .exc x => some (.exc x, Γ'))
          | none => none)
        | none => none)
      | none => none) else none) = some (r, Γ')) : spM X.K n m (vs ++ []) H Q (WE W σ) := by
  split at e
  · rename_i hn
    refine ⟨by rw [List.append_nil, hl]; exact hn, ?_⟩
    split at e
    · rename_i T b hT
      obtain ⟨fc, gc, back⟩ := G.callM (dvs := []) (dfl := []) hl hT Reps.nil
      split at e
      · rename_i r1 T' hm
        split at e
        · rename_i Γ1 hp
          refine ⟨fc, M, _, r1, T', gc, by rw [List.map_nil, List.append_nil]; exact hm, ?_⟩
          cases r1 with
          | val c =>
            dsimp only at e
            split at e
            · rename_i sc
              cases e
              exact ⟨isSolid_of sc, fun v H' M' g' => p v H' M' ((back M' H' T' Γ' hp).2 v c (isSolid_of sc) g')⟩
            · cases e
          | exc x =>
            cases e
            exact fun d H' M' g' hx => p d H' M' ((back M' H' T' Γ' hp).1 g') hx
        · cases e
      · cases e
    · cases e
  · cases e
theorem de_callM (F : FnG X.prog X.w X.K X.mg X.base k f fd ps m) (hr : RoomG k X.A) (tk : Takes X W) (hm : X.mg x = some (.ref f)) (hk : PySem.W.keepIn X.K (.ref f) = true) (hb : Binds X.K fd ps [])
    (ha : DA X W (e :: es) L) (hg : Gl X x := by rfl) (hdb : (x == ("__debug__" : Str)) = false := by decide) (he : starEach (e :: es) X.env = (false, eval e X.env) :: starEach es X.env := by rfl) (hpl : (backTo pos (starEach es X.env)).any (·.1) = false := by rfl) :
    DE X W (.Call (.Name x p) (e :: es) [] pos) (eCallM ps.length m L) := by
  refine ⟨fun pins s σ H Q I h => ?_⟩
  obtain ⟨f0, M, τ, T, Γ, r, Γ', G, hF, post⟩ := h
  apply wpAny_Call_Name_kw
  refine ld_glob I hg hm ?_ hdb
  have asked : (tL X.K W L) σ H (fun vs H1 => spM X.K ps.length m (vs ++ []) H1 Q (WE W σ)) := runL G hF post fun cs Γ1 vs H1 M1 hl G1 e => callM_core G1 hl post e
  refine PySem.W.callWith_K (h₀ := X.base) I.ok.mod.kin hk ?_ he hpl
  refine thn (ha.run pos pins s σ H _ I asked) ?_
  rintro us s1 ⟨vs, H1, I1, rr, q⟩
  exact ⟨I1.kIn, run_fnG F hr hb .nil tk I1 rr q⟩
end
/-! ### run -/
section
variable {Γ : Gam} {Q : Cell → Gam → Prop} {X : Exc → Gam → Prop}
theorem evCallM {n : Nat} {m : MF} {L : AF} (h : evA L Γ (fun cs Γ1 => cs.length = n ∧ ∃ T b, argsM Γ1 cs = some (T, b) ∧ evM m T (fun c T' => ∃ Γ', putM T' b Γ1 = some Γ' ∧ isSolid c = true ∧ Q c Γ') (fun x T' => ∃ Γ', putM T' b Γ1 = some Γ' ∧ X x Γ')) X) : evE (eCallM n m L) Γ Q X := by
  obtain ⟨r, Γ1, e, q⟩ := h
  unfold eCallM
  cases r with
  | exc x => exact ⟨.exc x, Γ1, by unfold DL.bindL; rw [e], q⟩
  | val cs =>
    obtain ⟨hn, T, b, hT, r, T', em, q⟩ := q
    cases r with
    | val c =>
      obtain ⟨Γ', hp, hs, q⟩ := q
      exact ⟨.val c, Γ', by unfold DL.bindL; rw [e]; dsimp only; rw [if_pos hn, hT]; dsimp only; rw [em]; dsimp only; rw [hp]; dsimp only; rw [if_pos hs], q⟩
    | exc x =>
      obtain ⟨Γ', hp, q⟩ := q
      exact ⟨.exc x, Γ', by unfold DL.bindL; rw [e]; dsimp only; rw [if_pos hn, hT]; dsimp only; rw [em]; dsimp only; rw [hp], q⟩
theorem evCallM2 {n : Nat} {m : MF} {L : AF} (h : evA L Γ (fun cs Γ1 => cs.length = n ∧ evSome (argsM Γ1 cs) fun p => evM m p.1 (fun c T' => evSome (putM T' p.2 Γ1) fun Γ' => isSolid c = true ∧ Q c Γ') (fun x T' => evSome (putM T' p.2 Γ1) fun Γ' => X x Γ')) X) : evE (eCallM n m L) Γ Q X :=
  evCallM (evA_mono h fun cs Γ1 ⟨n0, p, e1, q⟩ => ⟨n0, p.1, p.2, e1, q⟩)
end
end DL

set_option Elab.async false
set_option linter.all false
set_option maxRecDepth 100000
set_option maxHeartbeats 1000000
/-! x, y = a, b by the tuple road: what is stored stays owned -/
namespace DL
open PySem PySem.Spec PyProof.Rows L2
theorem Good.moreH {K : PySem.W.Frag} {f : Frm} {M H : Hp} {τ : List V} {T : List Cell} {σ : L2.St} {Γ : Gam} {p : Addr} {o : HO} (G : Good K f M H τ T σ Γ) (h : H p = none) : Good K f M (upd H p o) τ T σ Γ := by
  have k : ∀ a u, H a = some u → upd H p o a = some u := fun a u e => by
    have n : a ≠ p := fun z => by rw [z, h] at e; cases e
    rw [upd_ne n]
    exact e
  refine ⟨fun a u e => k a u (G.bys a u e), fun a u e => k a u (G.sub a u e), G.m0, G.new, G.tl, G.sl, G.has, fun i v c q => ?_, G.inj, G.nbr, G.args⟩
  refine (G.ok i v c q).step (Sub.refl M) fun a r => ?_
  obtain ⟨u, hu⟩ := G.ownedSome q r
  obtain ⟨_, _, _, _, _, m, _⟩ := (G.ok i v c q).own_ok r
  exact ⟨by rw [k a u hu, hu], m⟩
section
variable {X : Cx} {W : WX} {pos : Pos}
theorem ds_parC (i j : Nat) {x y : Str} {a b : Expr} {L : AF} {px py pt : Pos} {kt k2 pt2} (ha : DA X W [a, b] L) (hN : X.N.Nodup) (hc : X.calm = true := by rfl)
    (hi : X.N[i]? = some x := by rfl) (hj : X.N[j]? = some y := by rfl) (hij : i ≠ j := by decide)
    (hx : Loc X.env.scope x := by first | exact Or.inl rfl | exact Or.inr rfl) (hy : Loc X.env.scope y := by first | exact Or.inl rfl | exact Or.inr rfl)
    (hfx : X.fn x = true ∨ X.env.scope.names.lookup x = some .local := by first | exact .inl rfl | exact .inr rfl | assumption) (hfy : X.fn y = true ∨ X.env.scope.names.lookup y = some .local := by first | exact .inl rfl | exact .inr rfl | assumption)
    (hs : swapsWithSole [.Tuple [.Name x px, .Name y py] kt pt] (.Tuple [a, b] k2 pt2) pos.line X.env = pure false := by rfl)
    (hw : swappedStores [.Tuple [.Name x px, .Name y py] kt pt] (.Tuple [a, b] k2 pt2) X.env = pure none := by rfl)
    (h1 : (assignEach [.Tuple [.Name x px, .Name y py] kt pt] X.env).map (·.2) = [assign (.Tuple [.Name x px, .Name y py] kt pt) X.env] := by rfl)
    (hn : (assignEach [.Name x px, .Name y py] X.env).length = 2 := by rfl) (hst : (assignEach [.Name x px, .Name y py] X.env).findIdx? (·.1) = none := by rfl)
    (ha1 : (assignEach [.Name x px, .Name y py] X.env).map (·.2) = assign (.Name x px) X.env :: (assignEach [.Name y py] X.env).map (·.2) := by rfl)
    (ha2 : (assignEach [.Name y py] X.env).map (·.2) = assign (.Name y py) X.env :: (assignEach [] X.env).map (·.2) := by rfl) :
    DS X W (.Assign [.Tuple [.Name x px, .Name y py] kt pt] (.Tuple [a, b] k2 pt2) pos) (sPar i j L) := by
  refine PSimp (ps_asg (pe_tup ha) (pg_tup (n := 2) hc (pgs_cons (pg_name hN hi hx hfx) (pgs_cons (pg_name hN hj hy hfy) pgs_nil ha2) ha1) hn hst) hs hw h1) fun D σ H h => ?_
  refine runLS h fun f cs Γ1 vs H1 M1 o hl G1 hk p => ?_
  unfold kPar at hk
  split at hk
  · rename_i c e
    split at hk
    · rename_i hse
      rw [Bool.and_eq_true] at hse
      obtain ⟨sc, se⟩ := hse
      split at hk
      · rename_i Γ2 h2
        split at hk
        · rename_i Γ3 h3
          cases hk
          obtain ⟨v, w, rfl⟩ : ∃ v w, vs = [v, w] := by
            match vs, hl with
            | [v, w], _ => exact ⟨v, w, rfl⟩
          have G2 : Good X.K f M1 H1 [w, v] [e, c] σ Γ1 := G1
          have nb : NoBr [c] := fun d hd => by
            rw [List.mem_singleton] at hd
            rw [hd]
            exact (isSolid_of sc).nobr
          refine ⟨by show 2 ≤ sizeLine; rw [sizeLine_eq]; decide, fun q hq => ⟨q, [v, w], rfl, .of upd_same, rfl, v, [w], rfl, w, [], rfl, rfl, ?_⟩⟩
          rw [List.set_comm _ _ hij]
          exact p _ _ M1 (((G2.setS (isSolid_of se) nb h2).setS (isSolid_of sc) NoBr.nil h3).moreH hq)
        · cases hk
      · cases hk
    · cases hk
  · cases hk
end
end DL

set_option Elab.async false
set_option linter.all false
set_option maxRecDepth 100000
set_option maxHeartbeats 1000000
/-! d.update(e) of dicts whose keys are ints or texts -/
namespace DL
open PySem PySem.Spec PyProof.Rows L2
section
variable {X : Cx}
def rUpd : V → List V → Hp → VK → Prop := fun x vs H Q => ∃ (a b : Addr) (kvs more : List (Key × V)), x = .ref a ∧ vs = [.ref b] ∧ a ≠ b ∧ H a = some (.dK kvs) ∧ Rd H b (.dK more) ∧ kvs.length + more.length ≤ sizeLine ∧ Q .non (upd H a (.dK (mergeK kvs more)))
theorem mt_update : MtR X "dict.update" rUpd := by
  intro pins s σ H x xs v us Q I rx rxs h
  obtain ⟨a, b, kvs, more, rfl, rfl, hab, ha, hb, hz, q⟩ := h
  cases rx
  obtain ⟨u, rfl, ru⟩ := rxs.one
  cases ru
  obtain ⟨z, hd, vs, rel, dd⟩ := dk_of I.hok ha
  obtain ⟨z2, hd2, ws, rel2, dd2⟩ := dk_rd I.hok hb
  refine call_meetsIn PySem.F.slot_dict_update dd.typeIs PySem.F.entry_dict_update (PySem.F.args_dict_update_2 _ _) (meets_dict_update (mixKind X.prog X.w) a b hab hd2) ⟨vs, ws, dd, dd2, by rw [← rel.length, ← rel2.length]; exact hz, fun h' dd' _ hs => ?_⟩
  have he : ∃ q, h'.get? a = some q := let ⟨q, _, _, hq, _⟩ := dd'; ⟨q, hq⟩
  exact ⟨.non, _, d_write (t' := s.toks) I (by rw [ha]; exact True.intro) hs he (dk_new (Nat.le_trans (length_mergeK more kvs) hz) hd (KV.merge rel2 rel) dd'), rfl, q⟩
end
/-- a method that changes an object that one owns -/
def SMn (K : PySem.W.Frag) (r : V → List V → Hp → VK → Prop) (g : Tag → List D → List D → Option (D × Tag × List D)) : Prop :=
  ∀ M H a t xs ds vs es d t' ds' Q, Sub M H → M a = none → Own H a t xs → Reps K M xs ds → RepHs K M H vs es → Reps K M vs es → g t ds es = some (d, t', ds') →
    (∀ v xs' o, Rep K M v d → Reps K M xs' ds' → (∀ H', H' a = some o → Own H' a t' xs') → Q v (upd H a o)) → r (.ref a) vs H Q
section
variable {X : Cx} {W : WX} {o e : Expr} {es : List Expr} {L : AF} {name x : Str} {apos cpos opos : Pos} {tn id : String} {r : V → List V → Hp → VK → Prop} {g : Tag → List D → List D → Option (D × Tag × List D)}
theorem mut_coreN {i : Nat} (hs : SMn X.K r g) {σ : L2.St} {H : Hp} {Q : VK} (h : tE X.K W (eMut i tn g L) σ H Q) : tBM X.K tn r (tVar i) (tL X.K W L) σ H Q := by
  obtain ⟨f, M, τ, T, Γ, ra, Γ', G, hF, p⟩ := h
  unfold eMut at hF
  split at hF
  · rename_i t0 ds0 ho
    split at hF
    · rename_i ht
      obtain ⟨a, xs0, hσ, hown, _⟩ := G.slotO ho
      refine ⟨.ref a, hσ, tyV_own hown ht.1 ht.2, runL G hF p fun cs Γ1 vs H1 M1 hl G1 e1 => ?_⟩
      split at e1
      · rename_i es' t1 ds1 hes hso
        split at e1
        · rename_i d t' ds' hg
          split at e1
          · rename_i Γ2 hp
            cases e1
            obtain ⟨rs, G2⟩ := G1.shs hl hes
            obtain ⟨a1, xs1, hσ1, hown1, hr1, hM, _⟩ := G2.slotO hso
            rw [hσ] at hσ1; cases hσ1
            refine hs M1 H1 a t1 xs1 ds1 vs es' d t' ds' Q G2.sub hM hown1 hr1 (repHs_of G2.sub rs) rs hg fun v xs' o hv hx hw => ?_
            have G3 := G2.put hso hσ (hw (upd H1 a o) (by rw [upd_same])) hx hp
            exact p v _ M1 (G3.pushSh hv)
          · cases e1
        · cases e1
      · cases e1
    · cases hF
  · cases hF
theorem de_mutN (i : Nat) (pa : PlainAttrs tn) (slot : Slot tn name id) (hty : typeOf (.builtin id) = pure (.type "method_descriptor")) (hm : MtR X id r) (hs : SMn X.K r g) (ha : DA X W (e :: es) L) (hN : X.N[i]? = some x := by rfl)
    (hv : Vis X.env.scope x := by first | exact Or.inl rfl | exact Or.inr (Or.inl rfl) | exact Or.inr (Or.inr rfl)) (hd : (x == ("__debug__" : Str)) = false := by decide) (hcd : (x == ("__classdict__" : Str)) = false := by decide)
    (hbase : attributeBase (.Name x opos) name X.env (eval (.Name x opos) X.env) = eval (.Name x opos) X.env := by rfl)
    (hfew : ((backTo cpos (starEach (e :: es) X.env)).all (fun x => !x.1) && (backToKw cpos (keywordEach [] X.env)).all (fun x => x.1.isSome)
      && decide ((e :: es).length + ([] : List Keyword).length + (if ([] : List Keyword).isEmpty then 0 else 1) < 30)) = true := by rfl)
    (hline : (apos.endLine == cpos.line) = true := by rfl) (hst : starEach (e :: es) X.env = (false, eval e X.env) :: starEach es X.env := by rfl) (hplain : (backTo cpos (starEach es X.env)).any (·.1) = false := by rfl) :
    DE X W (.Call (.Attribute (.Name x opos) name apos) (e :: es) [] cpos) (eMut i tn g L) :=
  PEimp (pe_bm pa slot hty hm (pe_var hN hv hd hcd) ha hbase hfew hline hst hplain) fun _ _ _ h => mut_coreN hs h
end
theorem KD.zip {K : PySem.W.Frag} {M : Hp} : ∀ {ks : List Key} {xs : List V} {ds : List D}, ks.length = xs.length → Reps K M xs ds → KD K M (ks.zip xs) (ks.zip ds)
  | [], [], [], _, _ => trivial
  | [], _ :: _, _, h, _ => by cases h
  | _ :: _, [], _, h, _ => by cases h
  | [], [], _ :: _, _, r => by unfold Reps at r; exact r.elim
  | k :: ks, x :: xs, [], _, r => by unfold Reps at r; exact r.elim
  | k :: ks, x :: xs, d :: ds, h, r => ⟨rfl, r.of_cons.1, KD.zip (Nat.succ.inj h) r.of_cons.2⟩
def gUpdate : Tag → List D → List D → Option (D × Tag × List D)
  | .dk ks, ds, [.node (.dk ks2) es] => if ks.length + ks2.length ≤ 16777216 then some (.leaf .non, .dk ((mergeKD (ks.zip ds) (ks2.zip es)).map (·.1)), (mergeKD (ks.zip ds) (ks2.zip es)).map (·.2)) else none
  | _, _, _ => none
theorem smUpdate {K : PySem.W.Frag} : SMn K rUpd gUpdate := by
  intro M H a t xs ds vs es d t' ds' Q s hM own r rh rv hg q
  unfold gUpdate at hg
  split at hg
  · rename_i ks ks2 es2
    split at hg
    · rename_i hl
      cases hg
      obtain ⟨x, ys, rfl, r1, r2⟩ := rv.cons_of
      rw [r2.nil_of]
      unfold Rep at r1
      obtain ⟨b, zs, rfl, ⟨hlb, hb⟩, rz⟩ := r1
      obtain ⟨hla, ha⟩ := own
      have hab : a ≠ b := fun z => by
        rcases hb with h | ⟨o, h⟩
        · rw [z, h] at hM; cases hM
        · rw [z, h] at hM; cases hM
      have hm : KD K M (mergeK (ks.zip xs) (ks2.zip zs)) (mergeKD (ks.zip ds) (ks2.zip es2)) := KD.merge (KD.zip hlb rz) (KD.zip hla r)
      refine ⟨a, b, ks.zip xs, ks2.zip zs, rfl, rfl, hab, ha, hb.imp (s b _) (fun ⟨o, h⟩ => ⟨o, s b _ h⟩), ?_, ?_⟩
      · rw [List.length_zip, List.length_zip, sizeLine_eq]
        omega
      · refine q .non ((mergeK (ks.zip xs) (ks2.zip zs)).map (·.2)) _ (by unfold Rep; rfl) hm.reps fun H' e => ?_
        rw [← hm.keys]
        refine ⟨by rw [List.length_map, List.length_map], ?_⟩
        rw [zip_map]
        exact e
    · cases hg
  · cases hg
/-! ### run -/
theorem uUpdate {ks ks2 : List Key} {ds es : List D} {Q : D → Tag → List D → Prop} (h : ks.length + ks2.length ≤ 16777216) (q : Q (.leaf .non) (.dk ((mergeKD (ks.zip ds) (ks2.zip es)).map (·.1))) ((mergeKD (ks.zip ds) (ks2.zip es)).map (·.2))) : evMu (gUpdate (.dk ks) ds [.node (.dk ks2) es]) Q :=
  ⟨_, _, _, by unfold gUpdate; dsimp only; rw [if_pos h], q⟩
/-- more keys, all True -/
def mrkK (kvs : List (Key × D)) (ns : List Int) : List (Key × D) := mergeKD kvs (mrk ns)
theorem mrkK_has {kvs : List (Key × D)} {ns : List Int} {k : Key} : k ∈ (mrkK kvs ns).map (·.1) ↔ k ∈ kvs.map (·.1) ∨ ∃ n ∈ ns, k = Sum.inl n := by
  unfold mrkK
  rw [mergeKD_has]
  unfold mrk
  rw [mergeKD_has, List.map_map]
  constructor
  · rintro (h | h)
    · exact .inl h
    · rcases h with h | h
      · simp at h
      · obtain ⟨n, hn, rfl⟩ := List.mem_map.mp h
        exact .inr ⟨n, hn, rfl⟩
  · rintro (h | ⟨n, hn, rfl⟩)
    · exact .inl h
    · exact .inr (.inr (List.mem_map.mpr ⟨n, hn, rfl⟩))
theorem inK_has {n : Int} {kvs : List (Key × D)} {b : Bool} (h : b = true ↔ (Sum.inl n : Key) ∈ kvs.map (·.1)) : inK (.leaf (.int n)) (.node (.dk (kvs.map (·.1))) (kvs.map (·.2))) = some b := by
  show some (getK (Sum.inl n : Key) (kvs.map (·.1)) (kvs.map (·.2))).isSome = _
  congr 1
  rw [Bool.eq_iff_iff, getK_isSome (by simp), h]
end DL

set_option Elab.async false
set_option linter.all false
set_option maxRecDepth 100000
set_option maxHeartbeats 1000000
/-! t[::-1] of a tuple -/
namespace DL
open PySem PySem.Spec PyProof.Rows L2
theorem adjust_rev (n : Nat) : Builtin.Slice.sliceAdjust none none (-1) (n : Int) = ((n : Int) - 1, -1) := by
  unfold Builtin.Slice.sliceAdjust
  rfl
theorem places_rev (n : Nat) : Builtin.Slice.slicePlaces ((n : Int) - 1) (-1) (-1) = n := by
  unfold Builtin.Slice.slicePlaces
  simp
  try omega
theorem pick_rev (xs : Array Value) : ((List.range xs.size).filterMap fun (k : Nat) => xs[((xs.size : Int) - 1 + (k : Int) * (-1)).toNat]?) = xs.toList.reverse := by
  have e : ∀ l : List Nat, (∀ k ∈ l, k < xs.size) → l.filterMap (fun (k : Nat) => xs[((xs.size : Int) - 1 + (k : Int) * (-1)).toNat]?) = l.map (fun k => xs.toList.reverse.getD k .none) := fun l => by
    induction l with
    | nil => intro _; rfl
    | cons k l ih =>
      intro h
      have hk := h k (by simp)
      have e1 : ((xs.size : Int) - 1 + (k : Int) * (-1)).toNat = xs.size - 1 - k := by omega
      have e2 : xs[xs.size - 1 - k]? = some (xs.toList.reverse.getD k .none) := by
        rw [List.getD_eq_getElem?_getD, List.getElem?_reverse (by simpa using hk), Array.length_toList, Array.getElem?_toList, Array.getElem?_eq_getElem (by omega)]
        rfl
      rw [List.filterMap_cons, e1, e2, List.map_cons, ih fun j hj => h j (by simp [hj])]
  rw [e _ fun k hk => List.mem_range.mp hk]
  refine List.ext_getElem? fun i => ?_
  rw [List.getElem?_map]
  by_cases hi : i < xs.size
  · rw [List.getElem?_range hi]
    have : i < xs.toList.reverse.length := by simpa using hi
    rw [List.getElem?_eq_getElem this]
    show some (xs.toList.reverse.getD i .none) = some (xs.toList.reverse[i])
    rw [List.getD_eq_getElem?_getD, List.getElem?_eq_getElem this]
    rfl
  · rw [List.getElem?_eq_none (by simpa using hi), List.getElem?_eq_none (by simpa using hi)]
    rfl
section
variable {prog : Program} {w : World} {A : Around} {E : Value → Shared → Prop} {s : Shared}
theorem sliceApplied_rev {sl : Addr} {vs : Value} {n : Nat} {Q : Int × Int × Nat → Shared → Prop} (hs : s.heap.IsSliceOf sl .none .none vs) (ps : IsPart vs (some (-1)))
    (h : Q ((n : Int) - 1, -1, n) s) : wpAny (model prog w) A (Builtin.Slice.sliceApplied (.ref sl) (pure (n : Int))) Q E s := by
  obtain ⟨os, hos, hcs, hds⟩ := id hs
  unfold Builtin.Slice.sliceApplied Builtin.Slice.sliceFields
  refine wpAny_bind (wpAny_bind (wpAny_field hos hds (x := .none) rfl (wpAny_bind (wpAny_field hos hds (x := .none) rfl (wpAny_bind (wpAny_field hos hds (x := vs) rfl (wpAny_pure ?_)))))))
  refine wpAny_bind (HT.slicePart_ ps ?_)
  show wpAny _ _ (if ((-1 : Int) == 0) = true then _ else _) _ _ s
  rw [if_neg (by decide)]
  refine wpAny_bind (HT.slicePart_ .none (wpAny_bind (HT.slicePart_ .none (wpAny_bind (wpAny_pure ?_)))))
  show wpAny _ _ (match Builtin.Slice.sliceAdjust none none (-1) (n : Int) with | (lo, hi) => pure (lo, (-1 : Int), Builtin.Slice.slicePlaces lo hi (-1))) _ _ s
  rw [adjust_rev n]
  show wpAny _ _ (pure ((n : Int) - 1, (-1 : Int), Builtin.Slice.slicePlaces ((n : Int) - 1) (-1) (-1))) _ _ s
  rw [places_rev]
  exact wpAny_pure h
theorem getItem_tuple_rev {t sl : Addr} {items : Array Value} {vs : Value} {Q : Value → Shared → Prop} (ht : IsTup s.heap t items) (hs : s.heap.IsSliceOf sl .none .none vs) (ps : IsPart vs (some (-1)))
    (h : Q (.ref s.heap.objs.size) { s with heap := s.heap.push { cls := .type "tuple", data := .seq items.toList.reverse.toArray } })
    (hsz : items.size ≤ sizeLine) : wpAny (model prog w) A (getItem (.ref t) (.ref sl)) Q E s := by
  have htake : sizeOk (.seq items.toList.reverse.toArray) := by
    show items.toList.reverse.toArray.size ≤ sizeLine
    rw [List.size_toArray, List.length_reverse, Array.length_toList]
    exact hsz
  obtain ⟨os, hos, hcs, hds⟩ := id hs
  have hTs : s.TypeIs (.ref sl) "slice" := ⟨os, hos, hcs⟩
  unfold getItem
  try with_reducible refine wpAny_holding ?_
  first | refine wpAny_bind (wpAny_pure ?_) | skip
  refine wpAny_bind (wpAny_sequenceKey ht.typeIs (by decide) ?_)
  refine wpAny_bind (wpAny_callSpecial?_slot (name := Str.ofString "__getitem__") ht.typeIs PyProof.Rows.slot_tuple_getitem
    (wpAny_call_entry PyProof.Rows.slot_tuple_getitem ht.typeIs entry_tuple_getitem ?_ (args_tuple_getitem _ _)))
  show wpAny _ _ (Builtin.Tuple.tupleItemsOf (.ref t) >>= _) _ _ s
  refine wpAny_bind (PyProof.Rows.tupleItemsOf_ ht ?_)
  refine wpAny_bind (wpAny_typeOf hTs ?_)
  rw [if_pos (by decide)]
  refine wpAny_bind (sliceApplied_rev hs ps ?_)
  have hno : ¬ ((((items.size : Int) - 1) == 0 && (-1 : Int) == 1 && items.size == items.size) = true) := by
    intro q
    rw [Bool.and_eq_true, Bool.and_eq_true] at q
    have q1 : (-1 : Int) = 1 := eq_of_beq q.1.2
    omega
  show wpAny _ _ (if (((items.size : Int) - 1) == 0 && (-1 : Int) == 1 && items.size == items.size) = true then _ else _) _ _ s
  rw [if_neg hno, pick_rev]
  first
    | exact wpAny_bind (m := Builtin.Tuple.tupleExact _) (wpAny_newObj_type (wpAny_pure ⟨_, rfl, wpAny_pure h⟩) htake)
    | exact wpAny_bind (m := Builtin.Tuple.tupleExact _) (wpAny_newObj_type (wpAny_bind (wpAny_pure (wpAny_pure ⟨_, rfl, wpAny_pure h⟩))) htake)
    | exact wpAny_bind (wpAny_bind (m := Builtin.Tuple.tupleExact _) (wpAny_newObj_type (wpAny_pure (wpAny_pure ⟨_, rfl, wpAny_pure h⟩)) htake))
    | exact wpAny_bind (wpAny_bind (m := Builtin.Tuple.tupleExact _) (wpAny_newObj_type (wpAny_pure ⟨_, rfl, wpAny_pure h⟩) htake))
end
section
variable {X : Cx} {W : WX} {A : EF} {e : Expr}
def rRev (K : PySem.W.Frag) : V → Hp → VK → Prop := fun x H Q => (∃ a xs, x = .ref a ∧ SqL K H a xs ∧ ∀ p, H p = none → Q (.ref p) (upd H p (.lst xs.reverse))) ∨ (∃ a xs, x = .ref a ∧ SqT K H a xs ∧ ∀ p, H p = none → Q (.ref p) (upd H p (.tup xs.reverse)))
theorem pe_rev {te : TE} {k : Nat} {p1 p2 p3 pos : Pos} (he : PE X e te) : PE X (.Subscript e (.Slice none none (some (.UnaryOp .USub (.Constant (.int 1) k p1) p2)) p3) pos) (fun σ H Q => te σ H fun x H1 => rRev X.K x H1 Q) := by
  refine ⟨fun pins s σ H Q I h => ?_⟩
  refine Subscript_ (thn (he.run pins s σ H _ I h) fun v s1 ⟨x, H1, I1, r1, q1⟩ => ?_)
  have hst : PO X (some (.UnaryOp .USub (.Constant (.int 1) k p1) p2)) (tPart (tUn (rU fun i => .int (-i)) (tC (.int 1)))) := po_some (pe_un un_neg pe_int)
  refine wpAny_Slice (thn (po_none.run pins s1 σ H1 (fun o H2 => o = none ∧ H2 = H1) I1 ⟨rfl, rfl⟩) fun vl s2 ⟨l, H2, I2, pl, el, e2⟩ => ?_)
  subst el e2
  cases pl
  refine thn (po_none.run pins s2 σ H2 (fun o H3 => o = none ∧ H3 = H2) I2 ⟨rfl, rfl⟩) fun vu s3 ⟨u, H3, I3, pu, eu, e3⟩ => ?_
  subst eu e3
  cases pu
  refine thn (hst.run pins s3 σ H3 (fun o H4 => o = some (-1) ∧ H4 = H3) I3 ⟨1, rfl, -1, rfl, rfl, rfl⟩) fun vs s4 ⟨o, H4, I4, ps, eo, e4⟩ => ?_
  subst eo e4
  have I5 : Inv X pins σ H4 { s4 with heap := s4.heap.push { cls := .type "slice", data := .fields #[.none, .none, vs] } } := I4.kept (t' := s4.toks) fun b ob q => Heap.get?_push_of_some _ q
  rcases q1 with q1 | q1
  · obtain ⟨a, xs, ex, hx, q⟩ := q1
    subst ex
    cases r1
    obtain ⟨its, r, ht, hz⟩ := I5.list hx
    have hlen := r.length
    show wpAny (model X.prog X.w) X.A (subscriptTail e (.Slice none none (some (.UnaryOp .USub (.Constant (.int 1) k p1) p2)) p3) (.ref a) (.ref s4.heap.objs.size)) (EP X pins σ Q) X.xe { s4 with heap := s4.heap.push { cls := .type "slice", data := .fields #[.none, .none, vs] } }
    refine tail_any (ops := [.ref a, .ref s4.heap.objs.size]) ht.isList.typeIs (PySem.slot_list_getitem.lookup) ?_ (by with_unfolding_all rfl)
    refine wpAny_getItem_list_slice ht.isList (Heap.IsSliceOf.new _ .none .none vs) .none .none ps (by decide) ?_ (by rw [List.size_toArray]; omega)
    rw [PySem.W.krv_pick]
    refine ⟨.ref _, _, I5.laid (t' := s4.toks) (o := .lst xs.reverse) (fun b ob q => Heap.get?_push_of_some _ q) (Nat.le_refl _) ?_, rfl, q _ (I5.hok.fresh (Nat.le_refl _))⟩
    exact ⟨by rw [List.length_reverse]; exact hz, _, 0, r.reverse, Heap.get?_push_size _ rfl⟩
  · obtain ⟨a, xs, ex, hx, q⟩ := q1
    subst ex
    cases r1
    obtain ⟨its, r, ht, hz⟩ := I5.tuple hx
    have hlen := r.length
    show wpAny (model X.prog X.w) X.A (subscriptTail e (.Slice none none (some (.UnaryOp .USub (.Constant (.int 1) k p1) p2)) p3) (.ref a) (.ref s4.heap.objs.size)) (EP X pins σ Q) X.xe { s4 with heap := s4.heap.push { cls := .type "slice", data := .fields #[.none, .none, vs] } }
    refine tail_any (ops := [.ref a, .ref s4.heap.objs.size]) ht.typeIs (PyProof.Rows.slot_tuple_getitem.lookup) ?_ (by with_unfolding_all rfl)
    refine getItem_tuple_rev ht (Heap.IsSliceOf.new _ .none .none vs) ps ?_ (by rw [List.size_toArray]; omega)
    refine ⟨.ref _, _, I5.laid (t' := s4.toks) (o := .tup xs.reverse) (fun b ob q => Heap.get?_push_of_some _ q) (Nat.le_refl _) ?_, rfl, q _ (I5.hok.fresh (Nat.le_refl _))⟩
    exact ⟨by rw [List.length_reverse]; exact hz, _, r.reverse, IsTup.new _ _⟩
/-- xs[::-1] -/
def gRev : D → Option Out
  | .node .lst ds => some (.new .lst ds.reverse)
  | .node .scr ds => some (.new .lst ds.reverse)
  | .node .tup ds => some (.new .tup ds.reverse)
  | _ => none
theorem s1Rev {K : PySem.W.Frag} : S1 K (rRev K) gRev := by
  intro M H x d o Q s rx hg q
  unfold gRev at hg
  split at hg
  · cases hg
    obtain ⟨a, xs, rfl, h3, rs⟩ := rx
    exact .inl ⟨a, xs, rfl, .of h3, fun p hp => q.2 p _ hp rs.reverse⟩
  · cases hg
    obtain ⟨a, xs, rfl, h3, rs⟩ := rx
    exact .inl ⟨a, xs, rfl, h3, fun p hp => q.2 p _ hp rs.reverse⟩
  · cases hg
    obtain ⟨a, xs, rfl, h3, rs⟩ := rx
    exact .inr ⟨a, xs, rfl, h3, fun p hp => q.2 p _ hp rs.reverse⟩
  · cases hg
theorem de_rev {k : Nat} {p1 p2 p3 pos : Pos} (he : DE X W e A) : DE X W (.Subscript e (.Slice none none (some (.UnaryOp .USub (.Constant (.int 1) k p1) p2)) p3) pos) (eUn gRev A) :=
  PEimp (pe_rev he) fun _ _ _ h => un_core s1Rev h
end
section
variable {Γ : Gam} {Q : Cell → Gam → Prop} {xs ys : List D}
theorem vRepr0 (q : Q (.sh (.leaf (.str "{}"))) Γ) : evG (gRepr [.node (.dk []) []]) Γ Q := evG_old rfl q
theorem vRevL (q : Q (.ow .lst xs.reverse) Γ) : evG (gRev (.node .lst xs)) Γ Q := evG_lst rfl q
theorem vRevT (q : Q (.sh (.node .tup xs.reverse)) Γ) : evG (gRev (.node .tup xs)) Γ Q := evG_tup rfl q
theorem vAddT (h : xs.length + ys.length ≤ 16777216) (q : Q (.sh (.node .tup (xs ++ ys))) Γ) : evG (gAdd (.node .tup xs) (.node .tup ys)) Γ Q := by
  cases xs with
  | nil => exact evG_old (by unfold gAdd; dsimp only; rw [if_pos h]; rfl) q
  | cons x xs =>
    cases ys with
    | nil =>
      rw [List.append_nil] at q
      exact evG_old (by unfold gAdd; dsimp only; rw [if_pos h]; rfl) q
    | cons y ys => exact evG_tup (by unfold gAdd; dsimp only; rw [if_pos h]; rfl) q
theorem vCutT {lo hi : Option Int} (q : Q (.sh (.node .tup (cutD xs lo hi))) Γ) : evG (gCut lo hi (.node .tup xs)) Γ Q := by
  by_cases hw : HT.sIx xs.length 0 lo = 0 ∧ HT.sIx xs.length xs.length hi = xs.length
  · refine evG_old (d := .node .tup xs) (by unfold gCut; dsimp only; rw [if_pos hw]) ?_
    have e : cutD xs lo hi = xs := by
      unfold cutD
      rw [hw.1, hw.2]
      simp
    rw [e] at q
    exact q
  · exact evG_tup (by unfold gCut; dsimp only; rw [if_neg hw]) q
end
end DL

set_option Elab.async false
set_option linter.all false
set_option maxRecDepth 100000
set_option maxHeartbeats 1000000
/-! str of an int or a str -/
namespace DL
open PySem PySem.Spec PyProof.Rows L2
theorem call_str1 {X : Cx} : CallR X (.type "str") (fun xs H Q => (∃ i : Int, xs = [.int i] ∧ i.natAbs.log2 < 1920 ∧ Q (.str (toString i)) H) ∨ ∃ a, xs = [.str a] ∧ Q (.str a) H) := CallRor call_str_int SkE.call_str_str
def gStr : List D → Option Out
  | [.leaf (.int i)] => if i.natAbs.log2 < 1920 then some (.old (.leaf (.str (toString i)))) else none
  | [.leaf (.str a)] => some (.old (.leaf (.str a)))
  | _ => none
theorem shStr {K : PySem.W.Frag} : SH K (fun xs H Q => (∃ i : Int, xs = [.int i] ∧ i.natAbs.log2 < 1920 ∧ Q (.str (toString i)) H) ∨ ∃ a, xs = [.str a] ∧ Q (.str a) H) gStr := by
  intro M H xs ds o Q s r h q
  unfold gStr at h
  split at h
  · split at h
    · rename_i hl
      cases h
      obtain ⟨x, rfl, hx⟩ := r.one
      cases (show x = _ from hx)
      exact .inl ⟨_, rfl, hl, q _ (by unfold Rep; rfl)⟩
    · cases h
  · cases h
    obtain ⟨x, rfl, hx⟩ := r.one
    cases (show x = _ from hx)
    exact .inr ⟨_, rfl, q _ (by unfold Rep; rfl)⟩
  · cases h
section
variable {Γ : Gam} {Q : Cell → Gam → Prop}
theorem vStrI {i : Int} (h : i.natAbs.log2 < 1920) (q : Q (.sh (.leaf (.str (toString i)))) Γ) : evG (gStr [.leaf (.int i)]) Γ Q := evG_old (by unfold gStr; dsimp only; rw [if_pos h]) q
theorem vStrS {a : Str} (q : Q (.sh (.leaf (.str a))) Γ) : evG (gStr [.leaf (.str a)]) Γ Q := evG_old rfl q
end
end DL

open DL
local macro_rules | `(tactic| walk_at "kt") => `(tactic| first | exact kt_NoneType_bool | exact kt_NoneType_int | exact kt_NoneType_str | exact kt_NoneType_list | exact kt_NoneType_tuple | exact kt_NoneType_dict | exact kt_bool_bool | exact kt_bool_int | exact kt_bool_str | exact kt_bool_list | exact kt_bool_tuple | exact kt_bool_dict | exact kt_int_bool | exact kt_int_int | exact kt_int_str | exact kt_int_list | exact kt_int_tuple | exact kt_int_dict | exact kt_str_bool | exact kt_str_int | exact kt_str_str | exact kt_str_list | exact kt_str_tuple | exact kt_str_dict | exact kt_list_bool | exact kt_list_int | exact kt_list_str | exact kt_list_list | exact kt_list_tuple | exact kt_list_dict | exact kt_tuple_bool | exact kt_tuple_int | exact kt_tuple_str | exact kt_tuple_list | exact kt_tuple_tuple | exact kt_tuple_dict | exact kt_dict_bool | exact kt_dict_int | exact kt_dict_str | exact kt_dict_list | exact kt_dict_tuple | exact kt_dict_dict | fail)
local macro_rules | `(tactic| walk_at "sd") => `(tactic| first | assumption | omega | decide | (simp; done) | (simp; omega) | fail)
local macro_rules | `(tactic| walk_at "evS") => `(tactic| first
  | with_reducible refine evSeq ?_
  | with_reducible refine evSet ?_
  | with_reducible refine evSIf ?_
  | with_reducible refine evSNil ?_
  | with_reducible refine evRet ?_
  | with_reducible refine evExpr ?_
  | with_reducible refine evSFldO ?_
  | with_reducible refine evStore ?_
  | with_reducible refine evPar ?_
  | with_reducible refine evPar3 ?_
  | with_reducible refine evSFor ?_
  | with_reducible refine evAsg ?_
  | with_reducible refine evPass ?_
  | with_reducible refine evBreak ?_
  | with_reducible refine evCont ?_
  | with_reducible refine evRetN ?_
  | fail)
local macro_rules | `(tactic| walk_at "evE") => `(tactic| first
  | with_reducible refine evC ?_
  | with_reducible refine evVar _ (by with_unfolding_all exact rfl) ?_
  | with_reducible refine evBin ?_
  | with_reducible refine evKeepN ?_
  | with_reducible refine evCallE ?_
  | with_reducible refine evCallN ?_
  | with_reducible refine evCallM2 ?_
  | with_reducible refine evMake ?_
  | with_reducible refine evMeth ?_
  | with_reducible refine evOfL ?_
  | with_reducible refine evBI ?_
  | with_reducible refine evSolidN ?_
  | with_reducible refine evUn ?_
  | with_reducible refine evMet ?_
  | (with_reducible refine evMut_id ?_; first | with_reducible refine evMutN (evSt_mk _ _ (by with_unfolding_all exact rfl) ⟨by with_unfolding_all exact rfl, by with_unfolding_all decide⟩) ?_ | fail)
  | with_reducible refine evEand ?_
  | with_reducible refine evEor ?_
  | with_reducible refine evEnot ?_
  | with_reducible refine evIf ?_
  | with_reducible refine evChain ?_
  | with_reducible refine evDict0 ?_
  | with_reducible refine evDisp ?_
  | with_reducible refine evSlice ?_
  | with_reducible refine evD ?_
  | with_reducible refine evLc ?_
  | fail)
local macro_rules | `(tactic| walk_at "evT") => `(tactic| first
  | with_reducible refine evTof ?_
  | with_reducible refine evTand ?_
  | with_reducible refine evTor ?_
  | with_reducible refine evTnot ?_
  | with_reducible refine evTyes ?_
  | fail)
local macro_rules | `(tactic| walk_at "evA") => `(tactic| first
  | with_reducible refine evCons ?_
  | with_reducible refine evNil ?_
  | with_reducible refine evApp ?_
  | with_reducible refine evLen ?_
  | fail)
local macro_rules | `(tactic| walk_at "evSm") => `(tactic| first
  | (with_reducible refine evPut_id ?_; first | (with_reducible refine evPutF (by with_unfolding_all first | exact rfl | assumption) (by with_unfolding_all exact rfl) ?_) | fail)
  | (with_reducible refine evR1_id ?_; first | with_reducible refine evRange1 (by walk_at "sd") ?_ | fail)
  | (with_reducible refine evR2_id ?_; first | with_reducible refine evRange2 (by walk_at "sd") ?_ | fail)
  | with_reducible refine evSome_mk _ (by with_unfolding_all exact rfl) ?_
  | fail)
local macro_rules | `(tactic| walk_at "evPP") => `(tactic| first
  | with_reducible refine evNm ?_
  | with_reducible refine evPTup (by with_unfolding_all exact rfl) ?_
  | with_reducible refine evPLst (by with_unfolding_all exact rfl) ?_
  | fail)
local macro_rules | `(tactic| walk_at "evX") => `(tactic| first
  | (with_reducible refine ev2_id ?_; first | with_reducible refine ev2_mk _ _ (by with_unfolding_all exact rfl) (by with_unfolding_all exact rfl) ?_ | fail)
  | (with_reducible refine evKp_id ?_; first | with_reducible refine evKp_mk _ _ (by with_unfolding_all exact rfl) ?_ | fail)
  | (with_reducible refine evSome_id ?_; first | walk_at "evSm" | fail)
  | (with_reducible refine evL_id ?_; first | with_reducible refine evL_mk _ (by with_unfolding_all exact rfl) ?_ | fail)
  | (with_reducible refine evSd_id ?_; first | with_reducible refine evSd_mk _ _ (by with_unfolding_all exact rfl) ?_ | fail)
  | (with_reducible refine ev1_id ?_; first | with_reducible refine ev1_mk _ (by with_unfolding_all exact rfl) ?_ | fail)
  | (with_reducible refine evBl_id ?_; first | with_reducible refine evBl_mk (by with_unfolding_all exact rfl) ?_ | fail)
  | (with_reducible refine evSt_id ?_; first | with_reducible refine evSt_mk _ _ (by with_unfolding_all exact rfl) ?_ | fail)
  | (with_reducible refine evInt_id ?_; first | with_reducible refine evInt_mk (by with_unfolding_all exact rfl) ?_ | fail)
  | (with_reducible refine evI_id ?_; first | with_reducible refine evIOfL ?_ | with_reducible refine evISeq ?_ | fail)
  | (with_reducible refine evP_id ?_; first | walk_at "evPP" | fail)
  | (with_reducible refine evPs_id ?_; first | with_reducible refine evPCons ?_ | with_reducible refine evPNil ?_ | fail)
  | (with_reducible refine evO_id ?_; first | with_reducible refine evONone ?_ | with_reducible refine evOSome ?_ | fail)
  | (with_reducible refine evIns_id ?_; first | with_reducible refine evIns_mk _ _ (by with_unfolding_all exact rfl) (by decide) ?_ | fail)
  | (with_reducible refine evRc_id ?_; first | with_reducible refine evRc_mk _ _ (by with_unfolding_all exact rfl) (by with_unfolding_all decide) ?_ | fail)
  | (with_reducible refine evNoB_id ?_; first | with_reducible refine evNoB_mk _ (by with_unfolding_all exact rfl) ?_ | fail)
  | (with_reducible refine evOw_id ?_; first | with_reducible refine evOw_mk ?_ | fail)
  | (with_reducible refine evP2_id ?_; first | with_reducible refine evP2_mk _ _ (by with_unfolding_all exact rfl) ?_ | fail)
  | (with_reducible refine evTy_id ?_; first | with_reducible refine evTy_mk _ (by with_unfolding_all exact rfl) ⟨by with_unfolding_all exact rfl, by with_unfolding_all decide⟩ ?_ | fail)
  | (with_reducible refine evDL_id ?_; first | with_reducible refine evDL_mk _ _ (by with_unfolding_all exact rfl) (by with_unfolding_all exact rfl) ?_ | fail)
  | (with_reducible refine evPr_id ?_; first | with_reducible refine evPr_mk (by with_unfolding_all exact rfl) (by with_unfolding_all exact rfl) ?_ | fail)
  | (with_reducible refine evPr3_id ?_; first | with_reducible refine evPr3_mk (by with_unfolding_all exact rfl) (by with_unfolding_all exact rfl) (by with_unfolding_all exact rfl) ?_ | fail)
  | (with_reducible refine ev2B_id ?_; first | with_reducible refine ev2B_lt (by with_unfolding_all exact rfl) (by with_unfolding_all exact rfl) ?_ | with_reducible refine ev2B_le (by with_unfolding_all exact rfl) (by with_unfolding_all exact rfl) ?_ | with_reducible refine ev2B_gt (by with_unfolding_all exact rfl) (by with_unfolding_all exact rfl) ?_ | with_reducible refine ev2B_ge (by with_unfolding_all exact rfl) (by with_unfolding_all exact rfl) ?_ | fail)
  | fail)
local macro_rules | `(tactic| walk_at "evF") => `(tactic| first
  | (with_reducible refine fk_id ?_; first | with_reducible refine fkT ?_ | with_reducible refine fkF ?_ | with_reducible refine fkN ?_ | ((with_reducible refine fkD_id ?_; first | with_reducible refine fkDT (by walk_at "sd") ?_ | with_reducible refine fkDF (by walk_at "sd") ?_ | with_reducible refine fkD (fun hb => ?_) (fun hb => ?_) | fail)) | fail)
  | (with_reducible refine and_id ?_; first | with_reducible refine ⟨by with_unfolding_all exact rfl, ?_⟩ | fail)
  | fail)
local macro_rules | `(tactic| walk_at "evg") => `(tactic| first
  | with_reducible refine vAdd ?_
  | with_reducible refine vSub ?_
  | (with_reducible refine evG_2 gMul ?_; first | with_reducible refine vMul (by walk_at "sd") ?_ | fail)
  | (with_reducible refine evG_2 gMod ?_; first | with_reducible refine vMod (by walk_at "sd") ?_ | fail)
  | (with_reducible refine evG_2 gFdiv ?_; first | with_reducible refine vFdiv (by walk_at "sd") ?_ | fail)
  | (with_reducible refine evG_2 gIx ?_; first | with_reducible refine vIxL (by with_unfolding_all exact rfl) ?_ | with_reducible refine vIxT (by with_unfolding_all exact rfl) ?_ | fail)
  | (with_reducible refine evG_L gTupD ?_; first | (with_reducible refine vTup (by first | decide | walk_at "sd") ?_) | fail)
  | (with_reducible refine evG_L gLstD ?_; first | (with_reducible refine vLst (by first | decide | walk_at "sd") ?_) | fail)
  | (with_reducible refine evG_1 (gFld _ _) ?_; first | with_reducible refine vFld _ (by with_unfolding_all exact rfl) ?_ | fail)
  | (with_reducible refine evG_2 gPow ?_; first | with_reducible refine vPow (by decide) (by simp only [Int.reduceToNat, Int.reducePow]; rfl) ?_ | fail)
  | with_reducible refine vNeg ?_
  | with_reducible refine vLt ?_
  | with_reducible refine vLe ?_
  | with_reducible refine vGt ?_
  | with_reducible refine vGe ?_
  | with_reducible refine vEqI ?_
  | with_reducible refine vNeI ?_
  | with_reducible refine vEqS ?_
  | with_reducible refine vNeS ?_
  | with_reducible refine vEqB ?_
  | with_reducible refine vNeB ?_
  | with_reducible refine vIsNn ?_
  | with_reducible refine vIsNd ?_
  | with_reducible refine vIsNi ?_
  | with_reducible refine vIsNs ?_
  | with_reducible refine vNotNn ?_
  | with_reducible refine vNotNd ?_
  | with_reducible refine vNotNi ?_
  | with_reducible refine vNotNs ?_
  | with_reducible refine vIsN ?_
  | with_reducible refine vNotN ?_
  | with_reducible refine vIsB ?_
  | with_reducible refine vNotB ?_
  | with_reducible refine vLenL ?_
  | with_reducible refine vLenT ?_
  | with_reducible refine vLenS ?_
  | with_reducible refine vLenD ?_
  | with_reducible refine vAbs ?_
  | with_reducible refine vMin2 ?_
  | with_reducible refine vMax2 ?_
  | with_reducible refine vListL ?_
  | with_reducible refine vSorted ?_
  | with_reducible refine vListT ?_
  | with_reducible refine vListS ?_
  | with_reducible refine vTupleL ?_
  | with_reducible refine vTupleS ?_
  | with_reducible refine vCutL ?_
  | with_reducible refine vCutS ?_
  | with_reducible refine vCutT ?_
  | with_reducible refine vRevL ?_
  | with_reducible refine vRevT ?_
  | (with_reducible refine evG_2 gAdd ?_; first | with_reducible refine vAddL (by walk_at "sd") ?_ | with_reducible refine vAddT (by walk_at "sd") ?_ | fail)
  | (with_reducible refine evG_L gIsi ?_; first | (with_reducible refine vIsi (by first | with_unfolding_all exact rfl | assumption) (by walk_at "kt") ?_) | fail)
  | fail)
local macro_rules | `(tactic| walk_at "ev") => `(tactic| first
  | (with_reducible refine evE_id ?_; walk_at "evE")
  | (with_reducible refine evG_id ?_; walk_at "evg")
  | (with_reducible refine evA_id ?_; walk_at "evA")
  | walk_at "evX"
  | (with_reducible refine evS_id ?_; walk_at "evS")
  | (with_reducible refine evT_id ?_; walk_at "evT")
  | walk_at "evF"
  | (with_reducible refine evM_id ?_; walk_at "evM")
  | fail)

namespace Gm
open PySem PySem.Spec PyProof.Rows L2 DL

abbrev penK : List Key := [Sum.inr "cells", Sum.inr "turn", Sum.inr "rest"]
section
variable {Γ : Gam} {Q : Cell → Gam → Prop} {c t r : D}
theorem kCR : ¬ (("cells" : Str) = "rest") := by decide
theorem kTR : ¬ (("turn" : Str) = "rest") := by decide
theorem kRT : ¬ (("rest" : Str) = "turn") := by decide
theorem kCT : ¬ (("cells" : Str) = "turn") := by decide
theorem penCells (q : Q (.sh c) Γ) : evG (gGet (.node (.dk penK) [c, t, r]) (.leaf (.str "cells"))) Γ Q := vGetS (by simp [getK]) q
theorem penTurn (q : Q (.sh t) Γ) : evG (gGet (.node (.dk penK) [c, t, r]) (.leaf (.str "turn"))) Γ Q := vGetS (by simp [getK, kCT]) q
theorem penRest (q : Q (.sh r) Γ) : evG (gGet (.node (.dk penK) [c, t, r]) (.leaf (.str "rest"))) Γ Q := vGetS (by simp [getK, kCR, kTR]) q
theorem stTurn {Q : Tag → List D → Prop} {d : D} (q : Q (.dk penK) [c, d, r]) : evPt (gStore (.dk penK) [c, t, r] (.leaf (.str "turn")) d) Q := evPt_mk _ _ (by simp [gStore, putK2, putL, kCT, kRT]) q
theorem stRest {Q : Tag → List D → Prop} {d : D} (q : Q (.dk penK) [c, t, d]) : evPt (gStore (.dk penK) [c, t, r] (.leaf (.str "rest")) d) Q := evPt_mk _ _ (by simp [gStore, putK2, putL, kCR, kTR]) q
end
/-- a pen -/
abbrev penC (ns : List Int) (t r : Int) : Cell := .ow (.dk penK) [.node .lst (intsD ns), .leaf (.int t), .leaf (.int r)]
abbrev penR (ns : List Int) (t r : Int) : Cell := .rf (.dk penK) [.node .lst (intsD ns), .leaf (.int t), .leaf (.int r)]
theorem atI_ints {ns : List Int} {i : Int} (h0 : 0 ≤ i) (h1 : i < ns.length) : ∃ v, atI (intsD ns) i = some (.leaf (.int v)) := by
  obtain ⟨d, h2, h3⟩ := atI_of (l := intsD ns) h0 (by simpa using h1)
  rw [List.getElem?_map] at h2
  cases e : ns[i.toNat]? with
  | none => rw [e] at h2; cases h2
  | some v => rw [e] at h2; cases h2; exact ⟨v, h3⟩
theorem mod_lt {a b : Int} (h : 0 < b) : 0 ≤ a % b ∧ a % b < b := ⟨Int.emod_nonneg a (by omega), Int.emod_lt_of_pos a h⟩
theorem mul_lt {a b A B : Int} (ha : 0 ≤ a) (hb : 0 ≤ b) (h1 : a ≤ A) (h2 : b ≤ B) : 0 ≤ a * b ∧ a * b ≤ A * B :=
  ⟨Int.mul_nonneg ha hb, Int.mul_le_mul h1 h2 hb (by omega)⟩
theorem at_five {a : Int} {xs : List D} {p q r s u : D} (e : xs = [p, q, r, s, u]) : ∃ d, atI xs (a % 5) = some d ∧ (d = p ∨ d = q ∨ d = r ∨ d = s ∨ d = u) := by
  subst e
  have h := mod_lt (a := a) (b := 5) (by decide)
  have : a % 5 = 0 ∨ a % 5 = 1 ∨ a % 5 = 2 ∨ a % 5 = 3 ∨ a % 5 = 4 := by omega
  rcases this with h | h | h | h | h <;> rw [h]
  · exact ⟨p, rfl, .inl rfl⟩
  · exact ⟨q, rfl, .inr (.inl rfl)⟩
  · exact ⟨r, rfl, .inr (.inr (.inl rfl))⟩
  · exact ⟨s, rfl, .inr (.inr (.inr (.inl rfl)))⟩
  · exact ⟨u, rfl, .inr (.inr (.inr (.inr rfl)))⟩
section
variable {Γ : Gam} {Q : Cell → Gam → Prop} {i j : Int} {ns : List Int}
theorem vNe0 (q : Q (.sh (.leaf (.bl (!decide (ns = []))))) Γ) : evG (gNe (.node .lst (intsD ns)) (.node .lst [])) Γ Q := vNe (eqD_ints ns []) q
theorem vEq0 (q : Q (.sh (.leaf (.bl (decide (ns = []))))) Γ) : evG (gEq (.node .lst (intsD ns)) (.node .lst [])) Γ Q := vEq (eqD_ints ns []) q
theorem vLenI (q : Q (.sh (.leaf (.int ns.length))) Γ) : evG (gLen [.node .lst (intsD ns)]) Γ Q := vLenL (by rw [List.length_map]; exact q)
theorem vIxI (h0 : 0 ≤ i) (h1 : i < ns.length) (q : ∀ v, Q (.sh (.leaf (.int v))) Γ) : evG (gIx (.node .lst (intsD ns)) (.leaf (.int i))) Γ Q := by
  obtain ⟨v, h⟩ := atI_ints h0 h1
  exact vIxL h (q v)
theorem vModA (h : 0 < j) (q : ∀ k : Int, 0 ≤ k → k < j → Q (.sh (.leaf (.int k))) Γ) : evG (gMod (.leaf (.int i)) (.leaf (.int j))) Γ Q := vMod h (q _ (mod_lt h).1 (mod_lt h).2)
theorem vFdivA (h : 0 < j ∧ j < 115792089237316195423570985008687907853269984665640564039457584007913129639936) (h0 : 0 ≤ i) (q : ∀ k : Int, 0 ≤ k → Q (.sh (.leaf (.int k))) Γ) : evG (gFdiv (.leaf (.int i)) (.leaf (.int j))) Γ Q := vFdiv h (q _ (Int.ediv_nonneg h0 (by omega)))
theorem vIxP {a : Int} (h0 : 0 ≤ a) (h1 : a < 5) (q : ∀ v : Int, 2147483563 ≤ v → v ≤ 2147483647 → Q (.sh (.leaf (.int v))) Γ) : evG (gIx (.node .lst [.leaf (.int 2147483647), .leaf (.int 2147483629), .leaf (.int 2147483587), .leaf (.int 2147483579), .leaf (.int 2147483563)]) (.leaf (.int a))) Γ Q := by
  have : a = 0 ∨ a = 1 ∨ a = 2 ∨ a = 3 ∨ a = 4 := by omega
  rcases this with h | h | h | h | h <;> subst h
  · exact vIxL (d := .leaf (.int 2147483647)) rfl (q _ (by decide) (by decide))
  · exact vIxL (d := .leaf (.int 2147483629)) rfl (q _ (by decide) (by decide))
  · exact vIxL (d := .leaf (.int 2147483587)) rfl (q _ (by decide) (by decide))
  · exact vIxL (d := .leaf (.int 2147483579)) rfl (q _ (by decide) (by decide))
  · exact vIxL (d := .leaf (.int 2147483563)) rfl (q _ (by decide) (by decide))
end
theorem vLenScr {Γ : Gam} {Q : Cell → Gam → Prop} {ns : List Int} (q : Q (.sh (.leaf (.int ns.length))) Γ) : evG (gLen [scriptD ns]) Γ Q := vLenS (by rw [List.length_map]; exact q)
theorem vMin2A {Γ : Gam} {Q : Cell → Gam → Prop} {i j : Int} (q : ∀ k : Int, k ≤ i → k ≤ j → (k = i ∨ k = j) → Q (.sh (.leaf (.int k))) Γ) : evG (gMin2 [.leaf (.int i), .leaf (.int j)]) Γ Q := vMin2 (by
  by_cases h : j < i
  · rw [if_pos h]; exact q j (by omega) (by omega) (.inr rfl)
  · rw [if_neg h]; exact q i (by omega) (by omega) (.inl rfl))

end Gm
namespace Gm
open PySem PySem.Spec PyProof.Rows L2 DL
noncomputable def g__law_draw : GS := sSeq (sIf (tOf (eBin gGt (eBin gGet (eVar 0) (eC (.str "rest"))) (eC (.int 0)))) (sSeq (sSet 2 (eBin gMod (eBin gGet (eVar 0) (eC (.str "rest"))) (eVar 1)))
  (sSeq (sStore 0 (eBin gFdiv (eBin gGet (eVar 0) (eC (.str "rest"))) (eVar 1)) (eC (.str "rest")))
  (sRet (eVar 2)))) (sNil))
  (sSeq (sSet 3 (eBin gGet (eVar 0) (eC (.str "turn"))))
  (sSeq (sStore 0 (eBin gAdd (eVar 3) (eC (.int 1))) (eC (.str "turn")))
  (sSeq (sSet 4 (eBin gAdd (eBin gMul (eC (.int 37)) (eVar 3)) (eC (.int 11))))
  (sSeq (sIf (tOf (eBin gNe (eBin gGet (eVar 0) (eC (.str "cells"))) (eOfL gLstD (aNil)))) (sSet 4 (eBin gIx (eBin gGet (eVar 0) (eC (.str "cells"))) (eBin gMod (eVar 3) (eBI gLen (aCons (eBin gGet (eVar 0) (eC (.str "cells"))) (aNil)))))) (sNil))
  (sSeq (sIf (tAndD (tOf (eBin gLt (eVar 3) (eBI gLen (aCons (eBin gGet (eVar 0) (eC (.str "cells"))) (aNil))))) (tOf (eBin gGe (eBI gAbs (aCons (eVar 4) (aNil))) (eBin gPow (eC (.int 10)) (eC (.int 18)))))) (sSeq (sStore 0 (eBin gFdiv (eBin gSub (eBI gAbs (aCons (eVar 4) (aNil))) (eBin gPow (eC (.int 10)) (eC (.int 18)))) (eVar 1)) (eC (.str "rest")))
  (sRet (eBin gMod (eBin gSub (eBI gAbs (aCons (eVar 4) (aNil))) (eBin gPow (eC (.int 10)) (eC (.int 18)))) (eVar 1)))) (sNil))
  (sSeq (sSet 5 (eOfL gLstD (aCons (eKeep (eC (.int 2147483647))) (aCons (eKeep (eC (.int 2147483629))) (aCons (eKeep (eC (.int 2147483587))) (aCons (eKeep (eC (.int 2147483579))) (aCons (eKeep (eC (.int 2147483563))) (aNil))))))))
  (sSeq (sSet 6 (eBin gIx (eVar 5) (eBin gMod (eVar 3) (eC (.int 5)))))
  (sSeq (sSet 7 (eBin gMod (eBin gAdd (eBin gAdd (eBin gMul (eBin gMod (eVar 4) (eVar 6)) (eC (.int 69621))) (eBin gMul (eBin gMul (eC (.int 40692)) (eVar 3)) (eVar 3))) (eC (.int 17))) (eVar 6)))
  (sSeq (sSet 7 (eBin gMod (eBin gMul (eVar 7) (eBin gAdd (eVar 7) (eC (.int 48271)))) (eBin gIx (eVar 5) (eBin gMod (eBin gAdd (eVar 3) (eC (.int 3))) (eC (.int 5))))))
  (sRet (eBin gMod (eBin gFdiv (eBin gMod (eBin gMul (eVar 7) (eVar 7)) (eC (.int 2147483549))) (eC (.int 64))) (eVar 1))))))))))))
noncomputable def m__law_draw : MF := runD 8 g__law_draw
local macro_rules | `(tactic| walk_at "evg") => `(tactic| first
    | with_reducible refine vModA (by walk_at "sd") (fun k h1 h2 => ?_)
    | with_reducible refine vFdivA (by walk_at "sd") (by walk_at "sd") (fun k h1 => ?_)
    | with_reducible refine vNe0 ?_
    | with_reducible refine vLenI ?_
    | with_reducible refine vIxI (by walk_at "sd") (by walk_at "sd") (fun v => ?_)
    | with_reducible refine vIxP (by walk_at "sd") (by walk_at "sd") (fun v h1 h2 => ?_)
    | with_reducible refine penRest ?_ | with_reducible refine penTurn ?_ | with_reducible refine penCells ?_)
set_option maxHeartbeats 40000000 in
theorem draw_ok (ns : List Int) (t r many : Int) (ht : 0 ≤ t ∧ t < 1000000000000000000000000000000) (hr : 0 ≤ r) (hm : 0 < many ∧ many < 115792089237316195423570985008687907853269984665640564039457584007913129639936) {Q : Cell → List Cell → Prop} {X : Exc → List Cell → Prop}
    (q : ∀ d t' r' : Int, 0 ≤ d → d < many → 0 ≤ t' → t' ≤ t + 1 → 0 ≤ r' → Q (.sh (.leaf (.int d))) [penC ns t' r', .sh (.leaf (.int many))]) :
    evM m__law_draw [penC ns t r, .sh (.leaf (.int many))] Q X := by
  refine evDef _ (by rfl) ?_
  unfold g__law_draw
  have hl : ns = [] ∨ 0 < (ns.length : Int) ∧ ¬ ns = [] := by
    cases ns with
    | nil => exact .inl rfl
    | cons n ns => exact .inr ⟨by rw [List.length_cons]; omega, by simp⟩
  rcases hl with hl | ⟨hl, hn⟩
  all_goals
    repeat' (first | walk_at "ev" | with_reducible refine stRest ?_ | with_reducible refine stTurn ?_ | exact q _ _ _ (by omega) (by omega) (by omega) (by omega) (by omega))

end Gm
namespace Gm
open PySem PySem.Spec PyProof.Rows L2 DL

theorem gcd_step (a b : Int) : Int.gcd b (a % b) = Int.gcd a b := by
  have h := Int.gcd_add_mul_right_left b (a % b) (a / b)
  rw [show a % b + a / b * b = a by rw [Int.mul_comm]; exact Int.emod_add_mul_ediv a b] at h
  rw [Int.gcd_comm, h]
theorem abs_nat (i : Int) : (if i < 0 then -i else i) = ((i.natAbs : Nat) : Int) := by split <;> omega
/-- the gcd, as an int -/
def gcdI (a b : Int) : Int := ((Int.gcd a b : Nat) : Int)
theorem gcdI_abs (a b : Int) : gcdI ((a.natAbs : Nat) : Int) ((b.natAbs : Nat) : Int) = gcdI a b := rfl
theorem gcdI_step (a b : Int) : gcdI b (a % b) = gcdI a b := congrArg Int.ofNat (gcd_step a b)
theorem gcdI_zero (a : Int) : gcdI a 0 = ((a.natAbs : Nat) : Int) := by unfold gcdI; rw [Int.gcd_zero_right]
theorem gcdI_comm (a b : Int) : gcdI a b = gcdI b a := congrArg Int.ofNat (Int.gcd_comm a b)
theorem vAbsN {Γ : Gam} {Q : Cell → Gam → Prop} {i : Int} (q : Q (.sh (.leaf (.int ((i.natAbs : Nat) : Int)))) Γ) : evG (gAbs [.leaf (.int i)]) Γ Q := vAbs (by rw [abs_nat]; exact q)
theorem gcdI_pos {a b : Int} (h : 0 < b) : 0 < gcdI a b := by
  have z : 0 < Int.gcd a b := Nat.gcd_pos_of_pos_right _ (by omega)
  exact Int.ofNat_lt.mpr z
theorem gcdI_dvd_left (a b : Int) : gcdI a b ∣ a := Int.gcd_dvd_left a b
theorem gcdI_dvd_right (a b : Int) : gcdI a b ∣ b := Int.gcd_dvd_right a b
theorem gcdI_one (b : Int) : gcdI 1 b = 1 := by
  have h1 : gcdI 1 b ∣ 1 := gcdI_dvd_left 1 b
  have h2 : 0 ≤ gcdI 1 b := Int.natCast_nonneg _
  exact Int.eq_one_of_dvd_one h2 h1

end Gm
namespace Gm
open PySem PySem.Spec PyProof.Rows L2 DL
noncomputable def g__law_gcd : GS := sSeq (sWhile (tOf (eBin gNe (eVar 1) (eC (.int 0)))) (sPar 0 1 (aCons (eSolid (eVar 1)) (aCons (eSolid (eBin gMod (eVar 0) (eVar 1))) (aNil)))))
  (sRet (eBI gAbs (aCons (eVar 0) (aNil))))
noncomputable def m__law_gcd : MF := runD 2 g__law_gcd
theorem law_gcd_ok (a b : Int) (hb : 0 ≤ b) {Q : Cell → List Cell → Prop} {X : Exc → List Cell → Prop}
    (q : Q (.sh (.leaf (.int (gcdI a b)))) [.sh (.leaf (.int a)), .sh (.leaf (.int b))]) : evM m__law_gcd [.sh (.leaf (.int a)), .sh (.leaf (.int b))] Q X := by
  refine evDef _ (by rfl) ?_
  unfold g__law_gcd
  repeat' walk_at "ev"
  refine evWhile (fun n Γ => ∃ x y : Int, Γ = [some (.sh (.leaf (.int x))), some (.sh (.leaf (.int y)))] ∧ 0 ≤ y ∧ y.toNat = n ∧ gcdI x y = gcdI a b) (fun n Γ hI => ?_) b.toNat ⟨a, b, rfl, hb, rfl, rfl⟩
  obtain ⟨x, y, rfl, hy, rfl, hg⟩ := hI
  repeat' (first | with_reducible refine vAbsN ?_ | walk_at "ev")
  · rename_i h
    subst h
    rw [gcdI_zero] at hg
    rw [← hg] at q
    exact q
  · rename_i h
    have h1 := mod_lt (a := x) (b := y) (by omega)
    exact ⟨(x % y).toNat, by omega, y, x % y, rfl, h1.1, rfl, by rw [gcdI_step, hg]⟩

end Gm
namespace Gm
open PySem PySem.Spec PyProof.Rows L2 DL

/-- a value that repr writes: of weight w and depth d at most -/
structure rOK (p : PyData) (w d : Nat) : Prop where
  s : p.showable = true
  n : p.hasDict = false
  l : p.leavesShort 40 = true
  w : p.weight ≤ w
  d : p.depth ≤ d
theorem rOK.ok {p : PyData} {w d : Nat} (h : rOK p w d) (hw : w ≤ 300000) (hd : d ≤ 50) : reprOk p = true := by
  have h1 := PyData.shown_le 40 (by decide) p h.l
  have h2 := h.w
  have h3 : (40 + 2) * p.weight ≤ 42 * 300000 := Nat.mul_le_mul (by decide) (by omega)
  unfold reprOk
  rw [h.s, h.n, decide_eq_true (show p.shown.length ≤ 16777216 by omega), decide_eq_true (show p.depth ≤ 50 by have := h.d; omega)]
  rfl
theorem rOK.mono {p : PyData} {w w' d d' : Nat} (h : rOK p w d) (hw : w ≤ w') (hd : d ≤ d') : rOK p w' d' := ⟨h.s, h.n, h.l, Nat.le_trans h.w hw, Nat.le_trans h.d hd⟩
theorem log_le {n k : Nat} (h : n < 2 ^ k) (hk : 0 < k) : n.log2 < k := by
  by_cases z : n = 0
  · subst z; simpa using hk
  · exact (Nat.log2_lt z).mpr h
theorem rOK_int {i : Int} (h : -1000000000000000000000000000000000000000 < i ∧ i < 1000000000000000000000000000000000000000) : rOK (.int i) 131 0 := by
  have hn : i.natAbs < 10 ^ 39 := by
    have : (10 : Nat) ^ 39 = 1000000000000000000000000000000000000000 := by decide
    omega
  have hl : i.natAbs.log2 < 130 := log_le (Nat.lt_of_lt_of_le hn (by decide)) (by decide)
  refine ⟨?_, rfl, ?_, ?_, Nat.le_refl _⟩
  · unfold PyData.showable
    exact decide_eq_true (by omega)
  · unfold PyData.leavesShort
    refine decide_eq_true ?_
    have e := int_text_length_le10 (k := 39) (by decide) hn
    show (Str.ofString (toString i)).length ≤ 40
    rw [PySem.ofString_length]; exact e
  · unfold PyData.weight
    split <;> omega
theorem rOK_non : rOK .none 0 0 := ⟨rfl, rfl, rfl, Nat.le_refl _, Nat.le_refl _⟩
theorem rOK_bl (b : Bool) : rOK (.bool b) 0 0 := ⟨rfl, rfl, rfl, Nat.le_refl _, Nat.le_refl _⟩
theorem rOK_str {x : Str} {w : Nat} (h : ∀ c ∈ x.cps.toList, c < 16 ^ 8) (hw : x.cps.size ≤ w) : rOK (.str x) w 0 := ⟨rfl, rfl, by unfold PyData.leavesShort; exact List.all_eq_true.mpr fun c hc => decide_eq_true (h c hc), by unfold PyData.weight; exact hw, Nat.le_refl _⟩
theorem rOK_all {w d : Nat} : ∀ {ps : List PyData}, (∀ p ∈ ps, rOK p w d) → PyData.showableAll ps = true ∧ PyData.hasDictAll ps = false ∧ PyData.leavesShortAll 40 ps = true ∧ PyData.weightAll ps ≤ ps.length * (w + 1) ∧ PyData.depthAll ps ≤ d
  | [], _ => ⟨rfl, rfl, rfl, by simp [PyData.weightAll], by unfold PyData.depthAll; omega⟩
  | p :: ps, h => by
    obtain ⟨a1, a2, a3, a4, a5⟩ := rOK_all (ps := ps) fun x hx => h x (by simp [hx])
    have b := h p (by simp)
    refine ⟨?_, ?_, ?_, ?_, ?_⟩
    · unfold PyData.showableAll; rw [b.s, a1]; rfl
    · unfold PyData.hasDictAll; rw [b.n, a2]; rfl
    · unfold PyData.leavesShortAll; rw [b.l, a3]; rfl
    · unfold PyData.weightAll
      have := b.w
      rw [List.length_cons, Nat.add_mul]
      omega
    · unfold PyData.depthAll
      have := b.d
      omega
theorem rOK_list {ps : List PyData} {w d n : Nat} (h : ∀ p ∈ ps, rOK p w d) (hn : ps.length ≤ n) : rOK (.list ps) (n * (w + 1)) (d + 1) := by
  obtain ⟨a1, a2, a3, a4, a5⟩ := rOK_all h
  have z := Nat.mul_le_mul_right (w + 1) hn
  refine ⟨by unfold PyData.showable; exact a1, by unfold PyData.hasDict; exact a2, by unfold PyData.leavesShort; exact a3, ?_, ?_⟩
  · unfold PyData.weight; omega
  · unfold PyData.depth; omega
theorem rOK_tup {ps : List PyData} {w d n : Nat} (h : ∀ p ∈ ps, rOK p w d) (hn : ps.length ≤ n) : rOK (.tuple ps) (n * (w + 1)) (d + 1) := by
  obtain ⟨a1, a2, a3, a4, a5⟩ := rOK_all h
  have z := Nat.mul_le_mul_right (w + 1) hn
  refine ⟨by unfold PyData.showable; exact a1, by unfold PyData.hasDict; exact a2, by unfold PyData.leavesShort; exact a3, ?_, ?_⟩
  · unfold PyData.weight; omega
  · unfold PyData.depth; omega
theorem rOK_ints {ns : List Int} (h : ∀ n ∈ ns, -1000000000000000000000000000000000000000 < n ∧ n < 1000000000000000000000000000000000000000) (hn : ns.length ≤ 2000) : reprOk (.list (ns.map .int)) = true :=
  (rOK_list (n := 2000) (fun p hp => by obtain ⟨n, h1, h2⟩ := List.mem_map.mp hp; subst h2; exact rOK_int (h n h1)) (by simpa using hn)).ok (by decide) (by decide)
theorem toP_ints (ns : List Int) : toP (.node .lst (intsD ns)) = some (.list (ns.map .int)) := by
  unfold toP
  rw [toPs_ints]
theorem vReprI {Γ : Gam} {Q : Cell → Gam → Prop} {ns : List Int} (h : ∀ n ∈ ns, -1000000000000000000000000000000000000000 < n ∧ n < 1000000000000000000000000000000000000000) (hn : ns.length ≤ 2000) (q : Q (.sh (.leaf (.str (PyData.shown (.list (ns.map .int)))))) Γ) : evG (gRepr [.node .lst (intsD ns)]) Γ Q := vRepr (toP_ints ns) (rOK_ints h hn) q
theorem vReprB {Γ : Gam} {Q : Cell → Gam → Prop} {b : Bool} (q : Q (.sh (.leaf (.str (PyData.shown (.bool b))))) Γ) : evG (gRepr [.leaf (.bl b)]) Γ Q := vRepr (p := .bool b) rfl ((rOK_bl b).ok (by decide) (by decide)) q

end Gm
namespace Gm
open PySem PySem.Spec PyProof.Rows L2 DL
noncomputable def g_is_integer : GS := sRet (eAndD (eBI gIsi (aCons (eVar 0) (aCons (eC (.ty "int")) (aNil)))) (eNotD (eBI gIsi (aCons (eVar 0) (aCons (eC (.ty "bool")) (aNil))))))
noncomputable def m_is_integer : MF := runD 1 g_is_integer
def isIntD : D → Bool
  | .leaf (.int _) => true
  | _ => false
theorem isIntD_cases {d : D} {n : String} (h : tyName d = some n) : (∃ i, d = .leaf (.int i)) ∨ (isIntD d = false ∧ (n = "NoneType" ∨ n = "bool" ∨ n = "str" ∨ n = "list" ∨ n = "tuple" ∨ n = "dict")) := by
  unfold tyName at h
  split at h
  · cases h; exact .inr ⟨rfl, by simp⟩
  · cases h; exact .inr ⟨rfl, by simp⟩
  · exact .inl ⟨_, rfl⟩
  · cases h; exact .inr ⟨rfl, by simp⟩
  · cases h; exact .inr ⟨rfl, by simp⟩
  · cases h; exact .inr ⟨rfl, by simp⟩
  · cases h; exact .inr ⟨rfl, by simp⟩
  · cases h
theorem is_integer_ok {d : D} {n : String} (h : tyName d = some n) {Q : Cell → List Cell → Prop} {X : Exc → List Cell → Prop}
    (q : Q (.sh (.leaf (.bl (isIntD d)))) [.sh d]) : evM m_is_integer [.sh d] Q X := by
  refine evDef _ (by rfl) ?_
  unfold g_is_integer
  rcases isIntD_cases h with ⟨i, rfl⟩ | ⟨hf, hn⟩
  · repeat' walk_at "ev"
    exact q
  · rw [hf] at q
    rcases hn with rfl | rfl | rfl | rfl | rfl | rfl
    all_goals
      repeat' (first | walk_at "ev" | with_reducible refine vIsi h (by with_unfolding_all exact rfl) ?_)
      exact q

end Gm
namespace Gm
open PySem PySem.Spec PyProof.Rows L2 DL
noncomputable def g_is_between : GS := sRet (eAndD (eCallN 1 m_is_integer [] (aCons (eKeep (eVar 0)) (aNil))) (eChain gLe gLe (eVar 1) (eVar 0) (eVar 2)))
noncomputable def m_is_between : MF := runD 3 g_is_between
def btw (lo hi : Int) : D → Bool
  | .leaf (.int v) => decide (lo ≤ v) && decide (v ≤ hi)
  | _ => false
theorem btw_not {d : D} (lo hi : Int) (h : isIntD d = false) : btw lo hi d = false := by
  unfold isIntD at h
  split at h
  · cases h
  · rename_i x
    unfold btw
    split
    · exact (x _ rfl).elim
    · rfl
theorem is_between_ok {d : D} {n : String} (h : tyName d = some n) (lo hi : Int) {Q : Cell → List Cell → Prop} {X : Exc → List Cell → Prop}
    (q : Q (.sh (.leaf (.bl (btw lo hi d)))) [.sh d, .sh (.leaf (.int lo)), .sh (.leaf (.int hi))]) : evM m_is_between [.sh d, .sh (.leaf (.int lo)), .sh (.leaf (.int hi))] Q X := by
  refine evDef _ (by rfl) ?_
  unfold g_is_between
  repeat' walk_at "ev"
  refine is_integer_ok h ?_
  rcases isIntD_cases h with ⟨i, rfl⟩ | ⟨hf, hn⟩
  · rw [show btw lo hi (.leaf (.int i)) = (decide (lo ≤ i) && decide (i ≤ hi)) from rfl] at q
    unfold isIntD
    repeat' walk_at "ev"
    · rename_i hb
      rw [decide_eq_true hb, Bool.true_and] at q
      exact q
    · rename_i hb
      rw [decide_eq_false hb, Bool.false_and] at q
      exact q
  · rw [btw_not lo hi hf] at q
    rw [hf]
    repeat' walk_at "ev"
    exact q

end Gm
namespace Gm
open PySem PySem.Spec PyProof.Rows L2 DL

/-- a value that repr writes -/
def rD (d : D) (w k : Nat) : Prop := ∃ p, toP d = some p ∧ rOK p w k
theorem rD.mono {d : D} {w w' k k' : Nat} (h : rD d w k) (hw : w ≤ w') (hk : k ≤ k') : rD d w' k' := by
  obtain ⟨p, h1, h2⟩ := h
  exact ⟨p, h1, h2.mono hw hk⟩
theorem rD_int {i : Int} (h : -1000000000000000000000000000000000000000 < i ∧ i < 1000000000000000000000000000000000000000) : rD (.leaf (.int i)) 200 0 := ⟨_, rfl, (rOK_int h).mono (by omega) (by omega)⟩
theorem rD_bl (b : Bool) : rD (.leaf (.bl b)) 200 0 := ⟨_, rfl, (rOK_bl b).mono (by omega) (by omega)⟩
theorem rD_non : rD (.leaf .non) 200 0 := ⟨_, rfl, rOK_non.mono (by omega) (by omega)⟩
theorem rD_str {x : Str} (h : ∀ c ∈ x.cps.toList, c < 16 ^ 8) (hw : x.cps.size ≤ 200) : rD (.leaf (.str x)) 200 0 := ⟨_, rfl, rOK_str h hw⟩
theorem rDs {w k : Nat} : ∀ {ds : List D}, (∀ d ∈ ds, rD d w k) → ∃ ps, toPs ds = some ps ∧ ps.length = ds.length ∧ ∀ p ∈ ps, rOK p w k
  | [], _ => ⟨[], rfl, rfl, by simp⟩
  | d :: ds, h => by
    obtain ⟨p, e1, e2⟩ := h d (by simp)
    obtain ⟨ps, f1, f0, f2⟩ := rDs (ds := ds) fun x hx => h x (by simp [hx])
    refine ⟨p :: ps, by unfold toPs; rw [e1, f1], by simp [f0], fun q hq => ?_⟩
    rcases List.mem_cons.mp hq with rfl | hq
    · exact e2
    · exact f2 q hq
theorem rD_tup {ds : List D} {w k n : Nat} (h : ∀ d ∈ ds, rD d w k) (hn : ds.length ≤ n) : rD (.node .tup ds) (n * (w + 1)) (k + 1) := by
  obtain ⟨ps, f1, f0, f2⟩ := rDs h
  exact ⟨.tuple ps, by unfold toP; rw [f1], rOK_tup f2 (by omega)⟩
theorem rD_lst {ds : List D} {w k n : Nat} (h : ∀ d ∈ ds, rD d w k) (hn : ds.length ≤ n) : rD (.node .lst ds) (n * (w + 1)) (k + 1) := by
  obtain ⟨ps, f1, f0, f2⟩ := rDs h
  exact ⟨.list ps, by unfold toP; rw [f1], rOK_list f2 (by omega)⟩
def shownD (d : D) : Prop := ∃ s, gRepr [d] = some (.old (.leaf (.str s)))
theorem rD.shown {d : D} {w k : Nat} (h : rD d w k) (hw : w ≤ 300000) (hk : k ≤ 50) : shownD d := by
  obtain ⟨p, h1, h2⟩ := h
  exact ⟨_, gRepr_of h1 (h2.ok hw hk)⟩
theorem shown_dict0 : shownD (.node (.dk []) []) := ⟨_, rfl⟩
theorem vReprS {d : D} {s : Str} {Γ : Gam} {Q : Cell → Gam → Prop} (h : gRepr [d] = some (.old (.leaf (.str s)))) (q : Q (.sh (.leaf (.str s))) Γ) : evG (gRepr [d]) Γ Q := evG_old h q
/-- the kind of a value is known -/
def tyD (d : D) : Prop := ∃ n, tyName d = some n
theorem ty_cases {d : D} {n : String} (h : tyName d = some n) : (∃ ds, d = .node .tup ds) ∨ (n = "NoneType" ∨ n = "bool" ∨ n = "int" ∨ n = "str" ∨ n = "list" ∨ n = "dict") ∧ ∀ ds, d ≠ .node .tup ds := by
  unfold tyName at h
  split at h
  · cases h; exact .inr ⟨by simp, fun _ => nofun⟩
  · cases h; exact .inr ⟨by simp, fun _ => nofun⟩
  · cases h; exact .inr ⟨by simp, fun _ => nofun⟩
  · cases h; exact .inr ⟨by simp, fun _ => nofun⟩
  · cases h; exact .inr ⟨by simp, fun _ => nofun⟩
  · exact .inl ⟨_, rfl⟩
  · cases h; exact .inr ⟨by simp, fun _ => nofun⟩
  · cases h
/-- (a, b), integers from 0 to m - 1, a a unit -/
def uniI (m : Int) : D → Bool
  | .leaf (.int i) => decide (gcdI i m = 1)
  | _ => false
def isMapD (m : Int) : D → Bool
  | .node .tup [a, b] => btw 0 (m - 1) a && btw 0 (m - 1) b && uniI m a
  | _ => false
theorem isMapD_not {m : Int} {d : D} (h : ∀ a b, d ≠ .node .tup [a, b]) : isMapD m d = false := by
  unfold isMapD
  split
  · exact (h _ _ rfl).elim
  · rfl
theorem btw_f {lo hi i : Int} (h : i < lo ∨ hi < i) : btw lo hi (.leaf (.int i)) = false := by
  show (decide (lo ≤ i) && decide (i ≤ hi)) = false
  rcases h with h | h
  · rw [decide_eq_false (by omega), Bool.false_and]
  · rw [decide_eq_false (p := i ≤ hi) (by omega), Bool.and_false]
theorem btw_t {lo hi i : Int} (h : lo ≤ i ∧ i ≤ hi) : btw lo hi (.leaf (.int i)) = true := by
  show (decide (lo ≤ i) && decide (i ≤ hi)) = true
  rw [decide_eq_true h.1, decide_eq_true h.2]
  rfl

end Gm
namespace Gm
open PySem PySem.Spec PyProof.Rows L2 DL
noncomputable def g__law_is_map : GS := sSeq (sIf (tOrD (tNotD (tOf (eBI gIsi (aCons (eVar 1) (aCons (eC (.ty "tuple")) (aNil)))))) (tOf (eBin gNe (eBI gLen (aCons (eVar 1) (aNil))) (eC (.int 2))))) (sRet (eC (.bl false))) (sNil))
  (sSeq (sFor (iSeq (eVar 1)) (pNm 2) (sIf (tOrD (tNotD (tOf (eBI gIsi (aCons (eVar 2) (aCons (eC (.ty "int")) (aNil)))))) (tOrD (tOf (eBI gIsi (aCons (eVar 2) (aCons (eC (.ty "bool")) (aNil))))) (tOrD (tOf (eBin gLt (eVar 2) (eC (.int 0)))) (tOf (eBin gGe (eVar 2) (eVar 0)))))) (sRet (eC (.bl false))) (sNil)))
  (sRet (eBin gEq (eCallN 2 m__law_gcd [] (aCons (eKeep (eBin gIx (eVar 1) (eC (.int 0)))) (aCons (eKeep (eVar 0)) (aNil)))) (eC (.int 1)))))
noncomputable def m__law_is_map : MF := runD 3 g__law_is_map
theorem law_is_map_gen (m : Int) {d : D} (hm : 2 ≤ m) (h : tyD d) (h2 : ∀ ds, d = .node .tup ds → ∀ e ∈ ds, tyD e) {Q : Cell → List Cell → Prop} {X : Exc → List Cell → Prop}
    (q : Q (.sh (.leaf (.bl (isMapD m d)))) [.sh (.leaf (.int m)), .sh d]) : evM m__law_is_map [.sh (.leaf (.int m)), .sh d] Q X := by
  obtain ⟨n, hn⟩ := h
  refine evDef _ (by rfl) ?_
  unfold g__law_is_map
  rcases ty_cases hn with ⟨ds, rfl⟩ | ⟨hc, hno⟩
  · repeat' walk_at "ev"
    · rename_i hl
      have hl' : ds.length = 2 := by omega
      obtain ⟨a, b, rfl⟩ : ∃ a b, ds = [a, b] := by
        match ds, hl' with
        | [a, b], _ => exact ⟨a, b, rfl⟩
      obtain ⟨na, ha⟩ := h2 _ rfl a (by simp)
      obtain ⟨nb, hb⟩ := h2 _ rfl b (by simp)
      have e : isMapD m (.node .tup [a, b]) = (btw 0 (m - 1) a && btw 0 (m - 1) b && uniI m a) := rfl
      rw [e] at q
      rcases isIntD_cases ha with ⟨i, rfl⟩ | ⟨hf, hk⟩
      · refine evFor_cons ?_
        repeat' walk_at "ev"
        · rw [btw_f (by omega), Bool.false_and, Bool.false_and] at q
          exact q
        · rw [btw_f (by omega), Bool.false_and, Bool.false_and] at q
          exact q
        · rw [btw_t (by omega), Bool.true_and] at q
          rcases isIntD_cases hb with ⟨k, rfl⟩ | ⟨hf, hk⟩
          · refine evFor_cons ?_
            repeat' walk_at "ev"
            · rw [btw_f (by omega), Bool.false_and] at q
              exact q
            · rw [btw_f (by omega), Bool.false_and] at q
              exact q
            · rw [btw_t (by omega), Bool.true_and] at q
              refine evFor_nil ?_
              repeat' walk_at "ev"
              refine law_gcd_ok i m (by omega) ?_
              repeat' walk_at "ev"
              exact q
          · rw [btw_not 0 (m - 1) hf, Bool.false_and] at q
            refine evFor_cons ?_
            rcases hk with rfl | rfl | rfl | rfl | rfl | rfl
            all_goals
              repeat' (first | walk_at "ev" | with_reducible refine vIsi hb (by with_unfolding_all exact rfl) ?_)
              exact q
      · rw [btw_not 0 (m - 1) hf, Bool.false_and, Bool.false_and] at q
        refine evFor_cons ?_
        rcases hk with rfl | rfl | rfl | rfl | rfl | rfl
        all_goals
          repeat' (first | walk_at "ev" | with_reducible refine vIsi ha (by with_unfolding_all exact rfl) ?_)
          exact q
    · rename_i hl
      rw [isMapD_not fun a b e => by cases e; exact hl rfl] at q
      exact q
  · rw [isMapD_not fun a b => hno _] at q
    rcases hc with rfl | rfl | rfl | rfl | rfl | rfl
    all_goals
      repeat' (first | walk_at "ev" | with_reducible refine vIsi hn (by with_unfolding_all exact rfl) ?_)
      exact q

end Gm
namespace Gm
open PySem PySem.Spec PyProof.Rows L2 DL

/-- what is appended, and what is left, when left is divided by p as often as it goes -/
def pullL (p : Int) : Nat → Int → Int → List Int
  | 0, _, _ => []
  | n + 1, left, last => if left % p = 0 then (last * p) :: pullL p n (left / p) (last * p) else []
def pullR (p : Int) : Nat → Int → Int
  | 0, left => left
  | n + 1, left => if left % p = 0 then pullR p n (left / p) else left
def lastI (l : List Int) : Int := l.getLastD 1
def stepC (s : List Int × Int) (p : Int) : List Int × Int := (s.1 ++ pullL p s.2.toNat s.2 (lastI s.1), pullR p s.2.toNat s.2)
abbrev prs : List Int := [2, 3, 5, 7, 11, 13]
def chainL (m : Int) : List Int := (prs.foldl stepC ([1], m)).1
def leftL (m : Int) : Int := (prs.foldl stepC ([1], m)).2
theorem div_lt {a p : Int} (ha : 0 < a) (hp : 2 ≤ p) (hd : a % p = 0) : 0 < a / p ∧ a / p < a ∧ p * (a / p) = a := by
  have e : p * (a / p) = a := by have := Int.mul_ediv_add_emod a p; omega
  have h1 : 0 < a / p := by
    rcases Int.lt_or_le 0 (a / p) with h | h
    · exact h
    · have : p * (a / p) ≤ 0 := Int.mul_nonpos_of_nonneg_of_nonpos (by omega) h
      omega
  have h2 : 2 * (a / p) ≤ p * (a / p) := Int.mul_le_mul_of_nonneg_right hp (by omega)
  omega
theorem pull_fuel {p : Int} (hp : 2 ≤ p) : ∀ (n k : Nat) (left last : Int), 0 < left → left.toNat ≤ n → left.toNat ≤ k → pullL p n left last = pullL p k left last ∧ pullR p n left = pullR p k left
  | 0, k, left, last, h, h1, _ => by omega
  | n + 1, 0, left, last, h, _, h2 => by omega
  | n + 1, k + 1, left, last, h, h1, h2 => by
    unfold pullL pullR
    by_cases hd : left % p = 0
    · obtain ⟨a1, a2, a3⟩ := div_lt h hp hd
      rw [if_pos hd, if_pos hd, if_pos hd, if_pos hd]
      obtain ⟨b1, b2⟩ := pull_fuel hp n k (left / p) (last * p) a1 (by omega) (by omega)
      rw [b1, b2]
      exact ⟨rfl, rfl⟩
    · rw [if_neg hd, if_neg hd, if_neg hd, if_neg hd]
      exact ⟨rfl, rfl⟩
/-- one turn -/
theorem pull_step {p left last : Int} (hp : 2 ≤ p) (h : 0 < left) (hd : left % p = 0) : pullL p left.toNat left last = (last * p) :: pullL p (left / p).toNat (left / p) (last * p) ∧ pullR p left.toNat left = pullR p (left / p).toNat (left / p) := by
  obtain ⟨a1, a2, a3⟩ := div_lt h hp hd
  obtain ⟨k, hk⟩ : ∃ k, left.toNat = k + 1 := ⟨left.toNat - 1, by omega⟩
  obtain ⟨b1, b2⟩ := pull_fuel hp k (left / p).toNat (left / p) (last * p) a1 (by omega) (Nat.le_refl _)
  rw [hk]
  constructor
  · show (if left % p = 0 then (last * p) :: pullL p k (left / p) (last * p) else []) = _
    rw [if_pos hd, b1]
  · show (if left % p = 0 then pullR p k (left / p) else left) = _
    rw [if_pos hd, b2]
theorem pull_stop {p left last : Int} (h : 0 < left) (hd : ¬ left % p = 0) : pullL p left.toNat left last = [] ∧ pullR p left.toNat left = left := by
  obtain ⟨k, hk⟩ : ∃ k, left.toNat = k + 1 := ⟨left.toNat - 1, by omega⟩
  rw [hk]
  constructor
  · show (if left % p = 0 then _ else _) = _
    rw [if_neg hd]
  · show (if left % p = 0 then _ else _) = _
    rw [if_neg hd]
/-- what holds of a chain under way: m = its last * left, and it is not long -/
structure ChI (m : Int) (found : List Int) (left : Int) : Prop where
  pos : 0 < left
  ne : found ≠ []
  all : ∀ x ∈ found, 1 ≤ x ∧ x ≤ m
  prod : lastI found * left = m
  len : 2 ^ found.length * left ≤ 2 * m
theorem ChI.one {m : Int} (h : 1 ≤ m) : ChI m [1] m := ⟨by omega, by simp, fun x hx => by simp at hx; omega, by show 1 * m = m; omega, by show 2 ^ 1 * m ≤ 2 * m; omega⟩
theorem lastI_snoc (l : List Int) (x : Int) : lastI (l ++ [x]) = x := by unfold lastI; simp
theorem lastI_mem {l : List Int} (h : l ≠ []) : lastI l ∈ l := by
  obtain ⟨a, x, rfl⟩ : ∃ a x, l = a ++ [x] := ⟨l.dropLast, l.getLast h, (List.dropLast_concat_getLast h).symm⟩
  rw [lastI_snoc]
  simp
theorem ChI.step {m p left : Int} {found : List Int} (h : ChI m found left) (hp : 2 ≤ p) (hd : left % p = 0) : ChI m (found ++ [lastI found * p]) (left / p) := by
  obtain ⟨a1, a2, a3⟩ := div_lt h.pos hp hd
  have hl := h.all _ (lastI_mem h.ne)
  have e : lastI found * p * (left / p) = m := by rw [Int.mul_assoc, a3, h.prod]
  have hb : 1 ≤ lastI found * p := by
    have : 1 * 2 ≤ lastI found * p := Int.mul_le_mul hl.1 hp (by omega) (by omega)
    omega
  have hm : lastI found * p ≤ m := by
    have : lastI found * p * 1 ≤ lastI found * p * (left / p) := Int.mul_le_mul_of_nonneg_left (by omega) (by omega)
    omega
  refine ⟨a1, by simp, fun x hx => ?_, by rw [lastI_snoc]; exact e, ?_⟩
  · rcases List.mem_append.mp hx with hx | hx
    · exact h.all x hx
    · simp at hx; subst hx; exact ⟨hb, hm⟩
  · have l1 := h.len
    rw [List.length_append, List.length_singleton, Int.pow_succ]
    have p2 : (0 : Int) ≤ 2 ^ found.length := Int.pow_nonneg (by decide)
    have : 2 ^ found.length * (2 * (left / p)) ≤ 2 ^ found.length * left := Int.mul_le_mul_of_nonneg_left (by
      have : 2 * (left / p) ≤ p * (left / p) := Int.mul_le_mul_of_nonneg_right hp (by omega)
      omega) p2
    rw [Int.mul_assoc]
    omega
theorem ChI.short {m left : Int} {found : List Int} (h : ChI m found left) (hm : m ≤ 1000000000000000000000000000000) : found.length ≤ 100 := by
  rcases Nat.lt_or_ge 100 found.length with z | z
  · have h1 := h.len
    have h2 := h.pos
    have h3 : (2 : Int) ^ 101 ≤ 2 ^ found.length := by
      have := Nat.pow_le_pow_right (n := 2) (by decide) (show 101 ≤ found.length by omega)
      exact_mod_cast this
    have h4 : (2 : Int) ^ found.length * 1 ≤ 2 ^ found.length * left := Int.mul_le_mul_of_nonneg_left (by omega) (Int.pow_nonneg (by decide))
    have h5 : (2 : Int) ^ 101 = 2535301200456458802993406410752 := by decide
    omega
  · exact z
theorem atI_lastI {l : List Int} (h : l ≠ []) : atI (intsD l) (-1) = some (.leaf (.int (lastI l))) := by
  obtain ⟨a, x, rfl⟩ : ∃ a x, l = a ++ [x] := ⟨l.dropLast, l.getLast h, (List.dropLast_concat_getLast h).symm⟩
  rw [lastI_snoc]
  unfold intsD
  rw [List.map_append]
  exact atI_last
theorem intsD_snoc (l : List Int) (x : Int) : intsD l ++ [.leaf (.int x)] = intsD (l ++ [x]) := by unfold intsD; rw [List.map_append]; rfl
theorem vIxLast {Γ : Gam} {Q : Cell → Gam → Prop} {l : List Int} (h : l ≠ []) (q : Q (.sh (.leaf (.int (lastI l)))) Γ) : evG (gIx (.node .lst (intsD l)) (.leaf (.int (-1)))) Γ Q := vIxL (atI_lastI h) q
theorem pull_chi {m p : Int} (hp : 2 ≤ p) : ∀ (n : Nat) (found : List Int) (left : Int), left.toNat ≤ n → ChI m found left → ChI m (stepC (found, left) p).1 (stepC (found, left) p).2
  | n, found, left, hn, h => by
    by_cases hd : left % p = 0
    · obtain ⟨a1, a2, a3⟩ := div_lt h.pos hp hd
      obtain ⟨e1, e2⟩ := pull_step (last := lastI found) hp h.pos hd
      unfold stepC
      dsimp only
      rw [e1, e2]
      have hs := h.step hp hd
      cases n with
      | zero => have := h.pos; omega
      | succ n =>
        have := pull_chi hp n (found ++ [lastI found * p]) (left / p) (by omega) hs
        unfold stepC at this
        dsimp only at this
        rw [lastI_snoc, List.append_assoc] at this
        exact this
    · obtain ⟨e1, e2⟩ := pull_stop (last := lastI found) h.pos hd
      unfold stepC
      dsimp only
      rw [e1, e2, List.append_nil]
      exact h
theorem fold_chi {m : Int} : ∀ (ps : List Int) (s : List Int × Int), (∀ p ∈ ps, 2 ≤ p) → ChI m s.1 s.2 → ChI m (ps.foldl stepC s).1 (ps.foldl stepC s).2
  | [], s, _, h => h
  | p :: ps, s, hp, h => fold_chi ps (stepC s p) (fun q hq => hp q (by simp [hq])) (pull_chi (hp p (by simp)) s.2.toNat s.1 s.2 (Nat.le_refl _) h)
theorem chain_chi {m : Int} (h : 1 ≤ m) : ChI m (chainL m) (leftL m) := fold_chi prs ([1], m) (by decide) (ChI.one h)

end Gm
namespace Gm
open PySem PySem.Spec PyProof.Rows L2 DL

/-- the inverse of a modulo m -/
noncomputable def invI (a m : Int) : Int := Classical.epsilon fun r => 0 ≤ r ∧ r < m ∧ m ∣ a * r - 1
theorem inv_unique {a m r s : Int} (hr : 0 ≤ r ∧ r < m ∧ m ∣ a * r - 1) (hs : 0 ≤ s ∧ s < m ∧ m ∣ a * s - 1) : r = s := by
  -- r = r (a s) = s (a r) modulo m
  have h1 : m ∣ r - s := by
    obtain ⟨k, hk⟩ := hr.2.2
    obtain ⟨l, hl⟩ := hs.2.2
    refine ⟨s * k - r * l, ?_⟩
    have e1 : a * r = m * k + 1 := by omega
    have e2 : a * s = m * l + 1 := by omega
    have e3 : s * (a * r) = r * (a * s) := by simp only [Int.mul_comm, Int.mul_left_comm]
    rw [e1, e2] at e3
    simp only [Int.mul_add, Int.mul_sub, Int.mul_one] at e3 ⊢
    have e4 : s * (m * k) = m * (s * k) := by simp only [Int.mul_comm, Int.mul_left_comm]
    have e5 : r * (m * l) = m * (r * l) := by simp only [Int.mul_comm, Int.mul_left_comm]
    rw [e4, e5] at e3
    omega
  obtain ⟨k, hk⟩ := h1
  have : k = 0 := by
    rcases Int.lt_trichotomy k 0 with z | z | z
    · have : m * k ≤ m * (-1) := Int.mul_le_mul_of_nonneg_left (by omega) (by omega)
      omega
    · exact z
    · have : m * 1 ≤ m * k := Int.mul_le_mul_of_nonneg_left (by omega) (by omega)
      omega
  subst this
  omega
theorem inv_eq {a m r : Int} (hr : 0 ≤ r ∧ r < m ∧ m ∣ a * r - 1) : r = invI a m :=
  inv_unique hr (Classical.epsilon_spec (p := fun r => 0 ≤ r ∧ r < m ∧ m ∣ a * r - 1) ⟨r, hr⟩)
theorem inv_of {a m r : Int} (hr : 0 ≤ r ∧ r < m ∧ m ∣ a * r - 1) : 0 ≤ invI a m ∧ invI a m < m ∧ m ∣ a * invI a m - 1 :=
  Classical.epsilon_spec (p := fun r => 0 ≤ r ∧ r < m ∧ m ∣ a * r - 1) ⟨r, hr⟩
/-- Euclid's round -/
structure EuI (a m old new of f : Int) : Prop where
  new0 : 0 ≤ new
  old0 : 0 < old
  oldm : old ≤ m
  lt : new < old
  d1 : m ∣ of * a - old
  d2 : m ∣ f * a - new
  g : gcdI old new = gcdI a m
  ab : ∃ A B : Int, 0 ≤ A ∧ 0 ≤ B ∧ ((of = A ∧ f = -B) ∨ (of = -A ∧ f = B)) ∧ A * new + B * old = m
theorem EuI.start {a m : Int} (hm : 1 ≤ m) : EuI a m m (a % m) 0 1 := by
  have h := mod_lt (a := a) (b := m) (by omega)
  refine ⟨h.1, by omega, by omega, h.2, ⟨-1, by omega⟩, ⟨a / m, by have := Int.mul_ediv_add_emod a m; omega⟩, ?_, 0, 1, by omega, by omega, .inr ⟨rfl, rfl⟩, by omega⟩
  rw [gcdI_comm a m, gcdI_comm m (a % m), gcdI_comm m a]
  rw [gcdI_comm, gcdI_step]
theorem EuI.bound {a m old new of f : Int} (h : EuI a m old new of f) : -m ≤ f ∧ f ≤ m := by
  obtain ⟨A, B, hA, hB, hs, e⟩ := h.ab
  have h0 := h.old0
  have h1 : 0 ≤ A * new := Int.mul_nonneg hA h.new0
  have h2 : B * 1 ≤ B * old := Int.mul_le_mul_of_nonneg_left (by omega) hB
  rcases hs with ⟨_, rfl⟩ | ⟨_, rfl⟩ <;> omega
theorem EuI.step {a m old new of f : Int} (h : EuI a m old new of f) (hn : new ≠ 0) : EuI a m new (old - old / new * new) f (of - old / new * f) := by
  have hn0 : 0 < new := by have := h.new0; omega
  have e : old - old / new * new = old % new := by have := Int.mul_ediv_add_emod old new; rw [Int.mul_comm] at this; omega
  have hm := mod_lt (a := old) hn0
  have hq : 0 ≤ old / new := Int.ediv_nonneg (Int.le_of_lt h.old0) h.new0
  obtain ⟨k, hk⟩ := h.d1
  obtain ⟨l, hl⟩ := h.d2
  refine ⟨by rw [e]; exact hm.1, hn0, by have := h.lt; have := h.oldm; omega, by rw [e]; exact hm.2, h.d2, ⟨k - old / new * l, ?_⟩, by rw [e, gcdI_step]; exact h.g, ?_⟩
  · have e1 : of * a = m * k + old := by omega
    have e2 : f * a = m * l + new := by omega
    rw [Int.sub_mul, Int.mul_assoc, e1, e2]
    simp only [Int.mul_add, Int.mul_sub]
    have e4 : old / new * (m * l) = m * (old / new * l) := by simp only [Int.mul_comm, Int.mul_left_comm]
    rw [e4]
    omega
  · obtain ⟨A, B, hA, hB, hs, e5⟩ := h.ab
    refine ⟨B, A + old / new * B, hB, Int.add_nonneg hA (Int.mul_nonneg hq hB), ?_, ?_⟩
    · rcases hs with ⟨rfl, rfl⟩ | ⟨rfl, rfl⟩
      · exact .inr ⟨rfl, by rw [Int.mul_neg]; omega⟩
      · exact .inl ⟨rfl, by omega⟩
    · rw [Int.mul_sub, Int.add_mul]
      have e6 : B * (old / new * new) = old / new * B * new := by simp only [Int.mul_comm, Int.mul_left_comm]
      rw [e6]
      omega
theorem EuI.done {a m old of f : Int} (h : EuI a m old 0 of f) (hg : gcdI a m = 1) (hm : 1 ≤ m) : 0 ≤ of % m ∧ of % m < m ∧ m ∣ a * (of % m) - 1 := by
  have h1 := h.g
  rw [gcdI_zero, hg] at h1
  have ho := h.old0
  have e : old = 1 := by omega
  have d := h.d1
  rw [e] at d
  have hmm := mod_lt (a := of) (b := m) (by omega)
  refine ⟨hmm.1, hmm.2, ?_⟩
  obtain ⟨k, hk⟩ := d
  refine ⟨k - a * (of / m), ?_⟩
  have e2 := Int.mul_ediv_add_emod of m
  have e3 : a * of = a * (m * (of / m)) + a * (of % m) := by rw [← Int.mul_add, e2]
  have e4 : a * (m * (of / m)) = m * (a * (of / m)) := by simp only [Int.mul_comm, Int.mul_left_comm]
  rw [Int.mul_sub]
  have e5 : of * a = a * of := Int.mul_comm _ _
  omega

end Gm
namespace Gm
open PySem PySem.Spec PyProof.Rows L2 DL

abbrev mpD (a b : Int) : D := .node .tup [.leaf (.int a), .leaf (.int b)]
/-- small numbers -/
def sm (x : Int) : Prop := -1000000000000000000000000000000 ≤ x ∧ x ≤ 1000000000000000000000000000000
theorem dvd_sub_emod (x m : Int) : m ∣ x - x % m := ⟨x / m, by have := Int.mul_ediv_add_emod x m; omega⟩
theorem emod_of_dvd {x y m : Int} (h : m ∣ x - y) : x % m = y % m := by
  obtain ⟨k, hk⟩ := h
  have : x = y + m * k := by omega
  rw [this, Int.add_mul_emod_self_left]
theorem comp_right {m a b c d x : Int} : (((a * c) % m) * x + (c * b + d) % m) % m = (c * ((a * x + b) % m) + d) % m := by
  refine emod_of_dvd ?_
  obtain ⟨k1, h1⟩ := dvd_sub_emod (a * c) m
  obtain ⟨k2, h2⟩ := dvd_sub_emod (c * b + d) m
  obtain ⟨k3, h3⟩ := dvd_sub_emod (a * x + b) m
  have e1 : (a * c) % m = a * c - m * k1 := by omega
  have e2 : (c * b + d) % m = c * b + d - m * k2 := by omega
  have e3 : (a * x + b) % m = a * x + b - m * k3 := by omega
  rw [e1, e2, e3]
  exact ⟨c * k3 - k1 * x - k2, by grind⟩
theorem back_right {m a b x r : Int} (h : m ∣ a * r - 1) (h0 : 0 ≤ x) (h1 : x < m) : (r * ((a * x + b) % m) + (-r * b) % m) % m = x := by
  rw [show x = x % m from (Int.emod_eq_of_lt h0 h1).symm]
  refine emod_of_dvd ?_
  rw [Int.emod_eq_of_lt h0 h1]
  obtain ⟨k0, h0⟩ := h
  obtain ⟨k2, h2⟩ := dvd_sub_emod (-r * b) m
  obtain ⟨k3, h3⟩ := dvd_sub_emod (a * x + b) m
  have e2 : (-r * b) % m = -r * b - m * k2 := by omega
  have e3 : (a * x + b) % m = a * x + b - m * k3 := by omega
  rw [e2, e3]
  exact ⟨k0 * x - r * k3 - k2, by grind⟩
theorem rOK_map {a b : Int} (ha : sm a) (hb : sm b) : reprOk (.tuple [.int a, .int b]) = true := by
  unfold sm at ha hb
  refine (rOK_tup (w := 131) (d := 0) (n := 2) (fun p hp => ?_) (by simp)).ok (by decide) (by decide)
  simp only [List.mem_cons, List.not_mem_nil, or_false] at hp
  rcases hp with rfl | rfl
  · exact rOK_int (by omega)
  · exact rOK_int (by omega)
theorem vReprM {Γ : Gam} {Q : Cell → Gam → Prop} {a b : Int} (ha : sm a) (hb : sm b) (q : Q (.sh (.leaf (.str (PyData.shown (.tuple [.int a, .int b]))))) Γ) : evG (gRepr [mpD a b]) Γ Q := vRepr rfl (rOK_map ha hb) q
theorem vReprN {Γ : Gam} {Q : Cell → Gam → Prop} {a : Int} (ha : sm a) (q : Q (.sh (.leaf (.str (PyData.shown (.int a))))) Γ) : evG (gRepr [.leaf (.int a)]) Γ Q := vRepr (p := .int a) rfl ((rOK_int (by unfold sm at ha; omega)).ok (by decide) (by decide)) q
theorem inv_gcd {a m r : Int} (h : m ∣ a * r - 1) : gcdI r m = 1 := by
  have h1 : gcdI r m ∣ a * r := Int.dvd_mul_of_dvd_right (gcdI_dvd_left r m)
  have h2 : gcdI r m ∣ a * r - 1 := Int.dvd_trans (gcdI_dvd_right r m) h
  have h3 : gcdI r m ∣ 1 := by
    have := Int.dvd_sub h1 h2
    rwa [show a * r - (a * r - 1) = 1 by omega] at this
  exact Int.eq_one_of_dvd_one (Int.natCast_nonneg _) h3

end Gm
namespace Gm
open PySem PySem.Spec PyProof.Rows L2 DL

/-- maps as pairs, composed modulo m -/
def cmpM (m : Int) (f g : Int × Int) : Int × Int := ((f.1 * g.1) % m, (g.1 * f.2 + g.2) % m)
def redM (m : Int) (f : Int × Int) : Prop := (0 ≤ f.1 ∧ f.1 < m) ∧ 0 ≤ f.2 ∧ f.2 < m
abbrev pD (f : Int × Int) : D := mpD f.1 f.2
theorem cmp_red {m : Int} (hm : 0 < m) (f g : Int × Int) : redM m (cmpM m f g) := ⟨mod_lt hm, mod_lt hm⟩
theorem cmp_assoc (m : Int) (f g h : Int × Int) : cmpM m (cmpM m f g) h = cmpM m f (cmpM m g h) := by
  obtain ⟨a, b⟩ := f
  obtain ⟨c, d⟩ := g
  obtain ⟨e, k⟩ := h
  unfold cmpM
  dsimp only
  obtain ⟨k1, h1⟩ := dvd_sub_emod (a * c) m
  obtain ⟨k2, h2⟩ := dvd_sub_emod (c * b + d) m
  obtain ⟨k3, h3⟩ := dvd_sub_emod (c * e) m
  obtain ⟨k4, h4⟩ := dvd_sub_emod (e * d + k) m
  have e1 : (a * c) % m = a * c - m * k1 := by omega
  have e2 : (c * b + d) % m = c * b + d - m * k2 := by omega
  have e3 : (c * e) % m = c * e - m * k3 := by omega
  have e4 : (e * d + k) % m = e * d + k - m * k4 := by omega
  refine Prod.ext ?_ ?_
  · dsimp only
    rw [e1, e3]
    exact emod_of_dvd ⟨a * k3 - k1 * e, by grind⟩
  · dsimp only
    rw [e2, e3, e4]
    exact emod_of_dvd ⟨k3 * b - e * k2 + k4, by grind⟩
theorem cmp_one_l {m : Int} {f : Int × Int} (h : redM m f) : cmpM m (1, 0) f = f := by
  unfold cmpM
  dsimp only
  rw [Int.one_mul, Int.mul_zero, Int.zero_add, Int.emod_eq_of_lt h.1.1 h.1.2, Int.emod_eq_of_lt h.2.1 h.2.2]
theorem cmp_one_r {m : Int} {f : Int × Int} (h : redM m f) : cmpM m f (1, 0) = f := by
  unfold cmpM
  dsimp only
  rw [Int.mul_one, Int.one_mul, Int.add_zero, Int.emod_eq_of_lt h.1.1 h.1.2, Int.emod_eq_of_lt h.2.1 h.2.2]
def pw (m : Int) (f : Int × Int) : Nat → Int × Int
  | 0 => (1, 0)
  | n + 1 => cmpM m (pw m f n) f
theorem one_red {m : Int} (hm : 2 ≤ m) : redM m (1, 0) := ⟨⟨by omega, by omega⟩, by omega, by omega⟩
theorem pw_red {m : Int} (hm : 2 ≤ m) (f : Int × Int) : ∀ n, redM m (pw m f n)
  | 0 => one_red hm
  | n + 1 => cmp_red (by omega) _ _
theorem pw_add {m : Int} (hm : 2 ≤ m) (f : Int × Int) (a : Nat) : ∀ b : Nat, pw m f (a + b) = cmpM m (pw m f a) (pw m f b)
  | 0 => (cmp_one_r (pw_red hm f a)).symm
  | b + 1 => by
    show cmpM m (pw m f (a + b)) f = cmpM m (pw m f a) (cmpM m (pw m f b) f)
    rw [pw_add hm f a b, cmp_assoc]
theorem pw_one {m : Int} {f : Int × Int} (h : redM m f) : pw m f 1 = f := cmp_one_l h
theorem pw_sq {m : Int} (hm : 2 ≤ m) {f : Int × Int} (h : redM m f) : ∀ n : Nat, pw m (cmpM m f f) n = pw m f (2 * n)
  | 0 => rfl
  | n + 1 => by
    show cmpM m (pw m (cmpM m f f) n) (cmpM m f f) = _
    rw [pw_sq hm h n, show 2 * (n + 1) = 2 * n + (1 + 1) by omega, pw_add hm f (2 * n) (1 + 1), pw_add hm f 1 1, pw_one h]
/-- one turn of the squaring -/
theorem pw_turn {m : Int} (hm : 2 ≤ m) {sq found : Int × Int} (h : redM m sq) (n : Nat) : cmpM m (if n % 2 = 1 then cmpM m found sq else found) (pw m (cmpM m sq sq) (n / 2)) = cmpM m found (pw m sq n) := by
  rw [pw_sq hm h]
  by_cases o : n % 2 = 1
  · rw [if_pos o, cmp_assoc]
    have : n = 1 + 2 * (n / 2) := by omega
    rw [show pw m sq n = pw m sq (1 + 2 * (n / 2)) by rw [← this], pw_add hm sq 1, pw_one h]
  · rw [if_neg o]
    have : 2 * (n / 2) = n := by omega
    rw [this]
/-- the inverse map -/
noncomputable def invM (m : Int) (f : Int × Int) : Int × Int := (invI f.1 m, (-(invI f.1 m) * f.2) % m)
noncomputable def pwI (m : Int) (f : Int × Int) (e : Int) : Int × Int := if e < 0 then pw m (invM m f) (-e).toNat else pw m f e.toNat
theorem pw_turn1 {m : Int} (hm : 2 ≤ m) {sq found : Int × Int} (h : redM m sq) {e : Int} (h0 : 0 < e) (ho : e % 2 = 1) : cmpM m (cmpM m found sq) (pw m (cmpM m sq sq) (e / 2).toNat) = cmpM m found (pw m sq e.toNat) := by
  have := pw_turn hm (found := found) h e.toNat
  rw [if_pos (by omega), show e.toNat / 2 = (e / 2).toNat by omega] at this
  exact this
theorem pw_turn0 {m : Int} (hm : 2 ≤ m) {sq found : Int × Int} (h : redM m sq) {e : Int} (h0 : 0 < e) (ho : ¬ e % 2 = 1) : cmpM m found (pw m (cmpM m sq sq) (e / 2).toNat) = cmpM m found (pw m sq e.toNat) := by
  have := pw_turn hm (found := found) h e.toNat
  rw [if_neg (by omega), show e.toNat / 2 = (e / 2).toNat by omega] at this
  exact this
theorem inv_red {m : Int} {f : Int × Int} (hm : 2 ≤ m) (h : 0 ≤ invI f.1 m ∧ invI f.1 m < m) : redM m (invM m f) := ⟨h, mod_lt (by omega)⟩
theorem red_sm {m : Int} {f : Int × Int} (hm : m ≤ 1000000000000) (h : redM m f) : sm f.1 ∧ sm f.2 := by
  obtain ⟨h1, h2⟩ := h
  unfold sm
  omega

end Gm
namespace Gm
open PySem PySem.Spec PyProof.Rows L2 DL

theorem emod_zero_dvd {x s : Int} : x % s = 0 ↔ s ∣ x := ⟨Int.dvd_of_emod_eq_zero, Int.emod_eq_zero_of_dvd⟩
/-- where a map stays: x ≡ start modulo the step -/
theorem fix_iff {m a b g F s r x t : Int} (hg : 0 < g) (e1 : g * F = a - 1) (e2 : g * s = m) (hi : s ∣ F * r - 1) (hb : -b = g * t) (h0 : 0 ≤ x) (h1 : x < m) : (a * x + b) % m = x ↔ (x - (t * r) % s) % s = 0 := by
  obtain ⟨k, hk⟩ := hi
  have step1 : (a * x + b) % m = x ↔ m ∣ (a * x + b) - x := by
    constructor
    · intro e
      have := dvd_sub_emod (a * x + b) m
      rwa [e] at this
    · intro d
      have := emod_of_dvd d
      rwa [Int.emod_eq_of_lt h0 h1] at this
  have step2 : (a * x + b) - x = g * (F * x - t) := by grind
  have step3 : g * s ∣ g * (F * x - t) ↔ s ∣ F * x - t := Int.mul_dvd_mul_iff_left (by omega)
  have step4 : s ∣ F * x - t ↔ s ∣ x - t * r := by
    constructor
    · rintro ⟨l, hl⟩
      exact ⟨r * l - k * x, by grind⟩
    · rintro ⟨l, hl⟩
      exact ⟨F * l + k * t, by grind⟩
  have step5 : s ∣ x - t * r ↔ s ∣ x - (t * r) % s := by
    obtain ⟨l, hl⟩ := dvd_sub_emod (t * r) s
    constructor
    · rintro ⟨n, hn⟩
      exact ⟨n + l, by grind⟩
    · rintro ⟨n, hn⟩
      exact ⟨n - l, by grind⟩
  rw [step1, step2, ← e2, step3, step4, step5, emod_zero_dvd]
theorem fix_none {m a b g x : Int} (hg : 0 < g) (e1 : g ∣ a - 1) (e2 : g ∣ m) (hb : ¬ g ∣ b) (h0 : 0 ≤ x) (h1 : x < m) : ¬ (a * x + b) % m = x := by
  intro e
  have d := dvd_sub_emod (a * x + b) m
  rw [e] at d
  have d1 := Int.dvd_trans e2 d
  obtain ⟨k, hk⟩ := e1
  obtain ⟨l, hl⟩ := d1
  exact hb ⟨l - k * x, by grind⟩
/-- the ints from lo -/
def rng : Int → Nat → List Int
  | _, 0 => []
  | lo, n + 1 => lo :: rng (lo + 1) n
theorem rangeD_rng : ∀ (lo : Int) (n : Nat), rangeD lo n = intsD (rng lo n)
  | lo, 0 => rfl
  | lo, n + 1 => by rw [rangeD_succ, rangeD_rng (lo + 1) n]; rfl
theorem rng_len : ∀ (lo : Int) (n : Nat), (rng lo n).length = n
  | lo, 0 => rfl
  | lo, n + 1 => by unfold rng; rw [List.length_cons, rng_len]
theorem rng_add : ∀ (lo : Int) (a b : Nat), rng lo (a + b) = rng lo a ++ rng (lo + a) b
  | lo, 0, b => by simp [rng]
  | lo, a + 1, b => by
    rw [show a + 1 + b = (a + b) + 1 by omega]
    show lo :: rng (lo + 1) (a + b) = (lo :: rng (lo + 1) a) ++ rng (lo + ((a + 1 : Nat) : Int)) b
    rw [rng_add (lo + 1) a b, List.cons_append, show lo + 1 + (a : Int) = lo + ((a + 1 : Nat) : Int) by omega]
theorem rng_mem : ∀ {lo x : Int} {n : Nat}, x ∈ rng lo n → lo ≤ x ∧ x < lo + n
  | lo, x, 0, h => by cases h
  | lo, x, n + 1, h => by
    rcases List.mem_cons.mp h with rfl | h
    · omega
    · have := rng_mem h; omega
theorem no_mult {s z : Int} (h1 : -s < z) (h2 : z < s) (h3 : z ≠ 0) : ¬ s ∣ z := by
  rintro ⟨k, hk⟩
  rcases Int.lt_trichotomy k 0 with q | q | q
  · have : s * k ≤ s * (-1) := Int.mul_le_mul_of_nonneg_left (by omega) (by omega)
    omega
  · subst q; omega
  · have : s * 1 ≤ s * k := Int.mul_le_mul_of_nonneg_left (by omega) (by omega)
    omega
theorem one_block {s x0 lo : Int} (h0 : 0 ≤ x0) (h1 : x0 < s) (hl : lo % s = 0) : (rng lo s.toNat).filter (fun x => decide ((x - x0) % s = 0)) = [lo + x0] := by
  have e : s.toNat = x0.toNat + (1 + (s - x0 - 1).toNat) := by omega
  obtain ⟨k, hk⟩ := emod_zero_dvd.mp hl
  rw [e, rng_add, rng_add, List.filter_append, List.filter_append]
  have f1 : (rng lo x0.toNat).filter (fun x => decide ((x - x0) % s = 0)) = [] := by
    rw [List.filter_eq_nil_iff]
    intro x hx
    have := rng_mem hx
    simp only [decide_eq_true_eq]
    rw [emod_zero_dvd]
    rintro ⟨l, hl⟩
    exact no_mult (s := s) (z := x - x0 - lo) (by omega) (by omega) (by omega) ⟨l - k, by grind⟩
  have f2 : (rng (lo + (x0.toNat : Int) + ((1 : Nat) : Int)) (s - x0 - 1).toNat).filter (fun x => decide ((x - x0) % s = 0)) = [] := by
    rw [List.filter_eq_nil_iff]
    intro x hx
    have := rng_mem hx
    simp only [decide_eq_true_eq]
    rw [emod_zero_dvd]
    rintro ⟨l, hl⟩
    exact no_mult (s := s) (z := x - x0 - lo) (by omega) (by omega) (by omega) ⟨l - k, by grind⟩
  have f3 : (rng (lo + (x0.toNat : Int)) 1).filter (fun x => decide ((x - x0) % s = 0)) = [lo + x0] := by
    have : rng (lo + (x0.toNat : Int)) 1 = [lo + x0] := by show [lo + (x0.toNat : Int)] = _; rw [Int.toNat_of_nonneg h0]
    rw [this]
    rw [List.filter_cons, if_pos (by rw [show lo + x0 - x0 = lo by omega, hl]; rfl), List.filter_nil]
  rw [f1, f2, f3]
  rfl
theorem blocks {s x0 : Int} (h0 : 0 ≤ x0) (h1 : x0 < s) : ∀ (n : Nat) (lo : Int), lo % s = 0 → ((rng lo (n * s.toNat)).filter (fun x => decide ((x - x0) % s = 0))).length = n ∧ (0 < n → ∃ l, (rng lo (n * s.toNat)).filter (fun x => decide ((x - x0) % s = 0)) = (lo + x0) :: l)
  | 0, lo, _ => by simp [rng]
  | n + 1, lo, hl => by
    have e : (n + 1) * s.toNat = s.toNat + n * s.toNat := by rw [Nat.add_mul, Nat.one_mul, Nat.add_comm]
    have hl2 : (lo + (s.toNat : Int)) % s = 0 := by rw [Int.toNat_of_nonneg (by omega), Int.add_emod_right]; exact hl
    obtain ⟨i1, i2⟩ := blocks h0 h1 n (lo + (s.toNat : Int)) hl2
    rw [e, rng_add, List.filter_append, one_block h0 h1 hl]
    exact ⟨by rw [List.length_append, i1, List.length_singleton, Nat.add_comm], fun _ => ⟨_, rfl⟩⟩
theorem eu_exists {a m : Int} (hm : 1 ≤ m) (hg : gcdI a m = 1) : ∀ (n : Nat) (old new of f : Int), new.toNat ≤ n → EuI a m old new of f → ∃ r, m ∣ a * r - 1
  | n, old, new, of, f, hn, h => by
    by_cases hz : new = 0
    · subst hz
      exact ⟨_, (h.done hg hm).2.2⟩
    · have hs := h.step hz
      have h1 := h.new0
      have h2 := hs.lt
      have h3 := hs.new0
      cases n with
      | zero => omega
      | succ n => exact eu_exists hm hg n _ _ _ _ (by omega) hs
theorem inv_exists {a m : Int} (hm : 1 ≤ m) (hg : gcdI a m = 1) : ∃ r, m ∣ a * r - 1 := eu_exists hm hg _ _ _ _ _ (Nat.le_refl _) (EuI.start hm)
/-- where a map stays, listed -/
theorem fix_list {m a b g F s t r : Int} (hm : 1 ≤ m) (hg : 0 < g) (e1 : g * F = a - 1) (e2 : g * s = m) (hb : -b = g * t) (hs : 0 < s) (hi : s ∣ F * r - 1) :
    ((rng 0 m.toNat).filter (fun x => decide ((a * x + b) % m = x))).length = g.toNat ∧ ∃ l, (rng 0 m.toNat).filter (fun x => decide ((a * x + b) % m = x)) = ((t * r) % s) :: l := by
  have hx := mod_lt (a := t * r) hs
  have e : (rng 0 m.toNat).filter (fun x => decide ((a * x + b) % m = x)) = (rng 0 m.toNat).filter (fun x => decide ((x - (t * r) % s) % s = 0)) := by
    refine List.filter_congr fun x h => ?_
    have hx := rng_mem h
    exact decide_eq_decide.mpr (fix_iff hg e1 e2 hi hb (by omega) (by omega))
  have e3 : m.toNat = g.toNat * s.toNat := by
    have h1 : m = ((g.toNat * s.toNat : Nat) : Int) := by
      rw [Int.natCast_mul, Int.toNat_of_nonneg (by omega), Int.toNat_of_nonneg (by omega)]
      exact e2.symm
    omega
  rw [e, e3]
  obtain ⟨b1, b2⟩ := blocks hx.1 hx.2 g.toNat 0 (Int.zero_emod s)
  refine ⟨b1, ?_⟩
  obtain ⟨l, hl⟩ := b2 (by omega)
  exact ⟨l, by rw [hl, Int.zero_add]⟩

end Gm
namespace Gm
open PySem PySem.Spec PyProof.Rows L2 DL

/-- a fact that omega does not read -/
structure Hid (p : Prop) : Prop where
  out : p
theorem int_ind {P : Int → Prop} (h0 : P 0) (hs : ∀ n : Nat, P (n : Int) → P ((n : Int) + 1)) (hp : ∀ n : Nat, P (-(n : Int)) → P (-(n : Int) - 1)) (i : Int) : P i := by
  have up : ∀ n : Nat, P (n : Int) := fun n => by
    induction n with
    | zero => exact h0
    | succ n ih => exact hs n ih
  have dn : ∀ n : Nat, P (-(n : Int)) := fun n => by
    induction n with
    | zero => exact h0
    | succ n ih => have := hp n ih; rwa [show -(n : Int) - 1 = -((n + 1 : Nat) : Int) by omega] at this
  rcases Int.le_total 0 i with h | h
  · have := up i.toNat; rwa [Int.toNat_of_nonneg h] at this
  · have := dn (-i).toNat; rwa [Int.toNat_of_nonneg (by omega), Int.neg_neg] at this
/-- invertible maps modulo m -/
def uniM (m : Int) (f : Int × Int) : Prop := redM m f ∧ gcdI f.1 m = 1
theorem uniM.red {m : Int} {f : Int × Int} (h : uniM m f) : redM m f := h.1
theorem uniM.cop {m : Int} {f : Int × Int} (h : uniM m f) : gcdI f.1 m = 1 := h.2
theorem inv_props {a m : Int} (hm : 1 ≤ m) (hg : gcdI a m = 1) : 0 ≤ invI a m ∧ invI a m < m ∧ m ∣ a * invI a m - 1 := by
  obtain ⟨r, hr⟩ := inv_exists hm hg
  have h := mod_lt (a := r) (b := m) (by omega)
  refine inv_of (r := r % m) ⟨h.1, h.2, ?_⟩
  obtain ⟨k, hk⟩ := hr
  obtain ⟨l, hl⟩ := dvd_sub_emod r m
  have e : r % m = r - m * l := by omega
  rw [e]
  exact ⟨k - a * l, by grind⟩
theorem gcd_of_inv {a m r : Int} (h : m ∣ a * r - 1) : gcdI a m = 1 := by
  rw [Int.mul_comm] at h
  exact inv_gcd h
theorem gcd_mod {a m : Int} : gcdI (a % m) m = gcdI a m := by
  rw [gcdI_comm, gcdI_step]
theorem gcd_mul {a c m : Int} (hm : 1 ≤ m) (ha : gcdI a m = 1) (hc : gcdI c m = 1) : gcdI (a * c) m = 1 := by
  obtain ⟨_, _, k, hk⟩ := inv_props hm ha
  obtain ⟨_, _, l, hl⟩ := inv_props hm hc
  refine gcd_of_inv (r := invI a m * invI c m) ⟨k * (c * invI c m) + l, ?_⟩
  have e1 : a * invI a m = m * k + 1 := by omega
  have e2 : c * invI c m = m * l + 1 := by omega
  have e3 : a * c * (invI a m * invI c m) = (a * invI a m) * (c * invI c m) := by grind
  rw [e3, e1]
  grind
theorem cmp_uni {m : Int} (hm : 2 ≤ m) {f g : Int × Int} (hf : uniM m f) (hg : uniM m g) : uniM m (cmpM m f g) :=
  ⟨cmp_red (by omega) _ _, by show gcdI ((f.1 * g.1) % m) m = 1; rw [gcd_mod]; exact gcd_mul (by omega) hf.2 hg.2⟩
theorem one_uni {m : Int} (hm : 2 ≤ m) : uniM m (1, 0) := ⟨one_red hm, gcdI_one m⟩
theorem inv_uni {m : Int} (hm : 2 ≤ m) {f : Int × Int} (hf : uniM m f) : uniM m (invM m f) := by
  obtain ⟨i1, i2, i3⟩ := inv_props (by omega) hf.2
  exact ⟨inv_red hm ⟨i1, i2⟩, inv_gcd i3⟩
theorem pw_uni {m : Int} (hm : 2 ≤ m) {f : Int × Int} (hf : uniM m f) : ∀ n, uniM m (pw m f n)
  | 0 => one_uni hm
  | n + 1 => cmp_uni hm (pw_uni hm hf n) hf
theorem pwI_uni {m : Int} (hm : 2 ≤ m) {f : Int × Int} (hf : uniM m f) (e : Int) : uniM m (pwI m f e) := by
  unfold pwI
  split
  · exact pw_uni hm (inv_uni hm hf) _
  · exact pw_uni hm hf _
theorem cmp_inv_r {m : Int} (hm : 2 ≤ m) {f : Int × Int} (hf : uniM m f) : cmpM m f (invM m f) = (1, 0) := by
  obtain ⟨i1, i2, k, hk⟩ := inv_props (by omega : (1 : Int) ≤ m) hf.2
  unfold cmpM invM
  dsimp only
  refine Prod.ext ?_ ?_
  · dsimp only
    rw [emod_of_dvd (y := 1) ⟨k, hk⟩, Int.emod_eq_of_lt (by omega) (by omega)]
  · dsimp only
    obtain ⟨l, hl⟩ := dvd_sub_emod (-(invI f.1 m) * f.2) m
    have e : (-(invI f.1 m) * f.2) % m = -(invI f.1 m) * f.2 - m * l := by omega
    rw [e, emod_of_dvd (y := 0) ⟨-l, by grind⟩, Int.emod_eq_of_lt (by omega) (by omega)]
theorem cmp_inv_l {m : Int} (hm : 2 ≤ m) {f : Int × Int} (hf : uniM m f) : cmpM m (invM m f) f = (1, 0) := by
  obtain ⟨i1, i2, k, hk⟩ := inv_props (by omega : (1 : Int) ≤ m) hf.2
  unfold cmpM invM
  dsimp only
  refine Prod.ext ?_ ?_
  · dsimp only
    rw [emod_of_dvd (y := 1) ⟨k, by rw [Int.mul_comm]; exact hk⟩, Int.emod_eq_of_lt (by omega) (by omega)]
  · dsimp only
    obtain ⟨l, hl⟩ := dvd_sub_emod (-(invI f.1 m) * f.2) m
    have e : (-(invI f.1 m) * f.2) % m = -(invI f.1 m) * f.2 - m * l := by omega
    rw [e, emod_of_dvd (y := 0) ⟨-(k * f.2) - f.1 * l, by grind⟩, Int.emod_eq_of_lt (by omega) (by omega)]
theorem inv_unique_l {m : Int} (hm : 2 ≤ m) {f g : Int × Int} (hf : uniM m f) (hg : redM m g) (h : cmpM m g f = (1, 0)) : g = invM m f := by
  have e : cmpM m (cmpM m g f) (invM m f) = invM m f := by rw [h]; exact cmp_one_l (inv_uni hm hf).1
  rw [cmp_assoc, cmp_inv_r hm hf, cmp_one_r hg] at e
  exact e
theorem inv_cmp {m : Int} (hm : 2 ≤ m) {f g : Int × Int} (hf : uniM m f) (hg : uniM m g) : invM m (cmpM m f g) = cmpM m (invM m g) (invM m f) := by
  refine (inv_unique_l hm (cmp_uni hm hf hg) (cmp_red (by omega) _ _) ?_).symm
  rw [cmp_assoc, ← cmp_assoc m (invM m f) f g, cmp_inv_l hm hf, cmp_one_l hg.1, cmp_inv_l hm hg]
theorem inv_inv {m : Int} (hm : 2 ≤ m) {f : Int × Int} (hf : uniM m f) : invM m (invM m f) = f :=
  (inv_unique_l hm (inv_uni hm hf) hf.1 (cmp_inv_r hm hf)).symm
theorem inv_one {m : Int} (hm : 2 ≤ m) : invM m (1, 0) = (1, 0) :=
  (inv_unique_l hm (one_uni hm) (one_red hm) (cmp_one_l (one_red hm))).symm
theorem cmp_cancel_r {m : Int} (hm : 2 ≤ m) {f g h : Int × Int} (hf : uniM m f) (hg : redM m g) (hh : redM m h) (e : cmpM m g f = cmpM m h f) : g = h := by
  have : cmpM m (cmpM m g f) (invM m f) = cmpM m (cmpM m h f) (invM m f) := by rw [e]
  rwa [cmp_assoc, cmp_assoc, cmp_inv_r hm hf, cmp_one_r hg, cmp_one_r hh] at this
theorem cmp_cancel_l {m : Int} (hm : 2 ≤ m) {f g h : Int × Int} (hf : uniM m f) (hg : redM m g) (hh : redM m h) (e : cmpM m f g = cmpM m f h) : g = h := by
  have : cmpM m (invM m f) (cmpM m f g) = cmpM m (invM m f) (cmpM m f h) := by rw [e]
  rwa [← cmp_assoc, ← cmp_assoc, cmp_inv_l hm hf, cmp_one_l hg, cmp_one_l hh] at this
theorem pwI_nat {m : Int} {f : Int × Int} (n : Nat) : pwI m f (n : Int) = pw m f n := by
  unfold pwI
  rw [if_neg (by omega), Int.toNat_natCast]
theorem pwI_of {m : Int} {f : Int × Int} {e : Int} (h : 0 ≤ e) : pwI m f e = pw m f e.toNat := by
  unfold pwI
  rw [if_neg (by omega)]
theorem pwI_zero {m : Int} {f : Int × Int} : pwI m f 0 = (1, 0) := rfl
theorem pwI_one {m : Int} {f : Int × Int} (h : redM m f) : pwI m f 1 = f := pw_one h
theorem pwI_succ {m : Int} (hm : 2 ≤ m) {f : Int × Int} (hf : uniM m f) (e : Int) : pwI m f (e + 1) = cmpM m (pwI m f e) f := by
  unfold pwI
  by_cases h : e < 0
  · rw [if_pos h]
    have e1 : (-e).toNat = (-e - 1).toNat + 1 := by omega
    have e2 : cmpM m (pw m (invM m f) (-e).toNat) f = pw m (invM m f) (-e - 1).toNat := by
      rw [e1]
      show cmpM m (cmpM m (pw m (invM m f) (-e - 1).toNat) (invM m f)) f = _
      rw [cmp_assoc, cmp_inv_l hm hf, cmp_one_r (pw_red hm _ _)]
    rw [e2]
    by_cases h2 : e + 1 < 0
    · rw [if_pos h2, show -(e + 1) = -e - 1 by omega]
    · rw [if_neg h2, show (e + 1).toNat = 0 by omega, show (-e - 1).toNat = 0 by omega]
      rfl
  · rw [if_neg h, if_neg (by omega), show (e + 1).toNat = e.toNat + 1 by omega]
    rfl
theorem pwI_pred {m : Int} (hm : 2 ≤ m) {f : Int × Int} (hf : uniM m f) (e : Int) : pwI m f (e - 1) = cmpM m (pwI m f e) (invM m f) := by
  have h := pwI_succ hm hf (e - 1)
  rw [show e - 1 + 1 = e by omega] at h
  rw [h, cmp_assoc, cmp_inv_r hm hf, cmp_one_r (pwI_uni hm hf _).1]
theorem pwI_add {m : Int} (hm : 2 ≤ m) {f : Int × Int} (hf : uniM m f) (a b : Int) : pwI m f (a + b) = cmpM m (pwI m f a) (pwI m f b) := by
  refine int_ind (P := fun b => pwI m f (a + b) = cmpM m (pwI m f a) (pwI m f b)) ?_ (fun n ih => ?_) (fun n ih => ?_) b
  · rw [Int.add_zero, pwI_zero, cmp_one_r (pwI_uni hm hf _).1]
  · rw [← Int.add_assoc, pwI_succ hm hf, ih, cmp_assoc, pwI_succ hm hf]
  · rw [show a + (-(n : Int) - 1) = (a + -(n : Int)) - 1 by omega, pwI_pred hm hf, ih, cmp_assoc, pwI_pred hm hf]
theorem pwI_comm {m : Int} (hm : 2 ≤ m) {f : Int × Int} (hf : uniM m f) (a b : Int) : cmpM m (pwI m f a) (pwI m f b) = cmpM m (pwI m f b) (pwI m f a) := by
  rw [← pwI_add hm hf, ← pwI_add hm hf, Int.add_comm]
theorem pwI_neg {m : Int} (hm : 2 ≤ m) {f : Int × Int} (hf : uniM m f) (a : Int) : pwI m f (-a) = invM m (pwI m f a) := by
  refine inv_unique_l hm (pwI_uni hm hf a) (pwI_uni hm hf _).1 ?_
  rw [← pwI_add hm hf, show -a + a = 0 by omega]
  rfl
theorem pwI_mul {m : Int} (hm : 2 ≤ m) {f : Int × Int} (hf : uniM m f) (a b : Int) : pwI m (pwI m f a) b = pwI m f (a * b) := by
  have hF := pwI_uni hm hf a
  refine int_ind (P := fun b => pwI m (pwI m f a) b = pwI m f (a * b)) ?_ (fun n ih => ?_) (fun n ih => ?_) b
  · rw [Int.mul_zero, pwI_zero, pwI_zero]
  · rw [pwI_succ hm hF, ih, Int.mul_add, Int.mul_one, pwI_add hm hf]
  · rw [pwI_pred hm hF, ih, Int.mul_sub, Int.mul_one, Int.sub_eq_add_neg, pwI_add hm hf, pwI_neg hm hf]
/-- the image -/
def apM (m : Int) (f : Int × Int) (x : Int) : Int := (f.1 * x + f.2) % m
theorem ap_cmp (m : Int) (f g : Int × Int) (x : Int) : apM m (cmpM m f g) x = apM m g (apM m f x) := comp_right
theorem ap_lt {m : Int} (hm : 0 < m) (f : Int × Int) (x : Int) : 0 ≤ apM m f x ∧ apM m f x < m := mod_lt hm
theorem ap_one {m x : Int} (h0 : 0 ≤ x) (h1 : x < m) : apM m (1, 0) x = x := by
  unfold apM
  dsimp only
  rw [Int.one_mul, Int.add_zero, Int.emod_eq_of_lt h0 h1]
theorem ap_pw {m : Int} (hm : 2 ≤ m) {f : Int × Int} (hf : redM m f) (x : Int) (n : Nat) : apM m f (apM m (pw m f n) x) = apM m (pw m f (n + 1)) x := (ap_cmp m (pw m f n) f x).symm
theorem eqD_tints (ns ms : List Int) : eqD (.node .tup (intsD ns)) (.node .tup (intsD ms)) = some (decide (ns = ms)) := by
  have sh : ∀ l : List Int, SeqAt.shaped (.tuple (l.map .int)) = true := fun l => by
    unfold SeqAt.shaped
    unfold PyData.canLay0 PyData.depth
    rw [canLay_ints]
    have := depthP_ints l
    simp only [Bool.true_and]
    exact decide_eq_true (by omega)
  unfold eqD toP
  rw [toPs_ints, toPs_ints]
  dsimp only
  rw [sh, sh]
  unfold PyData.eqv
  rw [eqv_ints]
  rfl
theorem eqD_pD (f g : Int × Int) : eqD (pD f) (pD g) = some (decide (f = g)) := by
  have h := eqD_tints [f.1, f.2] [g.1, g.2]
  rw [show decide ([f.1, f.2] = [g.1, g.2]) = decide (f = g) from decide_eq_decide.mpr ⟨fun e => by
    simp at e
    exact Prod.ext e.1 e.2, fun e => by rw [e]⟩] at h
  exact h
theorem vNeM {Γ : Gam} {Q : Cell → Gam → Prop} {f g : Int × Int} (q : Q (.sh (.leaf (.bl (!decide (f = g))))) Γ) : evG (gNe (pD f) (pD g)) Γ Q := vNe (eqD_pD f g) q
theorem vEqM {Γ : Gam} {Q : Cell → Gam → Prop} {f g : Int × Int} (q : Q (.sh (.leaf (.bl (decide (f = g))))) Γ) : evG (gEq (pD f) (pD g)) Γ Q := vEq (eqD_pD f g) q
def smM (f : Int × Int) : Prop := sm f.1 ∧ sm f.2
theorem pwI_red {m : Int} (hm : 2 ≤ m) (f : Int × Int) (e : Int) : redM m (pwI m f e) := by
  unfold pwI
  split
  · exact pw_red hm _ _
  · exact pw_red hm _ _
theorem smM_pwI {m : Int} (hm : 2 ≤ m ∧ m ≤ 1000000000000) (f : Int × Int) (e : Int) : smM (pwI m f e) := red_sm hm.2 (pwI_red hm.1 f e)
theorem smM_cmp {m : Int} (hm : 2 ≤ m ∧ m ≤ 1000000000000) (f g : Int × Int) : smM (cmpM m f g) := red_sm hm.2 (cmp_red (by omega) f g)
theorem smM_uni {m : Int} {f : Int × Int} (hf : uniM m f) (hm : m ≤ 1000000000000) : smM f := red_sm hm hf.1
theorem smM_inv {m : Int} {f : Int × Int} (hf : uniM m f) (hm : 2 ≤ m ∧ m ≤ 1000000000000) : smM (invM m f) := red_sm hm.2 (inv_uni hm.1 hf).1
theorem vReprPD {Γ : Gam} {Q : Cell → Gam → Prop} {f : Int × Int} (h : smM f) (q : Q (.sh (.leaf (.str (PyData.shown (.tuple [.int f.1, .int f.2]))))) Γ) : evG (gRepr [pD f]) Γ Q := vReprM h.1 h.2 q

end Gm
namespace Gm
open PySem PySem.Spec PyProof.Rows L2 DL

/-! ### pigeonhole -/
theorem nodup_lt : ∀ (n : Nat) (l : List Nat), l.Nodup → (∀ x ∈ l, x < n) → l.length ≤ n
  | 0, l, _, h => by
    cases l with
    | nil => exact Nat.le_refl _
    | cons a l => exact absurd (h a (by simp)) (by omega)
  | n + 1, l, nd, h => by
    have h1 := nodup_lt n (l.erase n) (nd.erase n) fun x hx => by
      have h2 := (List.Nodup.mem_erase_iff nd).mp hx
      have h3 := h x h2.2
      have h4 := h2.1
      omega
    by_cases hn : n ∈ l
    · rw [List.length_erase_of_mem hn] at h1
      omega
    · rw [List.erase_of_not_mem hn] at h1
      omega
/-! ### iterated images -/
def sq (m : Int) (f : Int × Int) (x : Int) (k : Nat) : Int := apM m (pw m f k) x
theorem sq_zero {m : Int} {f : Int × Int} {x : Int} (h0 : 0 ≤ x) (h1 : x < m) : sq m f x 0 = x := ap_one h0 h1
theorem sq_succ (m : Int) (f : Int × Int) (x : Int) (k : Nat) : sq m f x (k + 1) = apM m f (sq m f x k) := ap_cmp m (pw m f k) f x
theorem sq_add {m : Int} (hm : 2 ≤ m) (f : Int × Int) (x : Int) (a b : Nat) : sq m f x (a + b) = sq m f (sq m f x a) b := by
  unfold sq
  rw [pw_add hm, ap_cmp]
theorem sq_lt {m : Int} (hm : 2 ≤ m) (f : Int × Int) (x : Int) (k : Nat) : 0 ≤ sq m f x k ∧ sq m f x k < m := ap_lt (by omega) _ _
theorem ap_inj {m : Int} (hm : 2 ≤ m) {f : Int × Int} (hf : uniM m f) {y z : Int} (hy : 0 ≤ y ∧ y < m) (hz : 0 ≤ z ∧ z < m) (h : apM m f y = apM m f z) : y = z := by
  have e : apM m (invM m f) (apM m f y) = apM m (invM m f) (apM m f z) := by rw [h]
  rwa [← ap_cmp, ← ap_cmp, cmp_inv_r hm hf, ap_one hy.1 hy.2, ap_one hz.1 hz.2] at e
theorem sq_back {m : Int} (hm : 2 ≤ m) {f : Int × Int} (hf : uniM m f) {x : Int} (hx : 0 ≤ x ∧ x < m) {i j : Nat} (h : sq m f x i = sq m f x (i + j)) : sq m f x j = x := by
  rw [Nat.add_comm, sq_add hm] at h
  exact ((ap_inj hm (pw_uni hm hf i) hx (sq_lt hm f x j) h)).symm
theorem ap_mod (m : Int) (f : Int × Int) (x : Int) : apM m f (x % m) = apM m f x := by
  unfold apM
  obtain ⟨k, hk⟩ := dvd_sub_emod x m
  have e : x % m = x - m * k := by omega
  rw [e]
  exact emod_of_dvd ⟨-(f.1 * k), by grind⟩
/-- n is the period of y -/
def isPer (m : Int) (f : Int × Int) (y : Int) (n : Nat) : Prop := 0 < n ∧ ∀ k : Nat, sq m f y k = y ↔ n ∣ k
theorem isPer_of {m : Int} (hm : 2 ≤ m) {f : Int × Int} {y : Int} (hy : 0 ≤ y ∧ y < m) {n : Nat} (hn : 0 < n) (h1 : sq m f y n = y) (h2 : ∀ k, 0 < k → k < n → sq m f y k ≠ y) : isPer m f y n := by
  have mul : ∀ q : Nat, sq m f y (n * q) = y := fun q => by
    induction q with
    | zero => exact sq_zero hy.1 hy.2
    | succ q ih => rw [Nat.mul_succ, sq_add hm, ih, h1]
  refine ⟨hn, fun k => ⟨fun e => ?_, fun ⟨q, e⟩ => by rw [e]; exact mul q⟩⟩
  have e2 : sq m f y (n * (k / n) + k % n) = y := by rw [Nat.div_add_mod]; exact e
  rw [sq_add hm, mul] at e2
  have hr := Nat.mod_lt k hn
  rcases Nat.eq_zero_or_pos (k % n) with z | z
  · exact Nat.dvd_of_mod_eq_zero z
  · exact (h2 _ z hr e2).elim
theorem isPer.uniq {m : Int} {f : Int × Int} {y : Int} {n n' : Nat} (h : isPer m f y n) (h' : isPer m f y n') : n = n' :=
  Nat.dvd_antisymm ((h.2 n').mp ((h'.2 n').mpr (Nat.dvd_refl _))) ((h'.2 n).mp ((h.2 n).mpr (Nat.dvd_refl _)))
/-- the orbit, as far as it is written -/
def orb (m : Int) (f : Int × Int) (y : Int) (n : Nat) : List Int := (List.range n).map (sq m f y)
theorem orb_len (m : Int) (f : Int × Int) (y : Int) (n : Nat) : (orb m f y n).length = n := by unfold orb; simp
theorem orb_succ (m : Int) (f : Int × Int) (y : Int) (n : Nat) : orb m f y (n + 1) = orb m f y n ++ [sq m f y n] := by unfold orb; rw [List.range_succ, List.map_append]; rfl
theorem orb_get {m : Int} {f : Int × Int} {y : Int} {n k : Nat} (h : k < n) : (orb m f y n)[k]? = some (sq m f y k) := by
  unfold orb
  rw [List.getElem?_map, List.getElem?_range h]
  rfl
/-- an orbit that has not come back lies in B's class: it is short -/
theorem orb_short {m B : Int} (hm : 2 ≤ m) (hB : 0 < B) (hd : B ∣ m) {f : Int × Int} (hf : uniM m f) {y : Int} (hy : 0 ≤ y ∧ y < m) (hc : ∀ k, B ∣ sq m f y k - y) {n : Nat} (h2 : ∀ k, 0 < k → k < n → sq m f y k ≠ y) : n ≤ (m / B).toNat := by
  have e0 : B * (m / B) = m := Int.mul_ediv_cancel' hd
  have bnd : ∀ k, 0 ≤ sq m f y k / B ∧ sq m f y k / B < m / B := fun k => by
    have h := sq_lt hm f y k
    have := Int.mul_ediv_add_emod (sq m f y k) B
    have h3 := mod_lt (a := sq m f y k) hB
    refine ⟨Int.ediv_nonneg h.1 (by omega), ?_⟩
    rcases Int.lt_or_le (sq m f y k / B) (m / B) with z | z
    · exact z
    · have : B * (m / B) ≤ B * (sq m f y k / B) := Int.mul_le_mul_of_nonneg_left z (by omega)
      omega
  have inj : ∀ i j, sq m f y i / B = sq m f y j / B → sq m f y i = sq m f y j := fun i j e => by
    have r1 : sq m f y i % B = sq m f y j % B := by
      obtain ⟨a, ha⟩ := hc i
      obtain ⟨b, hb⟩ := hc j
      exact emod_of_dvd ⟨a - b, by rw [Int.mul_sub]; omega⟩
    have e1 := Int.mul_ediv_add_emod (sq m f y i) B
    have e2 := Int.mul_ediv_add_emod (sq m f y j) B
    rw [e] at e1
    omega
  have nd : ((List.range n).map fun k => (sq m f y k / B).toNat).Nodup := by
    rw [List.nodup_iff_pairwise_ne, List.pairwise_map]
    refine List.Pairwise.imp_of_mem ?_ (List.pairwise_lt_range)
    intro i j hi hj hij e
    have hi2 := List.mem_range.mp hi
    have hj2 := List.mem_range.mp hj
    have b1 := bnd i
    have b2 := bnd j
    have e3 := inj i j (by omega)
    have e4 := sq_back hm hf hy (i := i) (j := j - i) (by rw [show i + (j - i) = j by omega]; exact e3)
    exact h2 (j - i) (by omega) (by omega) e4
  have := nodup_lt (m / B).toNat _ nd fun x hx => by
    obtain ⟨k, _, rfl⟩ := List.mem_map.mp hx
    have := bnd k
    omega
  simpa using this
/-! ### reduced maps -/
def redF (d : Int) (f : Int × Int) : Int × Int := (f.1 % d, f.2 % d)
theorem dvd_ap {d m : Int} (hd : d ∣ m) {f g : Int × Int} {x y : Int} (h1 : d ∣ f.1 - g.1) (h2 : d ∣ f.2 - g.2) (h3 : d ∣ x - y) : d ∣ apM d g y - apM m f x := by
  unfold apM
  obtain ⟨k1, e1⟩ := dvd_sub_emod (g.1 * y + g.2) d
  obtain ⟨k2, e2⟩ := dvd_sub_emod (f.1 * x + f.2) m
  obtain ⟨q, hq⟩ := hd
  obtain ⟨a, ha⟩ := h1
  obtain ⟨b, hb⟩ := h2
  obtain ⟨c, hc⟩ := h3
  have e3 : f.1 = g.1 + d * a := by omega
  have e4 : f.2 = g.2 + d * b := by omega
  have e5 : x = y + d * c := by omega
  refine ⟨q * k2 - k1 - g.1 * c - a * y - d * a * c - b, ?_⟩
  have e6 : (g.1 * y + g.2) % d = g.1 * y + g.2 - d * k1 := by omega
  have e7 : (f.1 * x + f.2) % m = f.1 * x + f.2 - m * k2 := by omega
  rw [e6, e7, e3, e4, e5, hq]
  grind
theorem redF_sub (d : Int) (f : Int × Int) : d ∣ f.1 - (redF d f).1 ∧ d ∣ f.2 - (redF d f).2 := ⟨dvd_sub_emod _ _, dvd_sub_emod _ _⟩
theorem redF_red {d : Int} (hd : 2 ≤ d) (f : Int × Int) : redM d (redF d f) := ⟨mod_lt (by omega), mod_lt (by omega)⟩
theorem gcd_dvd_one {a m d : Int} (hd : d ∣ m) (h0 : 0 < d) (h : gcdI a m = 1) : gcdI a d = 1 := by
  have h1 : gcdI a d ∣ gcdI a m := Int.ofNat_dvd.mpr (Nat.dvd_gcd (Int.natAbs_dvd_natAbs.mpr (gcdI_dvd_left a d)) (Int.natAbs_dvd_natAbs.mpr (Int.dvd_trans (gcdI_dvd_right a d) hd)))
  rw [h] at h1
  exact Int.eq_one_of_dvd_one (Int.natCast_nonneg _) h1
theorem redF_uni {d m : Int} (hd2 : 2 ≤ d) (hd : d ∣ m) {f : Int × Int} (hf : uniM m f) : uniM d (redF d f) :=
  ⟨redF_red hd2 f, by show gcdI (f.1 % d) d = 1; rw [gcd_mod]; exact gcd_dvd_one hd (by omega) hf.2⟩
theorem sq_red {d m : Int} (hd2 : 2 ≤ d) (hm : 2 ≤ m) (hd : d ∣ m) {f : Int × Int} {x y : Int} (hxy : d ∣ x - y) (hx : 0 ≤ x ∧ x < m) (hy : 0 ≤ y ∧ y < d) : ∀ k, d ∣ sq d (redF d f) y k - sq m f x k
  | 0 => by
    rw [sq_zero hy.1 hy.2, sq_zero hx.1 hx.2]
    obtain ⟨c, hc⟩ := hxy
    exact ⟨-c, by rw [Int.mul_neg]; omega⟩
  | k + 1 => by
    rw [sq_succ, sq_succ]
    obtain ⟨c, hc⟩ := sq_red (f := f) hd2 hm hd hxy hx hy k
    have e : d ∣ sq m f x k - sq d (redF d f) y k := ⟨-c, by rw [Int.mul_neg, ← hc]; omega⟩
    exact dvd_ap hd (redF_sub d f).1 (redF_sub d f).2 e
/-- n is the period of x modulo a divisor B of m -/
def perD (m : Int) (f : Int × Int) (x B : Int) (n : Nat) : Prop := 0 < n ∧ ∀ k : Nat, B ∣ sq m f x k - x ↔ n ∣ k
theorem perD_one (m : Int) (f : Int × Int) (x : Int) : perD m f x 1 1 := ⟨by decide, fun k => ⟨fun _ => Nat.one_dvd k, fun _ => Int.one_dvd _⟩⟩
theorem same_mod {d y z : Int} (h : d ∣ y - z) (hy : 0 ≤ y ∧ y < d) (hz : 0 ≤ z ∧ z < d) : y = z := by
  have := emod_of_dvd h
  rwa [Int.emod_eq_of_lt hy.1 hy.2, Int.emod_eq_of_lt hz.1 hz.2] at this
theorem sq_pw {m : Int} (hm : 2 ≤ m) (f : Int × Int) (x : Int) (a : Nat) (hx : 0 ≤ x ∧ x < m) : ∀ k, sq m (pw m f a) x k = sq m f x (a * k)
  | 0 => by rw [Nat.mul_zero, sq_zero hx.1 hx.2, sq_zero hx.1 hx.2]
  | k + 1 => by
    rw [sq_succ, sq_pw hm f x a hx k, Nat.mul_succ, sq_add hm]
    rfl
/-- one step up the chain -/
theorem perD_up {m B D : Int} (hm : 2 ≤ m) (hD2 : 2 ≤ D) (hBD : B ∣ D) (hDm : D ∣ m) {f : Int × Int} {x : Int} (hx : 0 ≤ x ∧ x < m) {n c : Nat} (h : perD m f x B n) (hc : isPer D (pw D (redF D f) n) (x % D) c) : perD m f x D (n * c) := by
  have hy := mod_lt (a := x) (b := D) (by omega)
  refine ⟨Nat.mul_pos h.1 hc.1, fun k => ?_⟩
  have key : ∀ j : Nat, D ∣ sq m f x (n * j) - x ↔ c ∣ j := fun j => by
    rw [← hc.2 j, sq_pw hD2 _ _ _ hy]
    have h1 := sq_red (f := f) hD2 hm hDm (dvd_sub_emod x D) hx hy (n * j)
    obtain ⟨a, ha⟩ := h1
    obtain ⟨b, hb⟩ := dvd_sub_emod x D
    constructor
    · rintro ⟨e, he⟩
      exact same_mod ⟨a + e + b, by rw [Int.mul_add, Int.mul_add]; omega⟩ (sq_lt hD2 _ _ _) hy
    · intro e
      exact ⟨-a - b, by rw [Int.mul_sub, Int.mul_neg]; omega⟩
  constructor
  · intro d
    obtain ⟨j, rfl⟩ := (h.2 k).mp (Int.dvd_trans hBD d)
    exact Nat.mul_dvd_mul_left n ((key j).mp d)
  · rintro ⟨j, rfl⟩
    rw [Nat.mul_assoc]
    exact (key (c * j)).mpr (Nat.dvd_mul_right c j)
theorem perD_stay {m B D : Int} (hm : 2 ≤ m) (hD2 : 2 ≤ D) (hBD : B ∣ D) (hDm : D ∣ m) {f : Int × Int} {x : Int} (hx : 0 ≤ x ∧ x < m) {n : Nat} (h : perD m f x B n) (k : Nat) : B ∣ sq D (pw D (redF D f) n) (x % D) k - x % D := by
  have hy := mod_lt (a := x) (b := D) (by omega)
  rw [sq_pw hD2 _ _ _ hy]
  obtain ⟨a, ha⟩ := Int.dvd_trans hBD (sq_red (f := f) hD2 hm hDm (dvd_sub_emod x D) hx hy (n * k))
  obtain ⟨b, hb⟩ := Int.dvd_trans hBD (dvd_sub_emod x D)
  obtain ⟨e, he⟩ := (h.2 (n * k)).mpr (Nat.dvd_mul_right n k)
  exact ⟨a + e + b, by rw [Int.mul_add, Int.mul_add]; omega⟩
theorem perD_top {m : Int} (hm : 2 ≤ m) {f : Int × Int} {x : Int} (hx : 0 ≤ x ∧ x < m) {n : Nat} : perD m f x m n ↔ isPer m f x n := by
  have key : ∀ k, m ∣ sq m f x k - x ↔ sq m f x k = x := fun k => ⟨fun d => same_mod d (sq_lt hm f x k) hx, fun e => by rw [e, Int.sub_self]; exact Int.dvd_zero m⟩
  unfold perD isPer
  constructor
  · rintro ⟨h1, h2⟩
    exact ⟨h1, fun k => by rw [← key k]; exact h2 k⟩
  · rintro ⟨h1, h2⟩
    exact ⟨h1, fun k => by rw [key k]; exact h2 k⟩
theorem isPer.le {m : Int} (hm : 2 ≤ m) {f : Int × Int} (hf : uniM m f) {x : Int} (hx : 0 ≤ x ∧ x < m) {n : Nat} (h : isPer m f x n) : (n : Int) ≤ m := by
  have := orb_short (B := 1) hm (by decide) (Int.one_dvd m) hf hx (fun k => Int.one_dvd _) (n := n) fun k k1 k2 e => by
    have := Nat.le_of_dvd k1 ((h.2 k).mp e)
    omega
  rw [Int.ediv_one] at this
  omega
/-! ### chains, link by link -/
def Lk : Int → List Int → Prop
  | _, [] => True
  | b, d :: r => (∃ p ∈ prs, d = b * p) ∧ Lk d r
def Zc (l : List Int) : Prop := ∃ r, l = 1 :: r ∧ Lk 1 r
theorem lk_snoc {p : Int} (hp : p ∈ prs) : ∀ (b : Int) (r : List Int), Lk b r → Lk b (r ++ [lastI (b :: r) * p])
  | b, [], _ => ⟨⟨p, hp, rfl⟩, trivial⟩
  | b, d :: r, h => ⟨h.1, by
    have : lastI (b :: d :: r) = lastI (d :: r) := by unfold lastI; simp
    rw [this]
    exact lk_snoc hp d r h.2⟩
theorem Zc.snoc {l : List Int} {p : Int} (h : Zc l) (hp : p ∈ prs) : Zc (l ++ [lastI l * p]) := by
  obtain ⟨r, rfl, h⟩ := h
  exact ⟨r ++ [lastI (1 :: r) * p], rfl, lk_snoc hp 1 r h⟩
theorem pull_zc {p : Int} (hp : p ∈ prs) : ∀ (n : Nat) (left : Int) (l : List Int), Zc l → Zc (l ++ pullL p n left (lastI l))
  | 0, left, l, h => by unfold pullL; rw [List.append_nil]; exact h
  | n + 1, left, l, h => by
    unfold pullL
    split
    · have := pull_zc hp n (left / p) (l ++ [lastI l * p]) (h.snoc hp)
      rw [lastI_snoc, List.append_assoc] at this
      exact this
    · rw [List.append_nil]; exact h
theorem fold_zc : ∀ (ps : List Int) (s : List Int × Int), (∀ p ∈ ps, p ∈ prs) → Zc s.1 → Zc (ps.foldl stepC s).1
  | [], s, _, h => h
  | p :: ps, s, hp, h => fold_zc ps (stepC s p) (fun q hq => hp q (by simp [hq])) (pull_zc (hp p (by simp)) _ _ _ h)
theorem chain_zc (m : Int) : Zc (chainL m) := fold_zc prs ([1], m) (fun _ h => h) ⟨[], rfl, trivial⟩
theorem lk_dvd : ∀ (b : Int) (r : List Int), Lk b r → b ∣ lastI (b :: r)
  | b, [], _ => Int.dvd_refl b
  | b, d :: r, h => by
    have : lastI (b :: d :: r) = lastI (d :: r) := by unfold lastI; simp
    rw [this]
    obtain ⟨p, _, e⟩ := h.1
    exact Int.dvd_trans ⟨p, e⟩ (lk_dvd d r h.2)
theorem prs_b {p : Int} (h : p ∈ prs) : 2 ≤ p ∧ p ≤ 13 := by
  simp only [List.mem_cons, List.not_mem_nil, or_false] at h
  omega

end Gm
namespace Gm
open PySem PySem.Spec PyProof.Rows L2 DL
noncomputable def g__law_pick : GS := sRet (eBin gIx (eVar 1) (eCallN 2 m__law_draw [] (aCons (eVar 0) (aCons (eKeep (eBI gLen (aCons (eVar 1) (aNil)))) (aNil)))))
noncomputable def m__law_pick : MF := runD 2 g__law_pick
theorem pick_ok (ns : List Int) (t r : Int) (ds : List D) (ht : 0 ≤ t ∧ t < 1000000000000000000000000000000) (hr : 0 ≤ r) (h0 : 0 < ds.length) (h1 : ds.length ≤ 16777216) {Q : Cell → List Cell → Prop} {X : Exc → List Cell → Prop}
    (q : ∀ (d : D) (t' r' : Int), d ∈ ds → 0 ≤ t' → t' ≤ t + 1 → 0 ≤ r' → Q (.sh d) [penC ns t' r', .sh (.node .lst ds)]) :
    evM m__law_pick [penC ns t r, .sh (.node .lst ds)] Q X := by
  refine evDef _ (by rfl) ?_
  unfold g__law_pick
  repeat' walk_at "ev"
  refine draw_ok ns t r _ ht hr (by omega) fun d t' r' a1 a2 a3 a4 a5 => ?_
  repeat' (first | with_reducible refine ev2_mk _ _ (by with_unfolding_all exact rfl) (by with_unfolding_all exact rfl) ?_ | walk_at "evX" | walk_at "evF")
  obtain ⟨e, h2, h3⟩ := atI_of (l := ds) a1 a2
  refine vIxL h3 ?_
  repeat' walk_at "ev"
  exact q e _ _ (List.mem_iff_getElem?.mpr ⟨_, h2⟩) a3 a4 a5
theorem pick_own_ok (ns : List Int) (t r : Int) (ds : List D) (ht : 0 ≤ t ∧ t < 1000000000000000000000000000000) (hr : 0 ≤ r) (h0 : 0 < ds.length) (h1 : ds.length ≤ 16777216) {Q : Cell → List Cell → Prop} {X : Exc → List Cell → Prop}
    (q : ∀ (d : D) (t' r' : Int), d ∈ ds → 0 ≤ t' → t' ≤ t + 1 → 0 ≤ r' → Q (.sh d) [penC ns t' r', .ow .lst ds]) :
    evM m__law_pick [penC ns t r, .ow .lst ds] Q X := by
  refine evDef _ (by rfl) ?_
  unfold g__law_pick
  repeat' walk_at "ev"
  refine draw_ok ns t r _ ht hr (by omega) fun d t' r' a1 a2 a3 a4 a5 => ?_
  repeat' (first | with_reducible refine ev2_mk _ _ (by with_unfolding_all exact rfl) (by with_unfolding_all exact rfl) ?_ | walk_at "evX" | walk_at "evF")
  obtain ⟨e, h2, h3⟩ := atI_of (l := ds) a1 a2
  refine vIxL h3 ?_
  repeat' walk_at "ev"
  exact q e _ _ (List.mem_iff_getElem?.mpr ⟨_, h2⟩) a3 a4 a5

end Gm
namespace Gm
open PySem PySem.Spec PyProof.Rows L2 DL

/-- a value that == reads -/
def okD (d : D) : Prop := ∃ p, toP d = some p ∧ p.canLay0 = true ∧ p.depth ≤ 60
def okP (p : PyData) : Prop := p.canLay0 = true ∧ p.depth ≤ 60
theorem okD_int (i : Int) : okD (.leaf (.int i)) := ⟨.int i, rfl, rfl, by unfold PyData.depth; omega⟩
theorem toPs_ok : ∀ {ds : List D}, (∀ d ∈ ds, okD d) → ∃ ps : List PyData, toPs ds = some ps ∧ ps.length = ds.length ∧ PyData.canLayAll0 ps = true ∧ PyData.depthAll ps ≤ 60
  | [], _ => ⟨[], rfl, rfl, rfl, by unfold PyData.depthAll; omega⟩
  | d :: ds, h => by
    obtain ⟨p, e1, e2, e3⟩ := h d (by simp)
    obtain ⟨ps, f1, f0, f2, f3⟩ := toPs_ok (ds := ds) fun x hx => h x (by simp [hx])
    refine ⟨p :: ps, by unfold toPs; rw [e1, f1], by simp [f0], ?_, ?_⟩
    · unfold PyData.canLayAll0; rw [e2, f2]; rfl
    · unfold PyData.depthAll; omega
theorem eqD_nil {ds : List D} (h : ∀ d ∈ ds, okD d) : eqD (.node .lst ds) (.node .lst []) = some (decide (ds = [])) := by
  obtain ⟨ps, f1, f0, f2, f3⟩ := toPs_ok h
  unfold eqD toP
  rw [f1]
  dsimp only
  have s1 : SeqAt.shaped (.list ps) = true := by
    unfold SeqAt.shaped PyData.canLay0 PyData.depth
    rw [f2, Bool.true_and]
    exact decide_eq_true (by omega)
  have s2 : SeqAt.shaped (.list []) = true := rfl
  rw [show toPs [] = some [] from rfl]
  dsimp only
  rw [s1, s2]
  unfold PyData.eqv
  cases ps with
  | nil =>
    have : ds = [] := List.length_eq_zero_iff.mp f0.symm
    subst this
    rfl
  | cons p ps =>
    have : ¬ ds = [] := fun e => by subst e; simp at f0
    rw [decide_eq_false this]
    rfl
theorem vNeNil {Γ : Gam} {Q : Cell → Gam → Prop} {ds : List D} (h : ∀ d ∈ ds, okD d) (q : Q (.sh (.leaf (.bl (!decide (ds = []))))) Γ) : evG (gNe (.node .lst ds) (.node .lst [])) Γ Q := vNe (eqD_nil h) q

end Gm
namespace Gm
open PySem PySem.Spec PyProof.Rows L2 DL
noncomputable def g__law_shuffled : GS := sSeq (sPar 2 3 (aCons (eSolid (eBI gList (aCons (eVar 1) (aNil)))) (aCons (eSolid (eOfL gLstD (aNil))) (aNil))))
  (sSeq (sWhile (tOf (eBin gNe (eVar 2) (eOfL gLstD (aNil)))) (sExpr (eMut 3 "list" gAppend (aCons (eKeep (eMut 2 "list" gPopAt (aCons (eKeep (eCallN 2 m__law_draw [] (aCons (eVar 0) (aCons (eKeep (eBI gLen (aCons (eVar 2) (aNil)))) (aNil))))) (aNil)))) (aNil)))))
  (sRet (eVar 3)))
noncomputable def m__law_shuffled : MF := runD 4 g__law_shuffled
theorem erase_perm {α : Type} : ∀ (l : List α) (k : Nat) (x : α), l[k]? = some x → (x :: l.eraseIdx k).Perm l
  | [], k, x, h => by simp at h
  | a :: l, 0, x, h => by simp at h; subst h; exact List.Perm.refl _
  | a :: l, k + 1, x, h => by
    have := erase_perm l k x (by simpa using h)
    exact List.Perm.trans (List.Perm.swap a x _) (List.Perm.cons a this)
theorem shuffled_ok (ns : List Int) (t r : Int) (s : D) (ds : List D) (ht : 0 ≤ t ∧ t < 100000000000000000000000000000) (hr : 0 ≤ r) (hs : gList [s] = some (.new .lst ds)) (hk : ∀ d ∈ ds, okD d) (h1 : ds.length < 16777216) {Q : Cell → List Cell → Prop} {X : Exc → List Cell → Prop}
    (q : ∀ (out : List D) (t' r' : Int), out.Perm ds → 0 ≤ t' → t' ≤ t + ds.length → 0 ≤ r' → Q (.ow .lst out) [penC ns t' r', .sh s]) :
    evM m__law_shuffled [penC ns t r, .sh s] Q X := by
  refine evDef _ (by rfl) ?_
  unfold g__law_shuffled
  repeat' (first | walk_at "ev" | with_reducible refine evG_lst hs ?_ | with_reducible refine evPar ?_)
  refine evWhile (fun n Γ => ∃ left found t' r', Γ = [some (penR ns t' r'), some (.sh s), some (.ow .lst left), some (.ow .lst found)] ∧ left.length = n ∧ (found ++ left).Perm ds ∧ 0 ≤ t' ∧ t' ≤ t + found.length ∧ 0 ≤ r') (fun n Γ hI => ?_) ds.length ⟨ds, [], t, r, rfl, rfl, by simp, ht.1, by simp, hr⟩
  obtain ⟨left, found, t', r', rfl, hn, hp, a1, a2, a3⟩ := hI
  have hlen := hp.length_eq
  rw [List.length_append] at hlen
  have hok : ∀ d ∈ left, okD d := fun d hd => hk d (hp.mem_iff.mp (by simp [hd]))
  repeat' (first | walk_at "ev" | with_reducible refine vNeNil hok ?_)
  · rename_i hb
    subst hb
    rw [List.append_nil] at hp
    have := hp.length_eq
    exact q found t' r' hp a1 (by omega) a3
  · rename_i hb
    have hpos : 0 < left.length := List.length_pos_iff.mpr hb
    refine draw_ok ns t' r' _ ⟨a1, by omega⟩ a3 (by omega) fun d t2 r2 b1 b2 b3 b4 b5 => ?_
    have hd : d.toNat < left.length := by omega
    have hg : left[d.toNat]? = some left[d.toNat] := List.getElem?_eq_getElem hd
    repeat' walk_at "ev"
    refine uPopAt d.toNat left[d.toNat] (by omega) hg (by omega) ?_
    repeat' walk_at "ev"
    refine uAppend (by omega) ?_
    repeat' walk_at "ev"
    have hz : (left.eraseIdx d.toNat).length + 1 = left.length := by rw [List.length_eraseIdx_of_lt hd]; omega
    refine ⟨(left.eraseIdx d.toNat).length, by omega, left.eraseIdx d.toNat, found ++ [left[d.toNat]], t2, r2, rfl, rfl, ?_, b3, ?_, b5⟩
    · refine List.Perm.trans ?_ hp
      rw [List.append_assoc]
      refine List.Perm.append_left found ?_
      exact erase_perm left d.toNat _ hg
    · rw [List.length_append, List.length_singleton]; omega

end Gm
namespace Gm
open PySem PySem.Spec PyProof.Rows L2 DL
noncomputable def g__law_modulus : GS := sSeq (sPar 2 3 (aCons (eSolid (eC (.int 1))) (aCons (eSolid (eBin gAdd (eSlice (eCallN 2 m__law_shuffled [] (aCons (eVar 0) (aCons (eKeep (eOfL gLstD (aCons (eKeep (eC (.int 2))) (aCons (eKeep (eC (.int 3))) (aCons (eKeep (eC (.int 5))) (aCons (eKeep (eC (.int 7))) (aCons (eKeep (eC (.int 11))) (aCons (eKeep (eC (.int 13))) (aNil))))))))) (aNil)))) oNone (oSome (eBin gAdd (eC (.int 1)) (eCallN 2 m__law_draw [] (aCons (eVar 0) (aCons (eKeep (eC (.int 3))) (aNil))))))) (eOfL gLstD (aCons (eKeep (eC (.int 2))) (aNil))))) (aNil))))
  (sSeq (sFor (iOfL gRange1 (aCons (eKeep (eBin gAdd (eC (.int 1)) (eCallN 2 m__law_draw [] (aCons (eVar 0) (aCons (eKeep (eC (.int 12))) (aNil)))))) (aNil))) (pNm 4) (sSeq (sSet 5 (eCallN 2 m__law_pick [] (aCons (eVar 0) (aCons (eKeep (eVar 3)) (aNil)))))
  (sIf (tOf (eBin gLe (eBin gMul (eVar 2) (eVar 5)) (eVar 1))) (sSet 2 (eBin gMul (eVar 2) (eVar 5))) (sNil))))
  (sRet (eIf (tOf (eBin gGt (eVar 2) (eC (.int 1)))) (eVar 2) (eC (.int 2)))))
noncomputable def m__law_modulus : MF := runD 6 g__law_modulus
/-- a product of primes up to 13 -/
inductive Smooth : Int → Prop
  | one : Smooth 1
  | mul {m p : Int} (h : Smooth m) (hp : p = 2 ∨ p = 3 ∨ p = 5 ∨ p = 7 ∨ p = 11 ∨ p = 13) : Smooth (m * p)
theorem Smooth.pos {m : Int} (h : Smooth m) : 1 ≤ m := by
  induction h with
  | one => exact Int.le_refl 1
  | mul h hp ih => rcases hp with rfl | rfl | rfl | rfl | rfl | rfl <;> omega
def isPr (d : D) : Prop := d = .leaf (.int 2) ∨ d = .leaf (.int 3) ∨ d = .leaf (.int 5) ∨ d = .leaf (.int 7) ∨ d = .leaf (.int 11) ∨ d = .leaf (.int 13)
theorem isPr_int {d : D} (h : isPr d) : ∃ p : Int, d = .leaf (.int p) ∧ (p = 2 ∨ p = 3 ∨ p = 5 ∨ p = 7 ∨ p = 11 ∨ p = 13) := by
  rcases h with h | h | h | h | h | h <;> exact ⟨_, h, by simp⟩
theorem modulus_ok (ns : List Int) (t r most : Int) (ht : 0 ≤ t ∧ t < 10000000000000000000000000000) (hr : 0 ≤ r) (hm : 2 ≤ most ∧ most ≤ 1000000000000000000000000000000) {Q : Cell → List Cell → Prop} {X : Exc → List Cell → Prop}
    (q : ∀ m t' r' : Int, Smooth m → 2 ≤ m → m ≤ most → 0 ≤ t' → t' ≤ t + 20 → 0 ≤ r' → Q (.sh (.leaf (.int m))) [penC ns t' r', .sh (.leaf (.int most))]) :
    evM m__law_modulus [penC ns t r, .sh (.leaf (.int most))] Q X := by
  refine evDef _ (by rfl) ?_
  unfold g__law_modulus
  repeat' (first | walk_at "ev" | with_reducible refine evPar ?_)
  refine shuffled_ok ns t r _ _ (by omega) hr rfl (fun d hd => ?_) (by simp) fun out t1 r1 a1 a2 a3 a4 => ?_
  · simp only [List.mem_cons, List.not_mem_nil, or_false] at hd
    rcases hd with h | h | h | h | h | h <;> subst h <;> exact okD_int _
  have hout : ∀ d ∈ out, isPr d := fun d hd => by
    have := a1.mem_iff.mp hd
    simp only [List.mem_cons, List.not_mem_nil, or_false] at this
    exact this
  have hol := a1.length_eq
  simp at a3 hol
  repeat' walk_at "ev"
  refine draw_ok ns t1 r1 3 (by omega) a4 (by omega) fun d1 t2 r2 b1 b2 b3 b4 b5 => ?_
  repeat' walk_at "ev"
  have hcl := cutD_len out none (some (1 + d1))
  have hps : ∀ d ∈ DL.cutD out none (some (1 + d1)) ++ [D.leaf (V.int 2)], isPr d := fun d hd => by
    rcases List.mem_append.mp hd with h | h
    · exact hout d (cutD_mem h)
    · simp at h; subst h; exact .inl rfl
  refine vAddL (by simp; omega) ?_
  generalize hgp : DL.cutD out none (some (1 + d1)) ++ [D.leaf (V.int 2)] = ps at hps
  have hpl : 0 < ps.length ∧ ps.length ≤ 7 := by subst hgp; simp; omega
  repeat' walk_at "ev"
  refine draw_ok ns t2 r2 12 (by omega) b5 (by omega) fun d2 t3 r3 c1 c2 c3 c4 c5 => ?_
  repeat' walk_at "ev"
  refine evFor_range (fun k Γ => ∃ (found t' r' : Int) (c3 : Cell) (x4 x5 : Option Cell), Γ = [some (penR ns t' r'), some (.sh (.leaf (.int most))), some (.sh (.leaf (.int found))), some c3, x4, x5] ∧ (c3 = .ow .lst ps ∨ c3 = .sh (.node .lst ps)) ∧ isRf (some x4) = false ∧ isRf (some x5) = false ∧ Smooth found ∧ found ≤ most ∧ 0 ≤ t' ∧ t' ≤ t3 + k ∧ 0 ≤ r') _ _ 0 ⟨1, t3, r3, _, _, _, rfl, .inl rfl, rfl, rfl, .one, by omega, c3, by omega, c5⟩ (fun m Γ hm hI => ?_) fun Γ hI => ?_
  · obtain ⟨found, t', r', c3, x4, x5, rfl, hc3, f4, f5, e1, e2, e3, e4, e5⟩ := hI
    have hf := e1.pos
    rcases hc3 with rfl | rfl
    all_goals
      repeat' walk_at "ev"
      refine pick_ok ns t' r' ps (by omega) e5 hpl.1 (by omega) fun d t4 r4 g1 g2 g3 g4 => ?_
      obtain ⟨p, rfl, hp⟩ := isPr_int (hps d g1)
      have hpb : 2 ≤ p ∧ p ≤ 13 := by omega
      repeat' walk_at "ev"
      · exact ⟨found * p, t4, r4, _, _, _, rfl, .inr rfl, rfl, rfl, .mul e1 hp, by assumption, g2, by omega, g4⟩
      · exact ⟨found, t4, r4, _, _, _, rfl, .inr rfl, rfl, rfl, e1, e2, g2, by omega, g4⟩
  · obtain ⟨found, t', r', c3, x4, x5, rfl, hc3, f4, f5, e1, e2, e3, e4, e5⟩ := hI
    repeat' walk_at "ev"
    · exact q found t' r' e1 (by omega) e2 e3 (by omega) e5
    · exact q 2 t' r' (.mul (m := 1) .one (.inl rfl)) (by omega) (by omega) e3 (by omega) e5

end Gm
namespace Gm
open PySem PySem.Spec PyProof.Rows L2 DL

theorem pullR_dvd {p : Int} : ∀ (n : Nat) (left : Int), pullR p n left ∣ left
  | 0, left => Int.dvd_refl _
  | n + 1, left => by
    unfold pullR
    split
    · rename_i h
      exact Int.dvd_trans (pullR_dvd n (left / p)) ⟨p, by have := Int.mul_ediv_add_emod left p; rw [Int.mul_comm]; omega⟩
    · exact Int.dvd_refl _
theorem pullR_not {p : Int} (hp : 2 ≤ p) : ∀ (n : Nat) (left : Int), 0 < left → left.toNat ≤ n → ¬ p ∣ pullR p n left
  | 0, left, h, h1 => by omega
  | n + 1, left, h, h1 => by
    unfold pullR
    split
    · rename_i hd
      obtain ⟨a1, a2, _⟩ := div_lt h hp hd
      exact pullR_not hp n (left / p) a1 (by omega)
    · rename_i hd
      exact fun d => hd (Int.emod_eq_zero_of_dvd d)
theorem fold_not : ∀ (ps : List Int) (s : List Int × Int), (∀ p ∈ ps, 2 ≤ p) → 0 < s.2 → 0 < (ps.foldl stepC s).2 ∧ (ps.foldl stepC s).2 ∣ s.2 ∧ ∀ p ∈ ps, ¬ p ∣ (ps.foldl stepC s).2
  | [], s, _, h => ⟨h, Int.dvd_refl _, fun _ h => by cases h⟩
  | p :: ps, s, hp, h => by
    have hpos : 0 < (stepC s p).2 := by
      have d := pullR_dvd (p := p) s.2.toNat s.2
      show 0 < pullR p s.2.toNat s.2
      rcases Int.lt_or_le 0 (pullR p s.2.toNat s.2) with z | z
      · exact z
      · have n0 : ∀ (n : Nat) (left : Int), 0 < left → 0 < pullR p n left := fun n => by
          induction n with
          | zero => exact fun _ h => h
          | succ n ih =>
            intro left hl
            unfold pullR
            split
            · rename_i hd
              exact ih _ (div_lt hl (hp p (by simp)) hd).1
            · exact hl
        exact n0 _ _ h
    obtain ⟨a1, a2, a3⟩ := fold_not ps (stepC s p) (fun q hq => hp q (by simp [hq])) hpos
    rw [List.foldl_cons]
    refine ⟨a1, Int.dvd_trans a2 (pullR_dvd _ _), fun q hq => ?_⟩
    rcases List.mem_cons.mp hq with rfl | hq
    · exact fun d => pullR_not (hp q (by simp)) s.2.toNat s.2 h (Nat.le_refl _) (Int.dvd_trans d a2)
    · exact a3 q hq
theorem cop_prs {u p : Int} (hp : p ∈ prs) (h : ¬ p ∣ u) : Int.gcd u p = 1 := by
  have key : ∀ g : Nat, g ≤ 13 → ∀ p ∈ [2, 3, 5, 7, 11, 13], g ∣ p → g = 1 ∨ g = p := by decide
  have hb := prs_b hp
  have d1 := Int.gcd_dvd_right u p
  have d2 := Int.gcd_dvd_left u p
  have d3 : Int.gcd u p ∣ p.toNat := by
    have := Int.natAbs_dvd_natAbs.mpr d1
    rw [Int.natAbs_natCast, show p.natAbs = p.toNat by omega] at this
    exact this
  have hm : p.toNat ∈ [2, 3, 5, 7, 11, 13] := by
    simp only [List.mem_cons, List.not_mem_nil, or_false] at hp ⊢
    omega
  rcases key _ (by have := Nat.le_of_dvd (by omega) d3; omega) _ hm d3 with e | e
  · exact e
  · refine (h ?_).elim
    rw [e] at d2
    rwa [show ((p.toNat : Nat) : Int) = p by omega] at d2
theorem smooth_one {m : Int} (h : Smooth m) : ∀ u : Int, 0 < u → u ∣ m → (∀ p ∈ prs, ¬ p ∣ u) → u = 1 := by
  induction h with
  | one => exact fun u h0 hd _ => Int.eq_one_of_dvd_one (by omega) hd
  | @mul m p h hp ih =>
    intro u h0 hd hn
    have hpm : p ∈ prs := by simp only [List.mem_cons, List.not_mem_nil, or_false]; exact hp
    have hc := cop_prs hpm (hn p hpm)
    refine ih u h0 ?_ hn
    have h1 : u.natAbs ∣ m.natAbs * p.natAbs := by rw [← Int.natAbs_mul]; exact Int.natAbs_dvd_natAbs.mpr hd
    exact Int.natAbs_dvd_natAbs.mp (Nat.Coprime.dvd_of_dvd_mul_right (show Nat.Coprime u.natAbs p.natAbs from hc) h1)
theorem smooth_left {m : Int} (h : Smooth m) : leftL m = 1 := by
  obtain ⟨a1, a2, a3⟩ := fold_not prs ([1], m) (by decide) (by have := h.pos; show 0 < m; omega)
  exact smooth_one h _ a1 a2 a3
theorem smooth_last {m : Int} (h : Smooth m) : lastI (chainL m) = m := by
  have := (chain_chi (m := m) h.pos).prod
  rw [smooth_left h] at this
  omega
theorem cut1_chain (m : Int) : ∃ r, Lk 1 r ∧ chainL m = 1 :: r ∧ DL.cutD (intsD (chainL m)) (some 1) none = intsD r := by
  obtain ⟨r, e, h⟩ := chain_zc m
  refine ⟨r, h, e, ?_⟩
  rw [e]
  unfold DL.cutD
  have e1 : HT.sIx (intsD (1 :: r)).length 0 (some 1) = 1 := by
    unfold HT.sIx
    simp [intsD]
  have e2 : HT.sIx (intsD (1 :: r)).length (intsD (1 :: r)).length none = (intsD (1 :: r)).length := rfl
  rw [e1, e2]
  show List.take _ (intsD r) = intsD r
  exact List.take_of_length_le (by simp [intsD])

end Gm
namespace Gm
open PySem PySem.Spec PyProof.Rows L2 DL
noncomputable def g__law_divisors : GS := sSeq (sPar 1 2 (aCons (eSolid (eOfL gLstD (aCons (eKeep (eC (.int 1))) (aNil)))) (aCons (eSolid (eVar 0)) (aNil))))
  (sSeq (sFor (iSeq (eOfL gTupD (aCons (eKeep (eC (.int 2))) (aCons (eKeep (eC (.int 3))) (aCons (eKeep (eC (.int 5))) (aCons (eKeep (eC (.int 7))) (aCons (eKeep (eC (.int 11))) (aCons (eKeep (eC (.int 13))) (aNil))))))))) (pNm 3) (sSeq (sSet 4 (eOfL gLstD (aCons (eKeep (eC (.int 1))) (aNil))))
  (sSeq (sWhile (tOf (eBin gEq (eBin gMod (eVar 2) (eVar 3)) (eC (.int 0)))) (sSeq (sSet 2 (eBin gFdiv (eVar 2) (eVar 3)))
  (sExpr (eMut 4 "list" gAppend (aCons (eKeep (eBin gMul (eBin gIx (eVar 4) (eUn gNeg (eC (.int 1)))) (eVar 3))) (aNil))))))
  (sSeq (sSet 5 (eOfL gLstD (aNil)))
  (sSeq (sFor (iSeq (eVar 4)) (pNm 6) (sExpr (eMut 5 "list" gExtend (aCons (eKeep (eLc (iSeq (eVar 1)) (pNm 7) (tYesD) (eBin gMul (eVar 7) (eVar 6)) [7])) (aNil)))))
  (sSet 1 (eVar 5)))))))
  (sRet (eBI gSorted (aCons (eVar 1) (aNil)))))
noncomputable def m__law_divisors : MF := runD 8 g__law_divisors
/-- what holds of the divisors under way -/
structure DvI (m : Int) (found : List Int) (left : Int) (c : Nat) : Prop where
  pos : 0 < left
  ne : found ≠ []
  dvd : ∀ x ∈ found, 1 ≤ x ∧ x * left ∣ m
  len : ((found.length : Nat) : Int) * found.length * left ≤ 4 ^ c * m
  one : (1 : Int) ∈ found
  top : ∃ (P : Int) (rest : List Int), 1 ≤ P ∧ P * left = m ∧ found.Perm (P :: rest) ∧ ∀ x ∈ rest, 1 ≤ x ∧ x < P
theorem sq_pow : ∀ k : Nat, ((k : Int) + 1) * (k + 1) ≤ 4 * 2 ^ k
  | 0 => by decide
  | 1 => by decide
  | 2 => by decide
  | k + 3 => by
    have h := sq_pow (k + 2)
    rw [show k + 3 = (k + 2) + 1 from rfl, Int.pow_succ]
    have e : (((k + 2 : Nat) : Int) + 1) = (k : Int) + 3 := by omega
    have e2 : (((k + 2 + 1 : Nat) : Int) + 1) = (k : Int) + 4 := by omega
    rw [e] at h
    rw [e2]
    have h1 : ((k : Int) + 4) * (k + 4) ≤ 2 * (((k : Int) + 3) * (k + 3)) := by
      have : (0 : Int) ≤ k := by omega
      have h2 : (0 : Int) ≤ (k : Int) * k := Int.mul_nonneg this this
      simp only [Int.add_mul, Int.mul_add]
      omega
    omega
structure PwI (left0 : Int) (powers : List Int) (left : Int) : Prop where
  pos : 0 < left
  ne : powers ≠ []
  last : lastI powers * left = left0 ∧ 1 ≤ lastI powers
  dvd : ∀ y ∈ powers, 1 ≤ y ∧ y * left ∣ left0
  len : 2 ^ (powers.length - 1) * left ≤ left0
  one : (1 : Int) ∈ powers
  top : ∃ P' : List Int, powers = P' ++ [lastI powers] ∧ ∀ y ∈ P', 1 ≤ y ∧ y < lastI powers
theorem PwI.step {p left0 left : Int} {powers : List Int} (h : PwI left0 powers left) (hp : 2 ≤ p) (hd : left % p = 0) : PwI left0 (powers ++ [lastI powers * p]) (left / p) := by
  obtain ⟨a1, a2, a3⟩ := div_lt h.pos hp hd
  have hl := h.last
  have e : lastI powers * p * (left / p) = left0 := by rw [Int.mul_assoc, a3, hl.1]
  have hb : 1 ≤ lastI powers * p := by
    have : 1 * 2 ≤ lastI powers * p := Int.mul_le_mul hl.2 hp (by omega) (by omega)
    omega
  refine ⟨a1, by simp, by rw [lastI_snoc]; exact ⟨e, hb⟩, fun x hx => ?_, ?_, List.mem_append.mpr (.inl h.one), ⟨powers, by rw [lastI_snoc], fun y hy => ?_⟩⟩
  rotate_left 2
  · rw [lastI_snoc]
    refine ⟨(h.dvd y hy).1, ?_⟩
    have hlt : lastI powers * 1 < lastI powers * p := Int.mul_lt_mul_of_pos_left (by omega) (by omega)
    obtain ⟨P', e', hP'⟩ := h.top
    rw [e'] at hy
    rcases List.mem_append.mp hy with hy | hy
    · have := hP' y hy; omega
    · rw [List.mem_singleton] at hy; omega
  · rcases List.mem_append.mp hx with hx | hx
    · refine ⟨(h.dvd x hx).1, ?_⟩
      have h2 := (h.dvd x hx).2
      rw [← a3] at h2
      refine Int.dvd_trans ⟨p, ?_⟩ h2
      rw [Int.mul_assoc, Int.mul_comm (left / p)]
    · simp at hx
      subst hx
      exact ⟨hb, by rw [e]; exact Int.dvd_refl _⟩
  · have l1 := h.len
    have hne : 0 < powers.length := List.length_pos_iff.mpr h.ne
    rw [List.length_append, List.length_singleton, show powers.length + 1 - 1 = (powers.length - 1) + 1 by omega, Int.pow_succ]
    have p2 : (0 : Int) ≤ 2 ^ (powers.length - 1) := Int.pow_nonneg (by decide)
    have : 2 ^ (powers.length - 1) * (2 * (left / p)) ≤ 2 ^ (powers.length - 1) * left := Int.mul_le_mul_of_nonneg_left (by
      have : 2 * (left / p) ≤ p * (left / p) := Int.mul_le_mul_of_nonneg_right hp (by omega)
      omega) p2
    rw [Int.mul_assoc]
    omega
theorem PwI.short {left0 left : Int} {powers : List Int} (h : PwI left0 powers left) (hm : left0 ≤ 1000000000) : powers.length ≤ 31 := by
  rcases Nat.lt_or_ge 31 powers.length with z | z
  · have h1 := h.len
    have h2 := h.pos
    have h3 : (2 : Int) ^ 31 ≤ 2 ^ (powers.length - 1) := by
      have := Nat.pow_le_pow_right (n := 2) (by decide) (show 31 ≤ powers.length - 1 by omega)
      exact_mod_cast this
    have h4 : (2 : Int) ^ (powers.length - 1) * 1 ≤ 2 ^ (powers.length - 1) * left := Int.mul_le_mul_of_nonneg_left (by omega) (Int.pow_nonneg (by decide))
    have h5 : (2 : Int) ^ 31 = 2147483648 := by decide
    omega
  · exact z
theorem PwI.sq {left0 left : Int} {powers : List Int} (h : PwI left0 powers left) : ((powers.length : Nat) : Int) * powers.length * left ≤ 4 * left0 := by
  have hne : 0 < powers.length := List.length_pos_iff.mpr h.ne
  have h1 := sq_pow (powers.length - 1)
  have e : (((powers.length - 1 : Nat) : Int) + 1) = powers.length := by omega
  rw [e] at h1
  have h2 : ((powers.length : Nat) : Int) * powers.length * left ≤ 4 * 2 ^ (powers.length - 1) * left := Int.mul_le_mul_of_nonneg_right h1 (Int.le_of_lt h.pos)
  have h3 := h.len
  rw [Int.mul_assoc 4] at h2
  omega
/-- what a prime's round makes of the divisors -/
def allBy (found powers : List Int) : List Int := powers.flatMap fun y => found.map fun x => x * y
theorem DvI.next {m left0 left : Int} {found powers : List Int} {c : Nat} (h : DvI m found left0 c) (w : PwI left0 powers left) : DvI m (allBy found powers) left (c + 1) := by
  refine ⟨w.pos, ?_, fun z hz => ?_, ?_, ?_, ?_⟩
  rotate_left 3
  · unfold allBy
    exact List.mem_flatMap.mpr ⟨1, w.one, List.mem_map.mpr ⟨1, h.one, rfl⟩⟩
  · obtain ⟨P, rest, p1, p2, p3, p4⟩ := h.top
    obtain ⟨P', e', hP'⟩ := w.top
    have hl := w.last
    generalize hL : lastI powers = L at *
    refine ⟨P * L, allBy found P' ++ rest.map (· * L), ?_, by rw [Int.mul_assoc, hl.1]; exact p2, ?_, fun x hx => ?_⟩
    · have : 1 * 1 ≤ P * L := Int.mul_le_mul p1 hl.2 (by omega) (by omega)
      omega
    · have e1 : allBy found powers = allBy found P' ++ found.map (· * L) := by
        unfold allBy
        rw [e', List.flatMap_append]
        simp
      rw [e1]
      refine ((List.Perm.append_left _ (p3.map _)).trans ?_)
      rw [List.map_cons]
      exact List.perm_middle
    · have hx1 : ∀ a ∈ found, 1 ≤ a ∧ a ≤ P := fun a ha => by
        rcases List.mem_cons.mp (p3.mem_iff.mp ha) with rfl | ha
        · omega
        · have := p4 a ha; omega
      rcases List.mem_append.mp hx with hx | hx
      · unfold allBy at hx
        obtain ⟨y, hy, hx⟩ := List.mem_flatMap.mp hx
        obtain ⟨a, ha, rfl⟩ := List.mem_map.mp hx
        have hy2 := hP' y hy
        have ha2 := hx1 a ha
        have h1 : 1 * 1 ≤ a * y := Int.mul_le_mul ha2.1 hy2.1 (by omega) (by omega)
        have h2 : a * y ≤ P * y := Int.mul_le_mul_of_nonneg_right ha2.2 (by omega)
        have h3 : P * y < P * L := Int.mul_lt_mul_of_pos_left hy2.2 (by omega)
        omega
      · obtain ⟨a, ha, rfl⟩ := List.mem_map.mp hx
        have ha2 := p4 a ha
        have h1 : 1 * 1 ≤ a * L := Int.mul_le_mul ha2.1 hl.2 (by omega) (by omega)
        have h3 : a * L < P * L := Int.mul_lt_mul_of_pos_right ha2.2 (by omega)
        omega
  · obtain ⟨y, ys, rfl⟩ := List.exists_cons_of_ne_nil w.ne
    obtain ⟨x, xs, rfl⟩ := List.exists_cons_of_ne_nil h.ne
    unfold allBy
    simp
  · unfold allBy at hz
    obtain ⟨y, hy, hz⟩ := List.mem_flatMap.mp hz
    obtain ⟨x, hx, rfl⟩ := List.mem_map.mp hz
    obtain ⟨x1, x2⟩ := h.dvd x hx
    obtain ⟨y1, y2⟩ := w.dvd y hy
    refine ⟨?_, Int.dvd_trans ?_ x2⟩
    · have : 1 * 1 ≤ x * y := Int.mul_le_mul x1 y1 (by omega) (by omega)
      omega
    · rw [Int.mul_assoc]
      exact Int.mul_dvd_mul (Int.dvd_refl x) y2
  · have e : (allBy found powers).length = found.length * powers.length := by
      unfold allBy
      rw [List.length_flatMap]
      simp only [List.length_map]
      rw [List.map_const', List.sum_replicate_nat, Nat.mul_comm]
    rw [e]
    have h1 := w.sq
    have h2 := h.len
    have h0 : (0 : Int) ≤ (found.length : Int) * found.length := Int.mul_nonneg (by omega) (by omega)
    have h3 : ((found.length : Nat) : Int) * found.length * (((powers.length : Nat) : Int) * powers.length * left) ≤ (found.length : Int) * found.length * (4 * left0) := Int.mul_le_mul_of_nonneg_left h1 h0
    have e2 : (((found.length * powers.length : Nat) : Int)) * ((found.length * powers.length : Nat) : Int) * left = ((found.length : Nat) : Int) * found.length * (((powers.length : Nat) : Int) * powers.length * left) := by
      rw [Int.natCast_mul]
      simp only [Int.mul_assoc, Int.mul_comm, Int.mul_left_comm]
    have e3 : ((found.length : Nat) : Int) * found.length * (4 * left0) = 4 * (((found.length : Nat) : Int) * found.length * left0) := by
      simp only [Int.mul_assoc, Int.mul_comm, Int.mul_left_comm]
    rw [e2]
    rw [Int.pow_succ]
    have e4 : (4 : Int) ^ c * 4 * m = 4 * (4 ^ c * m) := by simp only [Int.mul_assoc, Int.mul_comm, Int.mul_left_comm]
    rw [e4]
    omega
theorem DvI.short {m left : Int} {found : List Int} {c : Nat} (h : DvI m found left c) (hc : c ≤ 6) (hm : 1 ≤ m ∧ m ≤ 1000000000) : found.length ≤ 3000000 := by
  rcases Nat.lt_or_ge 3000000 found.length with z | z
  · have h1 := h.len
    have h2 := h.pos
    have h3 : (3000000 : Int) * 3000000 ≤ (found.length : Int) * found.length := Int.mul_le_mul (by omega) (by omega) (by omega) (by omega)
    have h4 : ((found.length : Nat) : Int) * found.length * 1 ≤ (found.length : Int) * found.length * left := Int.mul_le_mul_of_nonneg_left (by omega) (Int.mul_nonneg (by omega) (by omega))
    have h5 : (4 : Int) ^ c ≤ 4 ^ 6 := by
      have := Nat.pow_le_pow_right (n := 4) (by decide) hc
      exact_mod_cast this
    have h6 : (4 : Int) ^ c * m ≤ 4 ^ 6 * m := Int.mul_le_mul_of_nonneg_right h5 (by omega)
    have h7 : (4 : Int) ^ 6 = 4096 := by decide
    rw [h7] at h6
    omega
  · exact z
theorem last_top {l rest : List Int} {m : Int} (hs : l.Pairwise (· ≤ ·)) (hp : l.Perm (m :: rest)) (hr : ∀ x ∈ rest, x < m) : ∃ init, l = init ++ [m] ∧ ∀ x ∈ init, x < m := by
  obtain ⟨A, B, rfl⟩ := List.append_of_mem (hp.mem_iff.mpr (List.mem_cons_self))
  have hab : (A ++ B).Perm rest := (List.perm_cons m).mp (List.perm_middle.symm.trans hp)
  cases B with
  | nil => exact ⟨A, rfl, fun x hx => hr x (hab.mem_iff.mp (by simp [hx]))⟩
  | cons b B =>
    have h1 := hr b (hab.mem_iff.mp (by simp))
    have h2 : m ≤ b := (List.pairwise_cons.mp (List.pairwise_append.mp hs).2.1).1 b (by simp)
    omega
theorem divisors_full (m : Int) (h : 1 ≤ m ∧ m ≤ 1000000000) {Q : Cell → List Cell → Prop} {X : Exc → List Cell → Prop}
    (q : ∀ ds : List Int, ds ≠ [] → ds.length ≤ 16000000 → (∀ x ∈ ds, 1 ≤ x ∧ x ≤ m ∧ x ∣ m) → (Smooth m → 2 ≤ m → ∃ init, ds = init ++ [m] ∧ init ≠ [] ∧ ∀ x ∈ init, x < m) → Q (.ow .lst (intsD ds)) [.sh (.leaf (.int m))]) : evM m__law_divisors [.sh (.leaf (.int m))] Q X := by
  refine evDef _ (by rfl) ?_
  unfold g__law_divisors
  repeat' walk_at "ev"
  refine evFor_inv (fun ds Γ => ∃ (ps found : List Int) (left : Int) (c1 : Cell) (x3 x4 x5 x6 : Option Cell), ds = intsD ps ∧ (∀ p ∈ ps, 2 ≤ p ∧ p ≤ 13) ∧ ps.length ≤ 6 ∧ Γ = [some (.sh (.leaf (.int m))), some c1, some (.sh (.leaf (.int left))), x3, x4, x5, x6, none] ∧ (c1 = .ow .lst (intsD found) ∨ c1 = .sh (.node .lst (intsD found))) ∧ isRf (some x3) = false ∧ isRf (some x4) = false ∧ isRf (some x5) = false ∧ isRf (some x6) = false ∧ DvI m found left (6 - ps.length) ∧ (∀ p ∈ prs, p ∉ ps → ¬ p ∣ left)) _ ⟨prs, [1], m, _, _, _, _, _, rfl, by decide, by decide, rfl, .inl rfl, rfl, rfl, rfl, rfl, ?_, fun p h1 h2 => (h2 h1).elim⟩ (fun d r Γ hI => ?_) fun Γ hI => ?_
  · exact ⟨by omega, by simp, fun x hx => by simp at hx; subst hx; exact ⟨by omega, by rw [Int.one_mul]; exact Int.dvd_refl m⟩, by simp, by simp, ⟨1, [], by omega, Int.one_mul m, List.Perm.refl _, by simp⟩⟩
  · obtain ⟨ps, found, left, c1, x3, x4, x5, x6, e1, e2, e0, rfl, hc1, f3, f4, f5, f6, hd, hno⟩ := hI
    obtain ⟨p, ps', rfl⟩ : ∃ p ps', ps = p :: ps' := by
      cases ps with
      | nil => cases e1
      | cons p ps' => exact ⟨p, ps', rfl⟩
    cases e1
    have hp := e2 p (by simp)
    rcases hc1 with rfl | rfl
    all_goals
      repeat' walk_at "ev"
      refine evWhile (fun n Γ => ∃ (powers : List Int) (left1 : Int), Γ = [some (.sh (.leaf (.int m))), some _, some (.sh (.leaf (.int left1))), some (.sh (.leaf (.int p))), some (.ow .lst (intsD powers)), x5, x6, none] ∧ left1.toNat = n ∧ PwI left powers left1) (fun n Γ hI => ?_) left.toNat ⟨[1], left, rfl, rfl, ⟨hd.pos, by simp, ⟨by show 1 * left = left; omega, by decide⟩, fun y hy => by simp at hy; subst hy; exact ⟨by omega, by rw [Int.one_mul]; exact Int.dvd_refl _⟩, by simp, by simp, ⟨[], rfl, by simp⟩⟩⟩
      obtain ⟨powers, left1, rfl, hn, hw⟩ := hI
      have hpos := hw.pos
      have hlm : left ≤ 1000000000 := by
        obtain ⟨x, xs, hx⟩ := List.exists_cons_of_ne_nil hd.ne
        have h1 := hd.dvd x (by rw [hx]; simp)
        have h2 := Int.le_of_dvd (by omega) h1.2
        have h3 : 1 * left ≤ x * left := Int.mul_le_mul_of_nonneg_right h1.1 (Int.le_of_lt hd.pos)
        omega
      have hsh := hw.short hlm
      have hpl : lastI powers ≤ 1000000000 := by
        have h1 := hw.last
        have h3 : lastI powers * 1 ≤ lastI powers * left1 := Int.mul_le_mul_of_nonneg_left (by omega) (by omega)
        omega
      have hp1 := hw.last.2
      repeat' (first | walk_at "ev" | with_reducible refine vIxLast hw.ne ?_)
      · rename_i hdv
        obtain ⟨a1, a2, a3⟩ := div_lt hpos hp.1 hdv
        refine uAppend (by simp; omega) ?_
        repeat' walk_at "ev"
        exact ⟨_, by omega, powers ++ [lastI powers * p], left1 / p, by rw [← intsD_snoc], rfl, hw.step hp.1 hdv⟩
      · rename_i hdv
        have hno2 : ∀ q ∈ prs, q ∉ ps' → ¬ q ∣ left1 := fun q hq hq2 hq3 => by
          by_cases e : q = p
          · subst e; exact hdv (Int.emod_eq_zero_of_dvd hq3)
          · exact hno q hq (by simp [e, hq2]) (Int.dvd_trans hq3 ⟨lastI powers, by rw [Int.mul_comm, hw.last.1]⟩)
        have hnx := hd.next hw
        rw [List.length_cons] at e0 hnx
        have hnl := hnx.short (by omega) h
        have hfl := hd.short (by omega) h
        have hbig : ∀ x ∈ found, x ≤ 1000000000 := fun x hx => by
          have h1 := hd.dvd x hx
          have h2 := Int.le_of_dvd (by omega) h1.2
          have h3 : x * 1 ≤ x * left := Int.mul_le_mul_of_nonneg_left (by have := hd.pos; omega) (by omega)
          omega
        have hbig2 : ∀ y ∈ powers, y ≤ 1000000000 := fun y hy => by
          have h1 := hw.dvd y hy
          have h2 := Int.le_of_dvd hd.pos h1.2
          have h3 : y * 1 ≤ y * left1 := Int.mul_le_mul_of_nonneg_left (by omega) (by omega)
          omega
        refine evFor_inv (fun ds Γ => ∃ (rest done : List Int) (c1 : Cell) (x6 : Option Cell), ds = intsD rest ∧ done ++ rest = powers ∧ Γ = [some (.sh (.leaf (.int m))), some c1, some (.sh (.leaf (.int left1))), some (.sh (.leaf (.int p))), some (.sh (.node .lst (intsD powers))), some (.ow .lst (intsD (allBy found done))), x6, none] ∧ (c1 = .ow .lst (intsD found) ∨ c1 = .sh (.node .lst (intsD found))) ∧ isRf (some x6) = false) _ ⟨powers, [], _, x6, rfl, rfl, rfl, by first | exact .inl rfl | exact .inr rfl, f6⟩ (fun d r Γ hI => ?_) fun Γ hI => ?_
        · obtain ⟨rest, done, c1, x6, e3, hdr, rfl, hc1, f6⟩ := hI
          obtain ⟨y, rest', rfl⟩ : ∃ y rest', rest = y :: rest' := by
            cases rest with
            | nil => cases e3
            | cons y r => exact ⟨y, r, rfl⟩
          cases e3
          have hym : y ∈ powers := by rw [← hdr]; simp
          have hy1 := (hw.dvd y hym).1
          have hy2 := hbig2 y hym
          have hlen : (allBy found done).length + found.length ≤ 3000000 := by
            have e : ∀ l : List Int, (allBy found l).length = found.length * l.length := fun l => by
              unfold allBy
              rw [List.length_flatMap]
              simp only [List.length_map]
              rw [List.map_const', List.sum_replicate_nat, Nat.mul_comm]
            rw [e] at hnl ⊢
            have : found.length * (done.length + 1) ≤ found.length * powers.length := Nat.mul_le_mul_left _ (by rw [← hdr]; simp)
            rw [Nat.mul_add, Nat.mul_one] at this
            omega
          rcases hc1 with rfl | rfl
          all_goals
            repeat' walk_at "ev"
            refine evLc_inv (fun ds Γ acc => ∃ xs dn : List Int, ds = intsD xs ∧ acc = intsD dn ∧ Γ = [some (.sh (.leaf (.int m))), some (.sh (.node .lst (intsD found))), some (.sh (.leaf (.int left1))), some (.sh (.leaf (.int p))), some (.sh (.node .lst (intsD powers))), some (.ow .lst (intsD (allBy found done))), some (.sh (.leaf (.int y))), none] ∧ (∀ x ∈ xs, x ∈ found) ∧ dn ++ xs.map (· * y) = found.map (· * y)) _ ⟨found, [], rfl, rfl, rfl, fun x hx => hx, rfl⟩ (fun d r Γ acc hI => ?_) fun Γ acc hI => ?_
            · obtain ⟨xs, dn, e4, rfl, rfl, hxf, hdn⟩ := hI
              obtain ⟨x, xs', rfl⟩ : ∃ x xs', xs = x :: xs' := by
                cases xs with
                | nil => cases e4
                | cons y r => exact ⟨y, r, rfl⟩
              cases e4
              have hx1 := (hd.dvd x (hxf x (by simp))).1
              have hx2 := hbig x (hxf x (by simp))
              have hdl : dn.length ≤ found.length := by
                have := congrArg List.length hdn
                simp at this
                omega
              repeat' walk_at "ev"
              exact ⟨by simp; omega, xs', dn ++ [x * y], rfl, intsD_snoc _ _, rfl, fun z hz => hxf z (by simp [hz]), by rw [← hdn]; simp⟩
            · obtain ⟨xs, dn, e4, rfl, rfl, hxf, hdn⟩ := hI
              have hxs : xs = [] := by cases xs with
                | nil => rfl
                | cons p ps' => cases e4
              subst hxs
              simp at hdn
              subst hdn
              repeat' walk_at "ev"
              refine uExtend (by simp; omega) ?_
              repeat' walk_at "ev"
              refine ⟨rest', done ++ [y], .sh (.node .lst (intsD found)), some (.sh (.leaf (.int y))), rfl, by rw [← hdr]; simp, ?_, .inr rfl, rfl⟩
              have : intsD (allBy found done) ++ intsD (found.map (· * y)) = intsD (allBy found (done ++ [y])) := by
                unfold allBy
                rw [List.flatMap_append]
                simp [intsD]
              rw [← this]
              rfl
        · obtain ⟨rest, done, c1, x6, e3, hdr, rfl, hc1, f6⟩ := hI
          have hrest : rest = [] := by cases rest with
            | nil => rfl
            | cons p ps' => cases e3
          subst hrest
          rw [List.append_nil] at hdr
          subst hdr
          rcases hc1 with rfl | rfl
          all_goals
            repeat' walk_at "ev"
            exact ⟨ps', _, left1, _, _, _, _, _, rfl, fun q hq => e2 q (by simp [hq]), by omega, rfl, .inr rfl, rfl, rfl, rfl, f6, by rw [show 6 - ps'.length = 6 - (ps'.length + 1) + 1 by omega]; exact hnx, hno2⟩
  · obtain ⟨ps, found, left, c1, x3, x4, x5, x6, e1, e2, e0, rfl, hc1, f3, f4, f5, f6, hd, hno⟩ := hI
    have hps : ps = [] := by cases ps with
      | nil => rfl
      | cons p ps' => cases e1
    subst hps
    have hlen := hd.short (by omega) h
    have z := q (sortI found) (fun e => hd.ne (by have := (sortI_perm found).length_eq; rw [e] at this; exact List.length_eq_zero_iff.mp this.symm)) (by rw [(sortI_perm found).length_eq]; omega) (fun x hx => by
      have hx := (sortI_perm found).mem_iff.mp hx
      have h1 := hd.dvd x hx
      have h4 : x ∣ m := Int.dvd_trans ⟨left, rfl⟩ h1.2
      exact ⟨h1.1, Int.le_of_dvd (by omega) h4, h4⟩) (fun hsm hm2 => by
      obtain ⟨P, rest, p1, p2, p3, p4⟩ := hd.top
      have hl1 : left = 1 := smooth_one hsm left hd.pos ⟨P, by rw [Int.mul_comm, p2]⟩ fun p hp => hno p hp (by simp)
      subst hl1
      rw [Int.mul_one] at p2
      subst p2
      obtain ⟨init, hi1, hi2⟩ := last_top (sortI_sorted found) ((sortI_perm found).trans p3) fun x hx => (p4 x hx).2
      refine ⟨init, hi1, fun e => ?_, hi2⟩
      have h1 : (1 : Int) ∈ sortI found := (sortI_perm found).mem_iff.mpr hd.one
      rw [hi1, e] at h1
      simp at h1
      omega)
    rcases hc1 with rfl | rfl
    all_goals
      repeat' walk_at "ev"
      exact z
theorem divisors_ok (m : Int) (h : 1 ≤ m ∧ m ≤ 1000000000) {Q : Cell → List Cell → Prop} {X : Exc → List Cell → Prop}
    (q : ∀ ds : List Int, ds ≠ [] → ds.length ≤ 16000000 → (∀ x ∈ ds, 1 ≤ x ∧ x ≤ m ∧ x ∣ m) → Q (.ow .lst (intsD ds)) [.sh (.leaf (.int m))]) : evM m__law_divisors [.sh (.leaf (.int m))] Q X :=
  divisors_full m h fun ds h1 h2 h3 _ => q ds h1 h2 h3

end Gm
namespace Gm
open PySem PySem.Spec PyProof.Rows L2 DL
noncomputable def g__law_unit : GS := sSeq (sSet 2 (eCallN 2 m__law_pick [] (aCons (eVar 0) (aCons (eKeep (eCallN 1 m__law_divisors [] (aCons (eKeep (eVar 1)) (aNil)))) (aNil)))))
  (sSeq (sSet 3 (eBin gMul (eVar 2) (eCallN 2 m__law_draw [] (aCons (eVar 0) (aCons (eKeep (eVar 1)) (aNil))))))
  (sSeq (sSet 4 (eBin gMod (eCallN 2 m__law_pick [] (aCons (eVar 0) (aCons (eKeep (eOfL gLstD (aCons (eKeep (eC (.int 1))) (aCons (eKeep (eBin gSub (eVar 1) (eC (.int 1)))) (aCons (eKeep (eBin gAdd (eC (.int 1)) (eVar 3))) (aCons (eKeep (eBin gAdd (eBin gSub (eVar 1) (eC (.int 1))) (eVar 3))) (aCons (eKeep (eCallN 2 m__law_draw [] (aCons (eVar 0) (aCons (eKeep (eVar 1)) (aNil))))) (aNil)))))))) (aNil)))) (eVar 1)))
  (sSeq (sWhile (tOf (eBin gNe (eCallN 2 m__law_gcd [] (aCons (eKeep (eVar 4)) (aCons (eKeep (eVar 1)) (aNil)))) (eC (.int 1)))) (sSet 4 (eBin gMod (eBin gAdd (eVar 4) (eC (.int 1))) (eVar 1))))
  (sRet (eVar 4)))))
noncomputable def m__law_unit : MF := runD 5 g__law_unit
theorem int_mem {ds : List Int} {d : D} (h : d ∈ intsD ds) : ∃ x, d = .leaf (.int x) ∧ x ∈ ds := by
  obtain ⟨x, h1, h2⟩ := List.mem_map.mp h
  exact ⟨x, h2.symm, h1⟩
theorem unit_ok (ns : List Int) (t r m : Int) (ht : 0 ≤ t ∧ t < 100000000000000000000000000000) (hr : 0 ≤ r) (hm : 2 ≤ m ∧ m ≤ 1000000000) {Q : Cell → List Cell → Prop} {X : Exc → List Cell → Prop}
    (q : ∀ u t' r' : Int, 1 ≤ u → u < m → gcdI u m = 1 → 0 ≤ t' → t' ≤ t + 4 → 0 ≤ r' → Q (.sh (.leaf (.int u))) [penC ns t' r', .sh (.leaf (.int m))]) :
    evM m__law_unit [penC ns t r, .sh (.leaf (.int m))] Q X := by
  refine evDef _ (by rfl) ?_
  unfold g__law_unit
  repeat' walk_at "ev"
  refine divisors_ok m (by omega) fun ds hne hdl hds => ?_
  repeat' walk_at "ev"
  refine pick_ok ns t r _ (by omega) hr (by rw [List.length_map]; exact List.length_pos_iff.mpr hne) (by rw [List.length_map]; omega) fun d t1 r1 a1 a2 a3 a4 => ?_
  obtain ⟨share, rfl, hs⟩ := int_mem a1
  have hsb := hds share hs
  repeat' walk_at "ev"
  refine draw_ok ns t1 r1 m (by omega) a4 (by omega) fun d1 t2 r2 b1 b2 b3 b4 b5 => ?_
  repeat' walk_at "ev"
  refine draw_ok ns t2 r2 m (by omega) b5 (by omega) fun d2 t3 r3 c1 c2 c3 c4 c5 => ?_
  repeat' walk_at "ev"
  refine pick_ok ns t3 r3 _ (by omega) c5 (by simp) (by simp) fun d t4 r4 e1 e2 e3 e4 => ?_
  obtain ⟨x, rfl⟩ : ∃ x : Int, d = .leaf (.int x) := by
    simp only [List.mem_cons, List.not_mem_nil, or_false] at e1
    rcases e1 with h | h | h | h | h <;> exact ⟨_, h⟩
  repeat' walk_at "ev"
  have hx := mod_lt (a := x) (b := m) (by omega)
  refine evWhile (fun n Γ => ∃ (u v2 v3 : Int), Γ = [some (penR ns t4 r4), some (.sh (.leaf (.int m))), some (.sh (.leaf (.int v2))), some (.sh (.leaf (.int v3))), some (.sh (.leaf (.int u)))] ∧ 0 ≤ u ∧ u < m ∧ n = (if u ≤ 1 then 1 - u else m + 1 - u).toNat) (fun n Γ hI => ?_) _ ⟨x % m, _, _, rfl, hx.1, hx.2, rfl⟩
  obtain ⟨u, v2, v3, rfl, hu0, hu1, hn⟩ := hI
  repeat' walk_at "ev"
  refine law_gcd_ok u m (by omega) ?_
  repeat' walk_at "ev"
  · rename_i h
    refine q u t4 r4 ?_ hu1 h e2 (by omega) e4
    rcases Int.lt_or_le 0 u with z | z
    · omega
    · have : u = 0 := by omega
      subst this
      rw [gcdI_comm, gcdI_zero] at h
      omega
  · rename_i h
    have hne1 : u ≠ 1 := fun e => by subst e; exact h (gcdI_one m)
    rcases Int.lt_or_le (u + 1) m with z | z
    · have hz : (u + 1) % m = u + 1 := Int.emod_eq_of_lt (by omega) z
      refine ⟨_, ?_, u + 1, v2, v3, by rw [hz], by omega, by omega, rfl⟩
      subst hn
      by_cases h2 : u ≤ 1
      · have : u = 0 := by omega
        subst this
        rw [if_pos (by decide), if_pos (by decide)]
        decide
      · rw [if_neg h2, if_neg (by omega)]; omega
    · have hz : (u + 1) % m = 0 := by rw [show u + 1 = m by omega]; exact Int.emod_self
      refine ⟨_, ?_, 0, v2, v3, by rw [hz], by omega, by omega, rfl⟩
      subst hn
      have h2 : ¬ u ≤ 1 := by omega
      rw [if_neg h2, if_pos (by decide)]; omega

end Gm
namespace Gm
open PySem PySem.Spec PyProof.Rows L2 DL
noncomputable def g__law_map : GS := sSeq (sSet 2 (eCallN 2 m__law_pick [] (aCons (eVar 0) (aCons (eKeep (eCallN 1 m__law_divisors [] (aCons (eKeep (eVar 1)) (aNil)))) (aNil)))))
  (sRet (eOfL gTupD (aCons (eKeep (eCallN 2 m__law_unit [] (aCons (eVar 0) (aCons (eKeep (eVar 1)) (aNil))))) (aCons (eKeep (eBin gMod (eBin gMul (eVar 2) (eCallN 2 m__law_draw [] (aCons (eVar 0) (aCons (eKeep (eVar 1)) (aNil))))) (eVar 1))) (aNil)))))
noncomputable def m__law_map : MF := runD 3 g__law_map
abbrev mapD (a b : Int) : D := .node .tup [.leaf (.int a), .leaf (.int b)]
theorem map_ok (ns : List Int) (t r m : Int) (ht : 0 ≤ t ∧ t < 10000000000000000000000000000) (hr : 0 ≤ r) (hm : 2 ≤ m ∧ m ≤ 1000000000) {Q : Cell → List Cell → Prop} {X : Exc → List Cell → Prop}
    (q : ∀ a b t' r' : Int, 1 ≤ a → a < m → gcdI a m = 1 → 0 ≤ b → b < m → 0 ≤ t' → t' ≤ t + 6 → 0 ≤ r' → Q (.sh (mapD a b)) [penC ns t' r', .sh (.leaf (.int m))]) :
    evM m__law_map [penC ns t r, .sh (.leaf (.int m))] Q X := by
  refine evDef _ (by rfl) ?_
  unfold g__law_map
  repeat' walk_at "ev"
  refine divisors_ok m (by omega) fun ds hne hdl hds => ?_
  repeat' walk_at "ev"
  refine pick_ok ns t r _ (by omega) hr (by rw [List.length_map]; exact List.length_pos_iff.mpr hne) (by rw [List.length_map]; omega) fun d t1 r1 a1 a2 a3 a4 => ?_
  obtain ⟨share, rfl, hs⟩ := int_mem a1
  have hsb := hds share hs
  repeat' walk_at "ev"
  refine unit_ok ns t1 r1 m (by omega) a4 hm fun u t2 r2 b1 b2 b3 b4 b5 b6 => ?_
  repeat' walk_at "ev"
  refine draw_ok ns t2 r2 m (by omega) b6 (by omega) fun d1 t3 r3 c1 c2 c3 c4 c5 => ?_
  have hx := mod_lt (a := share * d1) (b := m) (by omega)
  repeat' walk_at "ev"
  exact q u _ t3 r3 b1 b2 b3 hx.1 hx.2 c3 (by omega) c5

end Gm
namespace Gm
open PySem PySem.Spec PyProof.Rows L2 DL
noncomputable def g__law_pen : GS := sRet (eDisp [Sum.inr "cells", Sum.inr "turn", Sum.inr "rest"] [eBI gList (aCons (eSlice (eVar 0) oNone (oSome (eC (.int 63)))) (aNil)), eC (.int 0), eC (.int 0)])
noncomputable def m__law_pen : MF := runD 1 g__law_pen
theorem pen_ok (ns : List Int) (hl : ns.length ≤ 63) {Q : Cell → List Cell → Prop} {X : Exc → List Cell → Prop}
    (q : Q (penC ns 0 0) [.sh (scriptD ns)]) : evM m__law_pen [.sh (scriptD ns)] Q X := by
  refine evDef _ (by rfl) ?_
  unfold g__law_pen
  refine evRet (evDisp ?_)
  unfold aKeeps aKeeps aKeeps aKeeps
  have e : DL.cutD (intsD ns) none (some 63) = intsD ns := by
    unfold DL.cutD
    rw [show HT.sIx (intsD ns).length 0 none = 0 from rfl, show HT.sIx (intsD ns).length (intsD ns).length (some 63) = min 63 (intsD ns).length from HT.sIx_nat _ _ 63]
    rw [List.drop_zero, Nat.sub_zero, List.take_of_length_le (by rw [List.length_map]; omega)]
  have cut : ∀ {Γ : Gam} {Q : Cell → Gam → Prop}, Q (.ow .lst (intsD ns)) Γ → evG (gCut none (some 63) (scriptD ns)) Γ Q := fun h => by
    have z : evG (gCut none (some 63) (.node .scr (intsD ns))) _ _ := vCutS (by rw [e]; exact h)
    exact z
  repeat' (first | walk_at "ev" | with_reducible refine cut ?_)
  exact q

end Gm
namespace Gm
open PySem PySem.Spec PyProof.Rows L2 DL
noncomputable def g_gcd : GS := sSeq (sPar 0 1 (aCons (eSolid (eBI gAbs (aCons (eVar 0) (aNil)))) (aCons (eSolid (eBI gAbs (aCons (eVar 1) (aNil)))) (aNil))))
  (sSeq (sWhile (tOf (eBin gNe (eVar 1) (eC (.int 0)))) (sPar 0 1 (aCons (eSolid (eVar 1)) (aCons (eSolid (eBin gMod (eVar 0) (eVar 1))) (aNil)))))
  (sRet (eVar 0)))
noncomputable def m_gcd : MF := runD 2 g_gcd
theorem gcd_ok (a b : Int) {Q : Cell → List Cell → Prop} {X : Exc → List Cell → Prop}
    (q : Q (.sh (.leaf (.int (gcdI a b)))) [.sh (.leaf (.int a)), .sh (.leaf (.int b))]) : evM m_gcd [.sh (.leaf (.int a)), .sh (.leaf (.int b))] Q X := by
  refine evDef _ (by rfl) ?_
  unfold g_gcd
  repeat' (first | with_reducible refine vAbsN ?_ | walk_at "ev")
  refine evWhile (fun n Γ => ∃ x y : Int, Γ = [some (.sh (.leaf (.int x))), some (.sh (.leaf (.int y)))] ∧ 0 ≤ x ∧ 0 ≤ y ∧ y.toNat = n ∧ gcdI x y = gcdI a b) (fun n Γ hI => ?_) b.natAbs ⟨a.natAbs, b.natAbs, rfl, by omega, by omega, by omega, rfl⟩
  obtain ⟨x, y, rfl, hx, hy, rfl, hg⟩ := hI
  repeat' walk_at "ev"
  · rename_i h
    subst h
    rw [gcdI_zero] at hg
    rw [← hg, show ((x.natAbs : Nat) : Int) = x by omega] at q
    exact q
  · rename_i h
    have h1 := mod_lt (a := x) (b := y) (by omega)
    exact ⟨(x % y).toNat, by omega, y, x % y, rfl, hy, h1.1, rfl, by rw [gcdI_step, hg]⟩

end Gm
namespace Gm
open PySem PySem.Spec PyProof.Rows L2 DL
noncomputable def g_is_map : GS := sSeq (sIf (tOrD (tNotD (tOf (eBI gIsi (aCons (eVar 1) (aCons (eC (.ty "tuple")) (aNil)))))) (tOf (eBin gNe (eBI gLen (aCons (eVar 1) (aNil))) (eC (.int 2))))) (sRet (eC (.bl false))) (sNil))
  (sSeq (sIf (tNotD (tOf (eBI gAll (aCons (eLc (iSeq (eVar 1)) (pNm 2) (tYesD) (eCallN 3 m_is_between [] (aCons (eKeep (eVar 2)) (aCons (eKeep (eC (.int 0))) (aCons (eKeep (eBin gSub (eVar 0) (eC (.int 1)))) (aNil))))) [2]) (aNil))))) (sRet (eC (.bl false))) (sNil))
  (sRet (eBin gEq (eCallN 2 m_gcd [] (aCons (eKeep (eBin gIx (eVar 1) (eC (.int 0)))) (aCons (eKeep (eVar 0)) (aNil)))) (eC (.int 1)))))
noncomputable def m_is_map : MF := runD 3 g_is_map
theorem is_map_map (m a b : Int) (ha : 0 ≤ a ∧ a < m) (hb : 0 ≤ b ∧ b < m) (hg : gcdI a m = 1) {Q : Cell → List Cell → Prop} {X : Exc → List Cell → Prop}
    (q : Q (.sh (.leaf (.bl true))) [.sh (.leaf (.int m)), .sh (mpD a b)]) : evM m_is_map [.sh (.leaf (.int m)), .sh (mpD a b)] Q X := by
  refine evDef _ (by rfl) ?_
  unfold g_is_map
  repeat' walk_at "ev"
  refine evLcCons ?_
  repeat' walk_at "ev"
  refine is_between_ok (n := "int") rfl 0 (m - 1) ?_
  rw [show btw 0 (m - 1) (.leaf (.int a)) = (decide (0 ≤ a) && decide (a ≤ m - 1)) from rfl, decide_eq_true ha.1, decide_eq_true (show a ≤ m - 1 by omega)]
  repeat' walk_at "ev"
  refine ⟨by decide, evLcCons ?_⟩
  repeat' walk_at "ev"
  refine is_between_ok (n := "int") rfl 0 (m - 1) ?_
  rw [show btw 0 (m - 1) (.leaf (.int b)) = (decide (0 ≤ b) && decide (b ≤ m - 1)) from rfl, decide_eq_true hb.1, decide_eq_true (show b ≤ m - 1 by omega)]
  repeat' walk_at "ev"
  refine ⟨by decide, evLcNil ?_⟩
  repeat' walk_at "ev"
  refine vAll (bs := [true, true]) rfl ?_
  rw [show ([true, true].all id) = true from rfl]
  repeat' walk_at "ev"
  refine gcd_ok a m ?_
  rw [hg]
  repeat' walk_at "ev"
  exact q
theorem is_map_gen (m : Int) {d : D} (h : tyD d) (h2 : ∀ ds, d = .node .tup ds → ∀ e ∈ ds, tyD e) {Q : Cell → List Cell → Prop} {X : Exc → List Cell → Prop}
    (q : Q (.sh (.leaf (.bl (isMapD m d)))) [.sh (.leaf (.int m)), .sh d]) : evM m_is_map [.sh (.leaf (.int m)), .sh d] Q X := by
  obtain ⟨n, hn⟩ := h
  refine evDef _ (by rfl) ?_
  unfold g_is_map
  rcases ty_cases hn with ⟨ds, rfl⟩ | ⟨hc, hno⟩
  · repeat' walk_at "ev"
    · rename_i hl
      have hl' : ds.length = 2 := by omega
      obtain ⟨a, b, rfl⟩ : ∃ a b, ds = [a, b] := by
        match ds, hl' with
        | [a, b], _ => exact ⟨a, b, rfl⟩
      obtain ⟨na, ha⟩ := h2 _ rfl a (by simp)
      obtain ⟨nb, hb⟩ := h2 _ rfl b (by simp)
      have e : isMapD m (.node .tup [a, b]) = (btw 0 (m - 1) a && btw 0 (m - 1) b && uniI m a) := rfl
      rw [e] at q
      refine evLcCons ?_
      repeat' walk_at "ev"
      refine is_between_ok ha 0 (m - 1) ?_
      repeat' walk_at "ev"
      refine ⟨by simp, evLcCons ?_⟩
      repeat' walk_at "ev"
      refine is_between_ok hb 0 (m - 1) ?_
      repeat' walk_at "ev"
      refine ⟨by simp, evLcNil ?_⟩
      repeat' walk_at "ev"
      refine vAll (bs := [btw 0 (m - 1) a, btw 0 (m - 1) b]) rfl ?_
      rw [show [btw 0 (m - 1) a, btw 0 (m - 1) b].all id = (btw 0 (m - 1) a && btw 0 (m - 1) b) by simp [List.all]]
      cases hz : (btw 0 (m - 1) a && btw 0 (m - 1) b) with
      | false =>
        rw [hz, Bool.false_and] at q
        repeat' walk_at "ev"
        exact q
      | true =>
        rw [hz, Bool.true_and] at q
        obtain ⟨i, rfl⟩ : ∃ i, a = .leaf (.int i) := by
          rcases isIntD_cases ha with h | ⟨h, _⟩
          · exact h
          · rw [btw_not 0 (m - 1) h] at hz
            cases hz
        repeat' walk_at "ev"
        refine gcd_ok i m ?_
        repeat' walk_at "ev"
        exact q
    · rename_i hl
      rw [isMapD_not fun a b e => by cases e; exact hl rfl] at q
      exact q
  · rw [isMapD_not fun a b => hno _] at q
    rcases hc with rfl | rfl | rfl | rfl | rfl | rfl
    all_goals
      repeat' (first | walk_at "ev" | with_reducible refine vIsi hn (by with_unfolding_all exact rfl) ?_)
      exact q

end Gm
namespace Gm
open PySem PySem.Spec PyProof.Rows L2 DL
def d_PRIMES : D := .node .tup [.leaf (.int 2), .leaf (.int 3), .leaf (.int 5), .leaf (.int 7), .leaf (.int 11), .leaf (.int 13)]

end Gm
namespace Gm
open PySem PySem.Spec PyProof.Rows L2 DL

def facs (m : Int) : List Int := prs.filter fun p => decide (m % p = 0)

end Gm
namespace Gm
open PySem PySem.Spec PyProof.Rows L2 DL
noncomputable def g_prime_factors : GS := sRet (eBI gTuple (aCons (eLc (iSeq (eD d_PRIMES)) (pNm 1) (tOf (eBin gEq (eBin gMod (eVar 0) (eVar 1)) (eC (.int 0)))) (eVar 1) [1]) (aNil)))
noncomputable def m_prime_factors : MF := runD 2 g_prime_factors
theorem prime_factors_ok (m : Int) {Q : Cell → List Cell → Prop} {X : Exc → List Cell → Prop}
    (q : Q (.sh (.node .tup (intsD (facs m)))) [.sh (.leaf (.int m))]) : evM m_prime_factors [.sh (.leaf (.int m))] Q X := by
  refine evDef _ (by rfl) ?_
  unfold g_prime_factors
  repeat' walk_at "ev"
  refine evLc_inv (fun ds Γ acc => ∃ ps done : List Int, ds = intsD ps ∧ acc = intsD done ∧ Γ = [some (.sh (.leaf (.int m))), none] ∧ (∀ p ∈ ps, 2 ≤ p) ∧ done ++ ps.filter (fun p => decide (m % p = 0)) = facs m ∧ done.length + ps.length ≤ 6) _ ⟨prs, [], rfl, rfl, rfl, by decide, rfl, by decide⟩ (fun d r Γ acc hI => ?_) fun Γ acc hI => ?_
  · obtain ⟨ps, done, e1, rfl, rfl, e2, e3, e4⟩ := hI
    obtain ⟨p, ps', rfl⟩ : ∃ p ps', ps = p :: ps' := by
      cases ps with
      | nil => cases e1
      | cons p ps' => exact ⟨p, ps', rfl⟩
    cases e1
    have hp := e2 p (by simp)
    rw [List.length_cons] at e4
    repeat' walk_at "ev"
    · rename_i hd
      refine ⟨by simp; omega, ps', done ++ [p], rfl, intsD_snoc done p, rfl, fun x hx => e2 x (by simp [hx]), ?_, by simp; omega⟩
      rw [← e3, List.filter_cons, if_pos (decide_eq_true hd), List.append_assoc]
      rfl
    · rename_i hd
      refine ⟨ps', done, rfl, rfl, rfl, fun x hx => e2 x (by simp [hx]), ?_, by omega⟩
      rw [← e3, List.filter_cons, if_neg (by simpa using hd)]
  · obtain ⟨ps, done, e1, rfl, rfl, e2, e3, e4⟩ := hI
    have : ps = [] := by cases ps with
      | nil => rfl
      | cons p ps' => cases e1
    subst this
    rw [List.filter_nil, List.append_nil] at e3
    subst e3
    repeat' walk_at "ev"
    exact q

end Gm
namespace Gm
open PySem PySem.Spec PyProof.Rows L2 DL

def isMod : D → Bool
  | .leaf (.int v) => (decide (2 ≤ v) && decide (v ≤ 1000000000)) && decide (leftL v = 1)
  | _ => false
theorem left_last {v : Int} (h : 2 ≤ v) : leftL v = 1 ↔ lastI (chainL v) = v := by
  have hc := chain_chi (m := v) (by omega)
  have h1 := hc.prod
  have h2 := hc.all _ (lastI_mem hc.ne)
  constructor
  · intro e; rw [e, Int.mul_one] at h1; exact h1
  · intro e
    rw [e] at h1
    have : v * leftL v = v * 1 := by omega
    exact Int.eq_of_mul_eq_mul_left (by omega) this
theorem fold_stop {v : Int} (hv : 0 < v) : ∀ (ps : List Int) (l : List Int), (∀ p ∈ ps, ¬ v % p = 0) → ps.foldl stepC (l, v) = (l, v)
  | [], l, _ => rfl
  | p :: ps, l, h => by
    obtain ⟨e1, e2⟩ := pull_stop (p := p) (last := lastI l) hv (h p (by simp))
    rw [List.foldl_cons]
    have : stepC (l, v) p = (l, v) := by
      unfold stepC
      dsimp only
      rw [e1, e2, List.append_nil]
    rw [this]
    exact fold_stop hv ps l fun q hq => h q (by simp [hq])
theorem facs_ne {v : Int} (h : 2 ≤ v) (hl : lastI (chainL v) = v) : (facs v).isEmpty = false := by
  cases e : facs v with
  | cons a l => rfl
  | nil =>
    have z : ∀ p ∈ prs, ¬ v % p = 0 := fun p hp hd => by
      have : p ∈ facs v := List.mem_filter.mpr ⟨hp, decide_eq_true hd⟩
      rw [e] at this
      cases this
    have := fold_stop (by omega : 0 < v) prs [1] z
    unfold chainL at hl
    rw [this] at hl
    have z2 : (1 : Int) = v := hl
    omega
theorem maxI_le {b : Int} : ∀ {ns : List Int} {a : Int}, a ≤ b → (∀ n ∈ ns, n ≤ b) → ns.foldl max a ≤ b
  | [], a, h, _ => h
  | n :: ns, a, h, hn => by
    rw [List.foldl_cons]
    exact maxI_le (by have := hn n (by simp); omega) fun x hx => hn x (by simp [hx])
theorem maxI_facs (v : Int) : maxI (facs v) ≤ 13 := by
  have z : ∀ p ∈ facs v, p ≤ 13 := fun p hp => by
    have := (List.mem_filter.mp hp).1
    simp at this
    omega
  cases e : facs v with
  | nil => decide
  | cons a l =>
    rw [e] at z
    exact maxI_le (z a (by simp)) fun x hx => z x (by simp [hx])

end Gm
namespace L_affinewalk_k02_values_that_are_maps
open PySem PySem.Spec PyProof.Rows L2 DL Gm
/-! ### the text -/
def topS (i : Nat) : Stmt := PySem.Challenge.pw_affinewalk_k02_values_that_are_maps.main.body.getD i (.Pass ⟨0, 0, 0, 0⟩)
abbrev s__law_draw : Stmt := topS 8
abbrev s__law_gcd : Stmt := topS 11
abbrev s__law_is_map : Stmt := topS 16
abbrev s__law_divisors : Stmt := topS 13
abbrev s__law_pick : Stmt := topS 9
abbrev s__law_unit : Stmt := topS 14
abbrev s__law_map : Stmt := topS 15
abbrev s__law_shuffled : Stmt := topS 10
abbrev s__law_modulus : Stmt := topS 12
abbrev s__law_pen : Stmt := topS 7
abbrev s_gcd : Stmt := topS 3
abbrev s_is_integer : Stmt := topS 1
abbrev s_is_between : Stmt := topS 2
abbrev s_is_map : Stmt := topS 5
abbrev s_law : Stmt := topS 17
theorem sc__law_draw : FnScope ["pen", "many", "digit", "turn", "cell", "primes", "prime", "drawn"] ["pen", "many"] (defScope s__law_draw) := ⟨rfl, rfl, rfl, by decide +kernel, rfl, by decide +kernel, by decide +kernel⟩
theorem sc__law_gcd : FnScope ["one", "other"] ["one", "other"] (defScope s__law_gcd) := ⟨rfl, rfl, rfl, by decide +kernel, rfl, by decide +kernel, by decide +kernel⟩
theorem sc__law_is_map : FnScope ["m", "value", "one"] ["m", "value"] (defScope s__law_is_map) := ⟨rfl, rfl, rfl, by decide +kernel, rfl, by decide +kernel, by decide +kernel⟩
theorem sc__law_divisors : FnScope ["m", "found", "left", "prime", "powers", "every", "factor", "one"] ["m"] (defScope s__law_divisors) := ⟨rfl, rfl, rfl, by decide +kernel, rfl, by decide +kernel, by decide +kernel⟩
theorem sc__law_pick : FnScope ["pen", "some"] ["pen", "some"] (defScope s__law_pick) := ⟨rfl, rfl, rfl, by decide +kernel, rfl, by decide +kernel, by decide +kernel⟩
theorem sc__law_unit : FnScope ["pen", "m", "share", "near", "number"] ["pen", "m"] (defScope s__law_unit) := ⟨rfl, rfl, rfl, by decide +kernel, rfl, by decide +kernel, by decide +kernel⟩
theorem sc__law_map : FnScope ["pen", "m", "share"] ["pen", "m"] (defScope s__law_map) := ⟨rfl, rfl, rfl, by decide +kernel, rfl, by decide +kernel, by decide +kernel⟩
theorem sc__law_shuffled : FnScope ["pen", "some", "left", "found"] ["pen", "some"] (defScope s__law_shuffled) := ⟨rfl, rfl, rfl, by decide +kernel, rfl, by decide +kernel, by decide +kernel⟩
theorem sc__law_modulus : FnScope ["pen", "most", "found", "primes", "k", "prime"] ["pen", "most"] (defScope s__law_modulus) := ⟨rfl, rfl, rfl, by decide +kernel, rfl, by decide +kernel, by decide +kernel⟩
theorem sc__law_pen : FnScope ["script"] ["script"] (defScope s__law_pen) := ⟨rfl, rfl, rfl, by decide +kernel, rfl, by decide +kernel, by decide +kernel⟩
theorem sc_gcd : FnScope ["first", "second"] ["first", "second"] (defScope s_gcd) := ⟨rfl, rfl, rfl, by decide +kernel, rfl, by decide +kernel, by decide +kernel⟩
theorem sc_is_integer : FnScope ["value"] ["value"] (defScope s_is_integer) := ⟨rfl, rfl, rfl, by decide +kernel, rfl, by decide +kernel, by decide +kernel⟩
theorem sc_is_between : FnScope ["value", "low", "high"] ["value", "low", "high"] (defScope s_is_between) := ⟨rfl, rfl, rfl, by decide +kernel, rfl, by decide +kernel, by decide +kernel⟩
theorem sc_is_map : FnScope ["m", "value", "part"] ["m", "value"] (defScope s_is_map) := ⟨rfl, rfl, rfl, by decide +kernel, rfl, by decide +kernel, by decide +kernel⟩
theorem sc_law : FnScope ["script", "pen", "bout", "m", "f", "some", "k", "value", "kept"] ["script"] (defScope s_law) := ⟨rfl, rfl, rfl, by decide +kernel, rfl, by decide +kernel, by decide +kernel⟩
/-! ### the mirrors -/
noncomputable def g_law : GS := sSeq (sSet 1 (eCallN 1 m__law_pen [] (aCons (eKeep (eVar 0)) (aNil))))
  (sSeq (sFor (iOfL gRange1 (aCons (eKeep (eBin gAdd (eC (.int 4)) (eBI gMin2 (aCons (eC (.int 8)) (aCons (eBI gLen (aCons (eVar 0) (aNil))) (aNil)))))) (aNil))) (pNm 2) (sSeq (sSet 3 (eCallN 2 m__law_modulus [] (aCons (eVar 1) (aCons (eKeep (eCallN 2 m__law_pick [] (aCons (eVar 1) (aCons (eKeep (eOfL gLstD (aCons (eKeep (eC (.int 12))) (aCons (eKeep (eC (.int 5000))) (aCons (eKeep (eBin gPow (eC (.int 10)) (eC (.int 9)))) (aNil)))))) (aNil))))) (aNil)))))
  (sSeq (sSet 4 (eCallN 2 m__law_map [] (aCons (eVar 1) (aCons (eKeep (eVar 3)) (aNil)))))
  (sSeq (sSet 5 (eOfL gLstD (aCons (eKeep (eVar 4)) (aCons (eKeep (eUn gRev (eVar 4))) (aCons (eKeep (eBI gList (aCons (eVar 4) (aNil)))) (aCons (eKeep (eBin gAdd (eVar 4) (eOfL gTupD (aCons (eKeep (eC (.int 0))) (aNil))))) (aCons (eKeep (eSlice (eVar 4) oNone (oSome (eC (.int 1))))) (aCons (eKeep (eOfL gTupD (aCons (eKeep (eBin gIx (eVar 4) (eC (.int 0)))) (aCons (eKeep (eVar 3)) (aNil))))) (aCons (eKeep (eOfL gTupD (aCons (eKeep (eVar 3)) (aCons (eKeep (eBin gIx (eVar 4) (eC (.int 1)))) (aNil))))) (aCons (eKeep (eOfL gTupD (aCons (eKeep (eBin gAdd (eBin gIx (eVar 4) (eC (.int 0))) (eVar 3))) (aCons (eKeep (eBin gIx (eVar 4) (eC (.int 1)))) (aNil))))) (aCons (eKeep (eOfL gTupD (aCons (eKeep (eBin gIx (eVar 4) (eC (.int 0)))) (aCons (eKeep (eUn gNeg (eC (.int 1)))) (aNil))))) (aNil))))))))))))
  (sSeq (sSet 5 (eBin gAdd (eVar 5) (eOfL gLstD (aCons (eKeep (eOfL gTupD (aCons (eKeep (eBin gSub (eC (.int 0)) (eBin gIx (eVar 4) (eC (.int 0))))) (aCons (eKeep (eBin gIx (eVar 4) (eC (.int 1)))) (aNil))))) (aCons (eKeep (eOfL gTupD (aCons (eKeep (eC (.bl true))) (aCons (eKeep (eC (.int 0))) (aNil))))) (aCons (eKeep (eOfL gTupD (aCons (eKeep (eC (.int 1))) (aCons (eKeep (eC (.bl true))) (aNil))))) (aCons (eKeep (eOfL gTupD (aCons (eKeep (eC (.int 1))) (aCons (eKeep (eC (.bl false))) (aNil))))) (aCons (eKeep (eOfL gTupD (aCons (eKeep (eC (.str "1"))) (aCons (eKeep (eC (.int 0))) (aNil))))) (aCons (eKeep (eOfL gTupD (aCons (eKeep (eC (.int 1))) (aCons (eKeep (eC .non)) (aNil))))) (aCons (eKeep (eOfL gTupD (aNil))) (aCons (eKeep (eOfL gLstD (aNil))) (aCons (eKeep (eDict0)) (aCons (eKeep (eC .non)) (aNil))))))))))))))
  (sSeq (sSet 5 (eBin gAdd (eVar 5) (eOfL gLstD (aCons (eKeep (eC (.int 1))) (aCons (eKeep (eC (.str "1*x + 0"))) (aCons (eKeep (eOfL gTupD (aCons (eKeep (eVar 4)) (aCons (eKeep (eVar 4)) (aNil))))) (aCons (eKeep (eOfL gTupD (aCons (eKeep (eOfL gLstD (aCons (eKeep (eC (.int 1))) (aNil)))) (aCons (eKeep (eC (.int 0))) (aNil))))) (aNil))))))))
  (sSeq (sFor (iOfL gRange1 (aCons (eKeep (eC (.int 6))) (aNil))) (pNm 6) (sExpr (eMut 5 "list" gAppend (aCons (eKeep (eOfL gTupD (aCons (eKeep (eCallN 2 m__law_draw [] (aCons (eVar 1) (aCons (eKeep (eVar 3)) (aNil))))) (aCons (eKeep (eCallN 2 m__law_draw [] (aCons (eVar 1) (aCons (eKeep (eVar 3)) (aNil))))) (aNil))))) (aNil)))))
  (sFor (iSeq (eVar 5)) (pNm 7) (sSeq (sSet 8 (eBI gRepr (aCons (eVar 7) (aNil))))
  (sIf (tOrD (tOf (eBin gNe (eBI gRepr (aCons (eCallN 2 m_is_map [] (aCons (eKeep (eVar 3)) (aCons (eKeep (eVar 7)) (aNil)))) (aNil))) (eBI gRepr (aCons (eCallN 2 m__law_is_map [] (aCons (eKeep (eVar 3)) (aCons (eKeep (eVar 7)) (aNil)))) (aNil))))) (tOf (eBin gNe (eBI gRepr (aCons (eVar 7) (aNil))) (eVar 8)))) (sRet (eC (.bl false))) (sNil)))))))))))
  (sRet (eC (.bl true))))
noncomputable def m_law : MF := runD 9 g_law
/-! ### what stands behind the top -/
structure Tx (K : PySem.W.Frag) (mg : Str → Option Value) (f__law_draw f__law_gcd f__law_is_map f__law_divisors f__law_pick f__law_unit f__law_map f__law_shuffled f__law_modulus f__law_pen f_gcd f_is_integer f_is_between f_is_map f_law : Addr) (fd__law_draw fd__law_gcd fd__law_is_map fd__law_divisors fd__law_pick fd__law_unit fd__law_map fd__law_shuffled fd__law_modulus fd__law_pen fd_gcd fd_is_integer fd_is_between fd_is_map fd_law : FuncData) : Prop where
  F__law_draw : Fun K "_law_draw" "_law_draw" s__law_draw f__law_draw fd__law_draw
  g__law_draw : mg "_law_draw" = some (.ref f__law_draw)
  k__law_draw : PySem.W.keepIn K (.ref f__law_draw) = true
  b__law_draw : Binds K fd__law_draw ["pen", "many"] []
  F__law_gcd : Fun K "_law_gcd" "_law_gcd" s__law_gcd f__law_gcd fd__law_gcd
  g__law_gcd : mg "_law_gcd" = some (.ref f__law_gcd)
  k__law_gcd : PySem.W.keepIn K (.ref f__law_gcd) = true
  b__law_gcd : Binds K fd__law_gcd ["one", "other"] []
  F__law_is_map : Fun K "_law_is_map" "_law_is_map" s__law_is_map f__law_is_map fd__law_is_map
  g__law_is_map : mg "_law_is_map" = some (.ref f__law_is_map)
  k__law_is_map : PySem.W.keepIn K (.ref f__law_is_map) = true
  b__law_is_map : Binds K fd__law_is_map ["m", "value"] []
  F__law_divisors : Fun K "_law_divisors" "_law_divisors" s__law_divisors f__law_divisors fd__law_divisors
  g__law_divisors : mg "_law_divisors" = some (.ref f__law_divisors)
  k__law_divisors : PySem.W.keepIn K (.ref f__law_divisors) = true
  b__law_divisors : Binds K fd__law_divisors ["m"] []
  F__law_pick : Fun K "_law_pick" "_law_pick" s__law_pick f__law_pick fd__law_pick
  g__law_pick : mg "_law_pick" = some (.ref f__law_pick)
  k__law_pick : PySem.W.keepIn K (.ref f__law_pick) = true
  b__law_pick : Binds K fd__law_pick ["pen", "some"] []
  F__law_unit : Fun K "_law_unit" "_law_unit" s__law_unit f__law_unit fd__law_unit
  g__law_unit : mg "_law_unit" = some (.ref f__law_unit)
  k__law_unit : PySem.W.keepIn K (.ref f__law_unit) = true
  b__law_unit : Binds K fd__law_unit ["pen", "m"] []
  F__law_map : Fun K "_law_map" "_law_map" s__law_map f__law_map fd__law_map
  g__law_map : mg "_law_map" = some (.ref f__law_map)
  k__law_map : PySem.W.keepIn K (.ref f__law_map) = true
  b__law_map : Binds K fd__law_map ["pen", "m"] []
  F__law_shuffled : Fun K "_law_shuffled" "_law_shuffled" s__law_shuffled f__law_shuffled fd__law_shuffled
  g__law_shuffled : mg "_law_shuffled" = some (.ref f__law_shuffled)
  k__law_shuffled : PySem.W.keepIn K (.ref f__law_shuffled) = true
  b__law_shuffled : Binds K fd__law_shuffled ["pen", "some"] []
  F__law_modulus : Fun K "_law_modulus" "_law_modulus" s__law_modulus f__law_modulus fd__law_modulus
  g__law_modulus : mg "_law_modulus" = some (.ref f__law_modulus)
  k__law_modulus : PySem.W.keepIn K (.ref f__law_modulus) = true
  b__law_modulus : Binds K fd__law_modulus ["pen", "most"] []
  F__law_pen : Fun K "_law_pen" "_law_pen" s__law_pen f__law_pen fd__law_pen
  g__law_pen : mg "_law_pen" = some (.ref f__law_pen)
  k__law_pen : PySem.W.keepIn K (.ref f__law_pen) = true
  b__law_pen : Binds K fd__law_pen ["script"] []
  F_gcd : Fun K "gcd" "gcd" s_gcd f_gcd fd_gcd
  g_gcd : mg "gcd" = some (.ref f_gcd)
  k_gcd : PySem.W.keepIn K (.ref f_gcd) = true
  b_gcd : Binds K fd_gcd ["first", "second"] []
  F_is_integer : Fun K "is_integer" "is_integer" s_is_integer f_is_integer fd_is_integer
  g_is_integer : mg "is_integer" = some (.ref f_is_integer)
  k_is_integer : PySem.W.keepIn K (.ref f_is_integer) = true
  b_is_integer : Binds K fd_is_integer ["value"] []
  F_is_between : Fun K "is_between" "is_between" s_is_between f_is_between fd_is_between
  g_is_between : mg "is_between" = some (.ref f_is_between)
  k_is_between : PySem.W.keepIn K (.ref f_is_between) = true
  b_is_between : Binds K fd_is_between ["value", "low", "high"] []
  F_is_map : Fun K "is_map" "is_map" s_is_map f_is_map fd_is_map
  g_is_map : mg "is_map" = some (.ref f_is_map)
  k_is_map : PySem.W.keepIn K (.ref f_is_map) = true
  b_is_map : Binds K fd_is_map ["m", "value"] []
  F_law : Fun K "law" "law" s_law f_law fd_law
  g_law : mg "law" = some (.ref f_law)
  k_law : PySem.W.keepIn K (.ref f_law) = true
  b_law : Binds K fd_law ["script"] []
  z_abs : mg "abs" = none
  z_all : mg "all" = none
  z_bool : mg "bool" = none
  z_int : mg "int" = none
  z_isinstance : mg "isinstance" = none
  z_len : mg "len" = none
  z_list : mg "list" = none
  z_min : mg "min" = none
  z_range : mg "range" = none
  z_repr : mg "repr" = none
  z_sorted : mg "sorted" = none
  z_tuple : mg "tuple" = none
section
variable {P : Program} {w : World} {K : PySem.W.Frag} {mg : Str → Option Value} {base : Heap} {f__law_draw f__law_gcd f__law_is_map f__law_divisors f__law_pick f__law_unit f__law_map f__law_shuffled f__law_modulus f__law_pen f_gcd f_is_integer f_is_between f_is_map f_law : Addr} {fd__law_draw fd__law_gcd fd__law_is_map fd__law_divisors fd__law_pick fd__law_unit fd__law_map fd__law_shuffled fd__law_modulus fd__law_pen fd_gcd fd_is_integer fd_is_between fd_is_map fd_law : FuncData}
theorem ok__law_draw (T : Tx K mg f__law_draw f__law_gcd f__law_is_map f__law_divisors f__law_pick f__law_unit f__law_map f__law_shuffled f__law_modulus f__law_pen f_gcd f_is_integer f_is_between f_is_map f_law fd__law_draw fd__law_gcd fd__law_is_map fd__law_divisors fd__law_pick fd__law_unit fd__law_map fd__law_shuffled fd__law_modulus fd__law_pen fd_gcd fd_is_integer fd_is_between fd_is_map fd_law) : FnG P w K mg base 1 f__law_draw fd__law_draw ["pen", "many"] m__law_draw :=
  def_ok T.F__law_draw sc__law_draw (by decide) g__law_draw fun cdv A outer s H E bx => 
    dss_cons (ds_if (dt_cmp op_gt s2Gt (de_dget (de_var 0) (de_const pe_str) bx.room) (de_const pe_int) (nomark _)) (dss_cons (ds_set 2 (de_op op_mod s2Mod (de_dget (de_var 0) (de_const pe_str) bx.room) (de_var 1)) sc__law_draw.nd)
    (dss_cons (ds_store 0 (de_op op_fdivW s2Fdiv (de_dget (de_var 0) (de_const pe_str) bx.room) (de_var 1)) (de_const pe_str) bx.room)
    (dss_one (ds_ret (de_var 2))))) (dss_nil))
    (dss_cons (ds_set 3 (de_dget (de_var 0) (de_const pe_str) bx.room) sc__law_draw.nd)
    (dss_cons (ds_store 0 (de_opT opAdd s2Add (de_var 3) (de_const pe_int)) (de_const pe_str) bx.room)
    (dss_cons (ds_set 4 (de_opT opAdd s2Add (de_op opMul s2Mul (de_const pe_int) (de_var 3)) (de_const pe_int)) sc__law_draw.nd)
    (dss_cons (ds_if (dt_cmp (opNe bx.room) s2Ne (de_dget (de_var 0) (de_const pe_str) bx.room) (de_lst (da_nil)) (nomark _)) (dss_one (ds_set 4 (de_ix opIx s2Ix (de_dget (de_var 0) (de_const pe_str) bx.room) (de_op op_mod s2Mod (de_var 3) (de_callB opLen shLen T.z_len (by decide +kernel) (da_cons (de_dget (de_var 0) (de_const pe_str) bx.room) (da_nil)))) (fun _ _ => rfl)) sc__law_draw.nd)) (dss_nil))
    (dss_cons (ds_if (PW.pt (dw_and (dt_cmp opLt s2Lt (de_var 3) (de_callB opLen shLen T.z_len (by decide +kernel) (da_cons (de_dget (de_var 0) (de_const pe_str) bx.room) (da_nil))) (nomark _)) (dw_and1 (dt_cmp op_ge s2Ge (de_callB call_abs shAbs T.z_abs (by decide +kernel) (da_cons (de_var 4) (da_nil))) (de_op op_pow s2Pow (de_const pe_int) (de_const pe_int)) (nomark _))))) (dss_cons (ds_store 0 (de_op op_fdivW s2Fdiv (de_op op_sub s2Sub (de_callB call_abs shAbs T.z_abs (by decide +kernel) (da_cons (de_var 4) (da_nil))) (de_op op_pow s2Pow (de_const pe_int) (de_const pe_int))) (de_var 1)) (de_const pe_str) bx.room)
    (dss_one (ds_ret (de_op op_mod s2Mod (de_op op_sub s2Sub (de_callB call_abs shAbs T.z_abs (by decide +kernel) (da_cons (de_var 4) (da_nil))) (de_op op_pow s2Pow (de_const pe_int) (de_const pe_int))) (de_var 1))))) (dss_nil))
    (dss_cons (ds_set 5 (de_lst (da_cons (de_keep (de_const pe_int)) (da_cons (de_keep (de_const pe_int)) (da_cons (de_keep (de_const pe_int)) (da_cons (de_keep (de_const pe_int)) (da_cons (de_keep (de_const pe_int)) (da_nil))))))) sc__law_draw.nd)
    (dss_cons (ds_set 6 (de_ix opIx s2Ix (de_var 5) (de_op op_mod s2Mod (de_var 3) (de_const pe_int)) (fun _ _ => rfl)) sc__law_draw.nd)
    (dss_cons (ds_set 7 (de_op op_mod s2Mod (de_opT opAdd s2Add (de_opT opAdd s2Add (de_op opMul s2Mul (de_op op_mod s2Mod (de_var 4) (de_var 6)) (de_const pe_int)) (de_op opMul s2Mul (de_op opMul s2Mul (de_const pe_int) (de_var 3)) (de_var 3))) (de_const pe_int)) (de_var 6)) sc__law_draw.nd)
    (dss_cons (ds_set 7 (de_op op_mod s2Mod (de_op opMul s2Mul (de_var 7) (de_opT opAdd s2Add (de_var 7) (de_const pe_int))) (de_ix opIx s2Ix (de_var 5) (de_op op_mod s2Mod (de_opT opAdd s2Add (de_var 3) (de_const pe_int)) (de_const pe_int)) (fun _ _ => rfl))) sc__law_draw.nd)
    (dss_one (ds_ret (de_op op_mod s2Mod (de_op op_fdivW s2Fdiv (de_op op_mod s2Mod (de_op opMul s2Mul (de_var 7) (de_var 7)) (de_const pe_int)) (de_const pe_int)) (de_var 1)))))))))))))
theorem ok__law_gcd (T : Tx K mg f__law_draw f__law_gcd f__law_is_map f__law_divisors f__law_pick f__law_unit f__law_map f__law_shuffled f__law_modulus f__law_pen f_gcd f_is_integer f_is_between f_is_map f_law fd__law_draw fd__law_gcd fd__law_is_map fd__law_divisors fd__law_pick fd__law_unit fd__law_map fd__law_shuffled fd__law_modulus fd__law_pen fd_gcd fd_is_integer fd_is_between fd_is_map fd_law) : FnG P w K mg base 1 f__law_gcd fd__law_gcd ["one", "other"] m__law_gcd :=
  def_ok T.F__law_gcd sc__law_gcd (by decide) g__law_gcd fun cdv A outer s H E bx => 
    dss_cons (ds_while (dt_cmp (opNe bx.room) s2Ne (de_var 1) (de_const pe_int) (nomark _)) (dss_one (ds_par 0 1 (da_cons (de_solid (de_var 1)) (da_cons (de_solid (de_op op_mod s2Mod (de_var 0) (de_var 1))) (da_nil))) rfl sc__law_gcd.nd (by rfl))) bx.own)
    (dss_one (ds_ret (de_callB call_abs shAbs T.z_abs (by decide +kernel) (da_cons (de_var 0) (da_nil)))))
theorem ok__law_is_map (T : Tx K mg f__law_draw f__law_gcd f__law_is_map f__law_divisors f__law_pick f__law_unit f__law_map f__law_shuffled f__law_modulus f__law_pen f_gcd f_is_integer f_is_between f_is_map f_law fd__law_draw fd__law_gcd fd__law_is_map fd__law_divisors fd__law_pick fd__law_unit fd__law_map fd__law_shuffled fd__law_modulus fd__law_pen fd_gcd fd_is_integer fd_is_between fd_is_map fd_law) : FnG P w K mg base 2 f__law_is_map fd__law_is_map ["m", "value"] m__law_is_map :=
  def_ok T.F__law_is_map sc__law_is_map (by decide) g__law_is_map fun cdv A outer s H E bx => 
    dss_cons (ds_if (PW.pt (dw_or (dt_not (dt_val (de_callB call_isi shIsi T.z_isinstance (by decide +kernel) (da_cons (de_var 1) (da_cons (de_const (pe_bltn (v := .ty "tuple") rfl T.z_tuple (by decide +kernel) rfl)) (da_nil)))))) (dw_or1 (dt_cmp (opNe bx.room) s2Ne (de_callB opLen shLen T.z_len (by decide +kernel) (da_cons (de_var 1) (da_nil))) (de_const pe_int) (nomark _))))) (dss_one (ds_ret (de_const pe_bl))) (dss_nil))
    (dss_cons (ds_for (di_seq (de_var 1)) (dg_name 2 sc__law_is_map.nd) (dss_one (ds_if (PW.pt (dw_or (dt_not (dt_val (de_callB call_isi shIsi T.z_isinstance (by decide +kernel) (da_cons (de_var 2) (da_cons (de_const (pe_bltn (v := .ty "int") rfl T.z_int (by decide +kernel) rfl)) (da_nil)))))) (dw_or (dt_val (de_callB call_isi shIsi T.z_isinstance (by decide +kernel) (da_cons (de_var 2) (da_cons (de_const (pe_bltn (v := .ty "bool") rfl T.z_bool (by decide +kernel) rfl)) (da_nil))))) (dw_or (dt_cmp opLt s2Lt (de_var 2) (de_const pe_int) (nomark _)) (dw_or1 (dt_cmp op_ge s2Ge (de_var 2) (de_var 0) (nomark _))))))) (dss_one (ds_ret (de_const pe_bl))) (dss_nil))) bx.own)
    (dss_one (ds_ret (de_cmp (opEq bx.room) s2Eq (de_call (ok__law_gcd T) (bx.room.mono (by decide)) bx.tk T.g__law_gcd T.k__law_gcd T.b__law_gcd .nil .nil (da_cons (de_keep (de_ix opIx s2Ix (de_var 1) (de_const pe_int) (fun _ _ => rfl))) (da_cons (de_keep (de_var 0)) (da_nil)))) (de_const pe_int) (nomark _)))))
theorem ok__law_divisors (T : Tx K mg f__law_draw f__law_gcd f__law_is_map f__law_divisors f__law_pick f__law_unit f__law_map f__law_shuffled f__law_modulus f__law_pen f_gcd f_is_integer f_is_between f_is_map f_law fd__law_draw fd__law_gcd fd__law_is_map fd__law_divisors fd__law_pick fd__law_unit fd__law_map fd__law_shuffled fd__law_modulus fd__law_pen fd_gcd fd_is_integer fd_is_between fd_is_map fd_law) : FnG P w K mg base 1 f__law_divisors fd__law_divisors ["m"] m__law_divisors :=
  def_ok T.F__law_divisors sc__law_divisors (by decide) g__law_divisors fun cdv A outer s H E bx => 
    dss_cons (ds_par 1 2 (da_cons (de_solid (de_lst (da_cons (de_keep (de_const pe_int)) (da_nil)))) (da_cons (de_solid (de_var 0)) (da_nil))) rfl sc__law_divisors.nd (by rfl))
    (dss_cons (ds_for (di_seq (de_tup (da_cons (de_keep (de_const pe_int)) (da_cons (de_keep (de_const pe_int)) (da_cons (de_keep (de_const pe_int)) (da_cons (de_keep (de_const pe_int)) (da_cons (de_keep (de_const pe_int)) (da_cons (de_keep (de_const pe_int)) (da_nil))))))))) (dg_name 3 sc__law_divisors.nd) (dss_cons (ds_set 4 (de_lst (da_cons (de_keep (de_const pe_int)) (da_nil))) sc__law_divisors.nd)
    (dss_cons (ds_while (dt_cmp (opEq bx.room) s2Eq (de_op op_mod s2Mod (de_var 2) (de_var 3)) (de_const pe_int) (nomark _)) (dss_cons (ds_set 2 (de_op op_fdivW s2Fdiv (de_var 2) (de_var 3)) sc__law_divisors.nd)
    (dss_one (ds_expr (de_mut 4 PySem.F.plainAttrs_list PySem.F.slot_list_append PySem.F.type_list_append mt_append smAppend (da_cons (de_keep (de_op opMul s2Mul (de_ix opIx s2Ix (de_var 4) (de_un un_neg s1Neg (de_const pe_int)) (fun _ _ => rfl)) (de_var 3))) (da_nil)))))) bx.own)
    (dss_cons (ds_set 5 (de_lst (da_nil)) sc__law_divisors.nd)
    (dss_cons (ds_for (di_seq (de_var 4)) (dg_name 6 sc__law_divisors.nd) (dss_one (ds_expr (de_mut 5 PySem.F.plainAttrs_list PySem.F.slot_list_extend PySem.F.type_list_extend mt_extend smExtend (da_cons (de_keep (de_lc (own := [("one", 7)]) (di_seq (de_var 1)) sc__law_divisors.nd (blkOk_by (own := [("one", 7)]) (N := ["m", "found", "left", "prime", "powers", "every", "factor", "one"]) (sc := defScope s__law_divisors) (by decide +kernel)) (fun _ _ _ _ _ => dg_name 7 sc__law_divisors.nd) (fun _ _ _ _ _ => dts_nil) (fun _ _ _ _ _ => de_op opMul s2Mul (de_var 7) (de_var 6)))) (da_nil))))) bx.own)
    (dss_one (ds_set 1 (de_var 5) sc__law_divisors.nd)))))) bx.own)
    (dss_one (ds_ret (de_callB cr_sortedI shSorted T.z_sorted (by decide +kernel) (da_cons (de_var 1) (da_nil))))))
theorem ok__law_pick (T : Tx K mg f__law_draw f__law_gcd f__law_is_map f__law_divisors f__law_pick f__law_unit f__law_map f__law_shuffled f__law_modulus f__law_pen f_gcd f_is_integer f_is_between f_is_map f_law fd__law_draw fd__law_gcd fd__law_is_map fd__law_divisors fd__law_pick fd__law_unit fd__law_map fd__law_shuffled fd__law_modulus fd__law_pen fd_gcd fd_is_integer fd_is_between fd_is_map fd_law) : FnG P w K mg base 2 f__law_pick fd__law_pick ["pen", "some"] m__law_pick :=
  def_ok T.F__law_pick sc__law_pick (by decide) g__law_pick fun cdv A outer s H E bx => 
    dss_one (ds_ret (de_ix opIx s2Ix (de_var 1) (de_call (ok__law_draw T) (bx.room.mono (by decide)) bx.tk T.g__law_draw T.k__law_draw T.b__law_draw .nil .nil (da_cons (de_var 0) (da_cons (de_keep (de_callB opLen shLen T.z_len (by decide +kernel) (da_cons (de_var 1) (da_nil)))) (da_nil)))) (fun _ _ => rfl)))
theorem ok__law_unit (T : Tx K mg f__law_draw f__law_gcd f__law_is_map f__law_divisors f__law_pick f__law_unit f__law_map f__law_shuffled f__law_modulus f__law_pen f_gcd f_is_integer f_is_between f_is_map f_law fd__law_draw fd__law_gcd fd__law_is_map fd__law_divisors fd__law_pick fd__law_unit fd__law_map fd__law_shuffled fd__law_modulus fd__law_pen fd_gcd fd_is_integer fd_is_between fd_is_map fd_law) : FnG P w K mg base 3 f__law_unit fd__law_unit ["pen", "m"] m__law_unit :=
  def_ok T.F__law_unit sc__law_unit (by decide) g__law_unit fun cdv A outer s H E bx => 
    dss_cons (ds_set 2 (de_call (ok__law_pick T) (bx.room.mono (by decide)) bx.tk T.g__law_pick T.k__law_pick T.b__law_pick .nil .nil (da_cons (de_var 0) (da_cons (de_keep (de_call (ok__law_divisors T) (bx.room.mono (by decide)) bx.tk T.g__law_divisors T.k__law_divisors T.b__law_divisors .nil .nil (da_cons (de_keep (de_var 1)) (da_nil)))) (da_nil)))) sc__law_unit.nd)
    (dss_cons (ds_set 3 (de_op opMul s2Mul (de_var 2) (de_call (ok__law_draw T) (bx.room.mono (by decide)) bx.tk T.g__law_draw T.k__law_draw T.b__law_draw .nil .nil (da_cons (de_var 0) (da_cons (de_keep (de_var 1)) (da_nil))))) sc__law_unit.nd)
    (dss_cons (ds_set 4 (de_op op_mod s2Mod (de_call (ok__law_pick T) (bx.room.mono (by decide)) bx.tk T.g__law_pick T.k__law_pick T.b__law_pick .nil .nil (da_cons (de_var 0) (da_cons (de_keep (de_lst (da_cons (de_keep (de_const pe_int)) (da_cons (de_keep (de_op op_sub s2Sub (de_var 1) (de_const pe_int))) (da_cons (de_keep (de_opT opAdd s2Add (de_const pe_int) (de_var 3))) (da_cons (de_keep (de_opT opAdd s2Add (de_op op_sub s2Sub (de_var 1) (de_const pe_int)) (de_var 3))) (da_cons (de_keep (de_call (ok__law_draw T) (bx.room.mono (by decide)) bx.tk T.g__law_draw T.k__law_draw T.b__law_draw .nil .nil (da_cons (de_var 0) (da_cons (de_keep (de_var 1)) (da_nil))))) (da_nil)))))))) (da_nil)))) (de_var 1)) sc__law_unit.nd)
    (dss_cons (ds_while (dt_cmp (opNe bx.room) s2Ne (de_call (ok__law_gcd T) (bx.room.mono (by decide)) bx.tk T.g__law_gcd T.k__law_gcd T.b__law_gcd .nil .nil (da_cons (de_keep (de_var 4)) (da_cons (de_keep (de_var 1)) (da_nil)))) (de_const pe_int) (nomark _)) (dss_one (ds_set 4 (de_op op_mod s2Mod (de_opT opAdd s2Add (de_var 4) (de_const pe_int)) (de_var 1)) sc__law_unit.nd)) bx.own)
    (dss_one (ds_ret (de_var 4))))))
theorem ok__law_map (T : Tx K mg f__law_draw f__law_gcd f__law_is_map f__law_divisors f__law_pick f__law_unit f__law_map f__law_shuffled f__law_modulus f__law_pen f_gcd f_is_integer f_is_between f_is_map f_law fd__law_draw fd__law_gcd fd__law_is_map fd__law_divisors fd__law_pick fd__law_unit fd__law_map fd__law_shuffled fd__law_modulus fd__law_pen fd_gcd fd_is_integer fd_is_between fd_is_map fd_law) : FnG P w K mg base 4 f__law_map fd__law_map ["pen", "m"] m__law_map :=
  def_ok T.F__law_map sc__law_map (by decide) g__law_map fun cdv A outer s H E bx => 
    dss_cons (ds_set 2 (de_call (ok__law_pick T) (bx.room.mono (by decide)) bx.tk T.g__law_pick T.k__law_pick T.b__law_pick .nil .nil (da_cons (de_var 0) (da_cons (de_keep (de_call (ok__law_divisors T) (bx.room.mono (by decide)) bx.tk T.g__law_divisors T.k__law_divisors T.b__law_divisors .nil .nil (da_cons (de_keep (de_var 1)) (da_nil)))) (da_nil)))) sc__law_map.nd)
    (dss_one (ds_ret (de_tup (da_cons (de_keep (de_call (ok__law_unit T) (bx.room.mono (by decide)) bx.tk T.g__law_unit T.k__law_unit T.b__law_unit .nil .nil (da_cons (de_var 0) (da_cons (de_keep (de_var 1)) (da_nil))))) (da_cons (de_keep (de_op op_mod s2Mod (de_op opMul s2Mul (de_var 2) (de_call (ok__law_draw T) (bx.room.mono (by decide)) bx.tk T.g__law_draw T.k__law_draw T.b__law_draw .nil .nil (da_cons (de_var 0) (da_cons (de_keep (de_var 1)) (da_nil))))) (de_var 1))) (da_nil))))))
theorem ok__law_shuffled (T : Tx K mg f__law_draw f__law_gcd f__law_is_map f__law_divisors f__law_pick f__law_unit f__law_map f__law_shuffled f__law_modulus f__law_pen f_gcd f_is_integer f_is_between f_is_map f_law fd__law_draw fd__law_gcd fd__law_is_map fd__law_divisors fd__law_pick fd__law_unit fd__law_map fd__law_shuffled fd__law_modulus fd__law_pen fd_gcd fd_is_integer fd_is_between fd_is_map fd_law) : FnG P w K mg base 2 f__law_shuffled fd__law_shuffled ["pen", "some"] m__law_shuffled :=
  def_ok T.F__law_shuffled sc__law_shuffled (by decide) g__law_shuffled fun cdv A outer s H E bx => 
    dss_cons (ds_par 2 3 (da_cons (de_solid (de_callTy call_list_of shList T.z_list (by decide +kernel) (da_cons (de_var 1) (da_nil)))) (da_cons (de_solid (de_lst (da_nil))) (da_nil))) rfl sc__law_shuffled.nd (by rfl))
    (dss_cons (ds_while (dt_cmp (opNe bx.room) s2Ne (de_var 2) (de_lst (da_nil)) (nomark _)) (dss_one (ds_expr (de_mut 3 PySem.F.plainAttrs_list PySem.F.slot_list_append PySem.F.type_list_append mt_append smAppend (da_cons (de_keep (de_mut 2 PySem.F.plainAttrs_list PySem.F.slot_list_pop PySem.F.type_list_pop mt_popAt smPopAt (da_cons (de_keep (de_call (ok__law_draw T) (bx.room.mono (by decide)) bx.tk T.g__law_draw T.k__law_draw T.b__law_draw .nil .nil (da_cons (de_var 0) (da_cons (de_keep (de_callB opLen shLen T.z_len (by decide +kernel) (da_cons (de_var 2) (da_nil)))) (da_nil))))) (da_nil)))) (da_nil))))) bx.own)
    (dss_one (ds_ret (de_var 3))))
theorem ok__law_modulus (T : Tx K mg f__law_draw f__law_gcd f__law_is_map f__law_divisors f__law_pick f__law_unit f__law_map f__law_shuffled f__law_modulus f__law_pen f_gcd f_is_integer f_is_between f_is_map f_law fd__law_draw fd__law_gcd fd__law_is_map fd__law_divisors fd__law_pick fd__law_unit fd__law_map fd__law_shuffled fd__law_modulus fd__law_pen fd_gcd fd_is_integer fd_is_between fd_is_map fd_law) : FnG P w K mg base 3 f__law_modulus fd__law_modulus ["pen", "most"] m__law_modulus :=
  def_ok T.F__law_modulus sc__law_modulus (by decide) g__law_modulus fun cdv A outer s H E bx => 
    dss_cons (ds_par 2 3 (da_cons (de_solid (de_const pe_int)) (da_cons (de_solid (de_opT opAdd s2Add (de_slice (de_call (ok__law_shuffled T) (bx.room.mono (by decide)) bx.tk T.g__law_shuffled T.k__law_shuffled T.b__law_shuffled .nil .nil (da_cons (de_var 0) (da_cons (de_keep (de_lst (da_cons (de_keep (de_const pe_int)) (da_cons (de_keep (de_const pe_int)) (da_cons (de_keep (de_const pe_int)) (da_cons (de_keep (de_const pe_int)) (da_cons (de_keep (de_const pe_int)) (da_cons (de_keep (de_const pe_int)) (da_nil))))))))) (da_nil)))) do_none (do_some (de_opT opAdd s2Add (de_const pe_int) (de_call (ok__law_draw T) (bx.room.mono (by decide)) bx.tk T.g__law_draw T.k__law_draw T.b__law_draw .nil .nil (da_cons (de_var 0) (da_cons (de_keep (de_const pe_int)) (da_nil))))))) (de_lst (da_cons (de_keep (de_const pe_int)) (da_nil))))) (da_nil))) rfl sc__law_modulus.nd (by rfl))
    (dss_cons (ds_for (di_range1 (da_cons (de_keep (de_opT opAdd s2Add (de_const pe_int) (de_call (ok__law_draw T) (bx.room.mono (by decide)) bx.tk T.g__law_draw T.k__law_draw T.b__law_draw .nil .nil (da_cons (de_var 0) (da_cons (de_keep (de_const pe_int)) (da_nil)))))) (da_nil)) T.z_range) (dg_name 4 sc__law_modulus.nd) (dss_cons (ds_set 5 (de_call (ok__law_pick T) (bx.room.mono (by decide)) bx.tk T.g__law_pick T.k__law_pick T.b__law_pick .nil .nil (da_cons (de_var 0) (da_cons (de_keep (de_var 3)) (da_nil)))) sc__law_modulus.nd)
    (dss_one (ds_if (dt_cmp op_le s2Le (de_op opMul s2Mul (de_var 2) (de_var 5)) (de_var 1) (nomark _)) (dss_one (ds_set 2 (de_op opMul s2Mul (de_var 2) (de_var 5)) sc__law_modulus.nd)) (dss_nil)))) bx.own)
    (dss_one (ds_ret (de_if (dt_cmp op_gt s2Gt (de_var 2) (de_const pe_int) (nomark _)) (de_var 2) (de_const pe_int)))))
theorem ok__law_pen (T : Tx K mg f__law_draw f__law_gcd f__law_is_map f__law_divisors f__law_pick f__law_unit f__law_map f__law_shuffled f__law_modulus f__law_pen f_gcd f_is_integer f_is_between f_is_map f_law fd__law_draw fd__law_gcd fd__law_is_map fd__law_divisors fd__law_pick fd__law_unit fd__law_map fd__law_shuffled fd__law_modulus fd__law_pen fd_gcd fd_is_integer fd_is_between fd_is_map fd_law) : FnG P w K mg base 1 f__law_pen fd__law_pen ["script"] m__law_pen :=
  def_ok T.F__law_pen sc__law_pen (by decide) g__law_pen fun cdv A outer s H E bx => 
    dss_one (ds_ret (de_disp ([Sum.inr "cells", Sum.inr "turn", Sum.inr "rest"]) (Es := [eBI gList (aCons (eSlice (eVar 0) oNone (oSome (eC (.int 63)))) (aNil)), eC (.int 0), eC (.int 0)]) (pps_cons pe_str (de_keep (de_callTy call_list_of shList T.z_list (by decide +kernel) (da_cons (de_slice (de_var 0) do_none (do_some (de_const pe_int))) (da_nil)))) (pps_cons pe_str (de_keep (de_const pe_int)) (pps_cons pe_str (de_keep (de_const pe_int)) (pps_nil))))))
theorem ok_gcd (T : Tx K mg f__law_draw f__law_gcd f__law_is_map f__law_divisors f__law_pick f__law_unit f__law_map f__law_shuffled f__law_modulus f__law_pen f_gcd f_is_integer f_is_between f_is_map f_law fd__law_draw fd__law_gcd fd__law_is_map fd__law_divisors fd__law_pick fd__law_unit fd__law_map fd__law_shuffled fd__law_modulus fd__law_pen fd_gcd fd_is_integer fd_is_between fd_is_map fd_law) : FnG P w K mg base 1 f_gcd fd_gcd ["first", "second"] m_gcd :=
  def_ok T.F_gcd sc_gcd (by decide) g_gcd fun cdv A outer s H E bx => 
    dss_cons (ds_par 0 1 (da_cons (de_solid (de_callB call_abs shAbs T.z_abs (by decide +kernel) (da_cons (de_var 0) (da_nil)))) (da_cons (de_solid (de_callB call_abs shAbs T.z_abs (by decide +kernel) (da_cons (de_var 1) (da_nil)))) (da_nil))) rfl sc_gcd.nd (by rfl))
    (dss_cons (ds_while (dt_cmp (opNe bx.room) s2Ne (de_var 1) (de_const pe_int) (nomark _)) (dss_one (ds_par 0 1 (da_cons (de_solid (de_var 1)) (da_cons (de_solid (de_op op_mod s2Mod (de_var 0) (de_var 1))) (da_nil))) rfl sc_gcd.nd (by rfl))) bx.own)
    (dss_one (ds_ret (de_var 0))))
theorem ok_is_integer (T : Tx K mg f__law_draw f__law_gcd f__law_is_map f__law_divisors f__law_pick f__law_unit f__law_map f__law_shuffled f__law_modulus f__law_pen f_gcd f_is_integer f_is_between f_is_map f_law fd__law_draw fd__law_gcd fd__law_is_map fd__law_divisors fd__law_pick fd__law_unit fd__law_map fd__law_shuffled fd__law_modulus fd__law_pen fd_gcd fd_is_integer fd_is_between fd_is_map fd_law) : FnG P w K mg base 1 f_is_integer fd_is_integer ["value"] m_is_integer :=
  def_ok T.F_is_integer sc_is_integer (by decide) g_is_integer fun cdv A outer s H E bx => 
    dss_one (ds_ret (de_and (de_callB call_isi shIsi T.z_isinstance (by decide +kernel) (da_cons (de_var 0) (da_cons (de_const (pe_bltn (v := .ty "int") rfl T.z_int (by decide +kernel) rfl)) (da_nil)))) (de_one (de_not (de_callB call_isi shIsi T.z_isinstance (by decide +kernel) (da_cons (de_var 0) (da_cons (de_const (pe_bltn (v := .ty "bool") rfl T.z_bool (by decide +kernel) rfl)) (da_nil))))))))
theorem ok_is_between (T : Tx K mg f__law_draw f__law_gcd f__law_is_map f__law_divisors f__law_pick f__law_unit f__law_map f__law_shuffled f__law_modulus f__law_pen f_gcd f_is_integer f_is_between f_is_map f_law fd__law_draw fd__law_gcd fd__law_is_map fd__law_divisors fd__law_pick fd__law_unit fd__law_map fd__law_shuffled fd__law_modulus fd__law_pen fd_gcd fd_is_integer fd_is_between fd_is_map fd_law) : FnG P w K mg base 2 f_is_between fd_is_between ["value", "low", "high"] m_is_between :=
  def_ok T.F_is_between sc_is_between (by decide) g_is_between fun cdv A outer s H E bx => 
    dss_one (ds_ret (de_and (de_call (ok_is_integer T) (bx.room.mono (by decide)) bx.tk T.g_is_integer T.k_is_integer T.b_is_integer .nil .nil (da_cons (de_keep (de_var 0)) (da_nil))) (de_one (de_chain op_le op_le s2Le s2Le (pe_chain op_le op_le (de_var 1) (de_var 0) (de_var 2))))))
theorem ok_is_map (T : Tx K mg f__law_draw f__law_gcd f__law_is_map f__law_divisors f__law_pick f__law_unit f__law_map f__law_shuffled f__law_modulus f__law_pen f_gcd f_is_integer f_is_between f_is_map f_law fd__law_draw fd__law_gcd fd__law_is_map fd__law_divisors fd__law_pick fd__law_unit fd__law_map fd__law_shuffled fd__law_modulus fd__law_pen fd_gcd fd_is_integer fd_is_between fd_is_map fd_law) : FnG P w K mg base 3 f_is_map fd_is_map ["m", "value"] m_is_map :=
  def_ok T.F_is_map sc_is_map (by decide) g_is_map fun cdv A outer s H E bx => 
    dss_cons (ds_if (PW.pt (dw_or (dt_not (dt_val (de_callB call_isi shIsi T.z_isinstance (by decide +kernel) (da_cons (de_var 1) (da_cons (de_const (pe_bltn (v := .ty "tuple") rfl T.z_tuple (by decide +kernel) rfl)) (da_nil)))))) (dw_or1 (dt_cmp (opNe bx.room) s2Ne (de_callB opLen shLen T.z_len (by decide +kernel) (da_cons (de_var 1) (da_nil))) (de_const pe_int) (nomark _))))) (dss_one (ds_ret (de_const pe_bl))) (dss_nil))
    (dss_cons (ds_if (dt_not (dt_val (de_callB (cr_all rfl) shAll T.z_all (by decide +kernel) (da_cons (de_lc (own := [("part", 2)]) (di_seq (de_var 1)) sc_is_map.nd (blkOk_by (own := [("part", 2)]) (N := ["m", "value", "part"]) (sc := defScope s_is_map) (by decide +kernel)) (fun _ _ _ _ _ => dg_name 2 sc_is_map.nd) (fun _ _ _ _ _ => dts_nil) (fun _ _ _ _ _ => de_call (ok_is_between T) (bx.room.mono (by decide)) takes0 T.g_is_between T.k_is_between T.b_is_between .nil .nil (da_cons (de_keep (de_var 2)) (da_cons (de_keep (de_const pe_int)) (da_cons (de_keep (de_op op_sub s2Sub (de_var 0) (de_const pe_int))) (da_nil)))))) (da_nil))))) (dss_one (ds_ret (de_const pe_bl))) (dss_nil))
    (dss_one (ds_ret (de_cmp (opEq bx.room) s2Eq (de_call (ok_gcd T) (bx.room.mono (by decide)) bx.tk T.g_gcd T.k_gcd T.b_gcd .nil .nil (da_cons (de_keep (de_ix opIx s2Ix (de_var 1) (de_const pe_int) (fun _ _ => rfl))) (da_cons (de_keep (de_var 0)) (da_nil)))) (de_const pe_int) (nomark _)))))
theorem ok_law (T : Tx K mg f__law_draw f__law_gcd f__law_is_map f__law_divisors f__law_pick f__law_unit f__law_map f__law_shuffled f__law_modulus f__law_pen f_gcd f_is_integer f_is_between f_is_map f_law fd__law_draw fd__law_gcd fd__law_is_map fd__law_divisors fd__law_pick fd__law_unit fd__law_map fd__law_shuffled fd__law_modulus fd__law_pen fd_gcd fd_is_integer fd_is_between fd_is_map fd_law) : FnG P w K mg base 5 f_law fd_law ["script"] m_law :=
  def_ok T.F_law sc_law (by decide) g_law fun cdv A outer s H E bx => 
    dss_cons (ds_set 1 (de_call (ok__law_pen T) (bx.room.mono (by decide)) bx.tk T.g__law_pen T.k__law_pen T.b__law_pen .nil .nil (da_cons (de_keep (de_var 0)) (da_nil))) sc_law.nd)
    (dss_cons (ds_for (di_range1 (da_cons (de_keep (de_opT opAdd s2Add (de_const pe_int) (de_callB (call_min2 rfl) shMin2 T.z_min (by decide +kernel) (da_cons (de_const pe_int) (da_cons (de_callB opLen shLen T.z_len (by decide +kernel) (da_cons (de_var 0) (da_nil))) (da_nil)))))) (da_nil)) T.z_range) (dg_name 2 sc_law.nd) (dss_cons (ds_set 3 (de_call (ok__law_modulus T) (bx.room.mono (by decide)) bx.tk T.g__law_modulus T.k__law_modulus T.b__law_modulus .nil .nil (da_cons (de_var 1) (da_cons (de_keep (de_call (ok__law_pick T) (bx.room.mono (by decide)) bx.tk T.g__law_pick T.k__law_pick T.b__law_pick .nil .nil (da_cons (de_var 1) (da_cons (de_keep (de_lst (da_cons (de_keep (de_const pe_int)) (da_cons (de_keep (de_const pe_int)) (da_cons (de_keep (de_op op_pow s2Pow (de_const pe_int) (de_const pe_int))) (da_nil)))))) (da_nil))))) (da_nil)))) sc_law.nd)
    (dss_cons (ds_set 4 (de_call (ok__law_map T) (bx.room.mono (by decide)) bx.tk T.g__law_map T.k__law_map T.b__law_map .nil .nil (da_cons (de_var 1) (da_cons (de_keep (de_var 3)) (da_nil)))) sc_law.nd)
    (dss_cons (ds_set 5 (de_lst (da_cons (de_keep (de_var 4)) (da_cons (de_keep (de_rev (de_var 4))) (da_cons (de_keep (de_callTy call_list_of shList T.z_list (by decide +kernel) (da_cons (de_var 4) (da_nil)))) (da_cons (de_keep (de_opT opAdd s2Add (de_var 4) (de_tup (da_cons (de_keep (de_const pe_int)) (da_nil))))) (da_cons (de_keep (de_slice (de_var 4) do_none (do_some (de_const pe_int)))) (da_cons (de_keep (de_tup (da_cons (de_keep (de_ix opIx s2Ix (de_var 4) (de_const pe_int) (fun _ _ => rfl))) (da_cons (de_keep (de_var 3)) (da_nil))))) (da_cons (de_keep (de_tup (da_cons (de_keep (de_var 3)) (da_cons (de_keep (de_ix opIx s2Ix (de_var 4) (de_const pe_int) (fun _ _ => rfl))) (da_nil))))) (da_cons (de_keep (de_tup (da_cons (de_keep (de_opT opAdd s2Add (de_ix opIx s2Ix (de_var 4) (de_const pe_int) (fun _ _ => rfl)) (de_var 3))) (da_cons (de_keep (de_ix opIx s2Ix (de_var 4) (de_const pe_int) (fun _ _ => rfl))) (da_nil))))) (da_cons (de_keep (de_tup (da_cons (de_keep (de_ix opIx s2Ix (de_var 4) (de_const pe_int) (fun _ _ => rfl))) (da_cons (de_keep (de_un un_neg s1Neg (de_const pe_int))) (da_nil))))) (da_nil))))))))))) sc_law.nd)
    (dss_cons (ds_set 5 (de_opT opAdd s2Add (de_var 5) (de_lst (da_cons (de_keep (de_tup (da_cons (de_keep (de_op op_sub s2Sub (de_const pe_int) (de_ix opIx s2Ix (de_var 4) (de_const pe_int) (fun _ _ => rfl)))) (da_cons (de_keep (de_ix opIx s2Ix (de_var 4) (de_const pe_int) (fun _ _ => rfl))) (da_nil))))) (da_cons (de_keep (de_tup (da_cons (de_keep (de_const pe_bl)) (da_cons (de_keep (de_const pe_int)) (da_nil))))) (da_cons (de_keep (de_tup (da_cons (de_keep (de_const pe_int)) (da_cons (de_keep (de_const pe_bl)) (da_nil))))) (da_cons (de_keep (de_tup (da_cons (de_keep (de_const pe_int)) (da_cons (de_keep (de_const pe_bl)) (da_nil))))) (da_cons (de_keep (de_tup (da_cons (de_keep (de_const pe_str)) (da_cons (de_keep (de_const pe_int)) (da_nil))))) (da_cons (de_keep (de_tup (da_cons (de_keep (de_const pe_int)) (da_cons (de_keep (de_const pe_non)) (da_nil))))) (da_cons (de_keep (de_tup (da_nil))) (da_cons (de_keep (de_lst (da_nil))) (da_cons (de_keep (de_dict0)) (da_cons (de_keep (de_const pe_non)) (da_nil))))))))))))) sc_law.nd)
    (dss_cons (ds_set 5 (de_opT opAdd s2Add (de_var 5) (de_lst (da_cons (de_keep (de_const pe_int)) (da_cons (de_keep (de_const pe_str)) (da_cons (de_keep (de_tup (da_cons (de_keep (de_var 4)) (da_cons (de_keep (de_var 4)) (da_nil))))) (da_cons (de_keep (de_tup (da_cons (de_keep (de_lst (da_cons (de_keep (de_const pe_int)) (da_nil)))) (da_cons (de_keep (de_const pe_int)) (da_nil))))) (da_nil))))))) sc_law.nd)
    (dss_cons (ds_for (di_range1 (da_cons (de_keep (de_const pe_int)) (da_nil)) T.z_range) (dg_name 6 sc_law.nd) (dss_one (ds_expr (de_mut 5 PySem.F.plainAttrs_list PySem.F.slot_list_append PySem.F.type_list_append mt_append smAppend (da_cons (de_keep (de_tup (da_cons (de_keep (de_call (ok__law_draw T) (bx.room.mono (by decide)) bx.tk T.g__law_draw T.k__law_draw T.b__law_draw .nil .nil (da_cons (de_var 1) (da_cons (de_keep (de_var 3)) (da_nil))))) (da_cons (de_keep (de_call (ok__law_draw T) (bx.room.mono (by decide)) bx.tk T.g__law_draw T.k__law_draw T.b__law_draw .nil .nil (da_cons (de_var 1) (da_cons (de_keep (de_var 3)) (da_nil))))) (da_nil))))) (da_nil))))) bx.own)
    (dss_one (ds_for (di_seq (de_var 5)) (dg_name 7 sc_law.nd) (dss_cons (ds_set 8 (de_callB (repr_call' bx.room) shRepr T.z_repr (by decide +kernel) (da_cons (de_var 7) (da_nil))) sc_law.nd)
    (dss_one (ds_if (PW.pt (dw_or (dt_cmp (opNe bx.room) s2Ne (de_callB (repr_call' bx.room) shRepr T.z_repr (by decide +kernel) (da_cons (de_call (ok_is_map T) (bx.room.mono (by decide)) bx.tk T.g_is_map T.k_is_map T.b_is_map .nil .nil (da_cons (de_keep (de_var 3)) (da_cons (de_keep (de_var 7)) (da_nil)))) (da_nil))) (de_callB (repr_call' bx.room) shRepr T.z_repr (by decide +kernel) (da_cons (de_call (ok__law_is_map T) (bx.room.mono (by decide)) bx.tk T.g__law_is_map T.k__law_is_map T.b__law_is_map .nil .nil (da_cons (de_keep (de_var 3)) (da_cons (de_keep (de_var 7)) (da_nil)))) (da_nil))) (nomark _)) (dw_or1 (dt_cmp (opNe bx.room) s2Ne (de_callB (repr_call' bx.room) shRepr T.z_repr (by decide +kernel) (da_cons (de_var 7) (da_nil))) (de_var 8) (nomark _))))) (dss_one (ds_ret (de_const pe_bl))) (dss_nil)))) bx.own)))))))) bx.own)
    (dss_one (ds_ret (de_const pe_bl))))
end
/-! ### the end -/
theorem all_mk {P : Program} {w : World} {K : PySem.W.Frag} {h : Heap} {mg : Str → Option Value} {fa f__law_draw f__law_gcd f__law_is_map f__law_divisors f__law_pick f__law_unit f__law_map f__law_shuffled f__law_modulus f__law_pen f_gcd f_is_integer f_is_between f_is_map f_law : Addr} (X : K.In h) (G : h.Ns mainGlobals mg) (hfa : mg "law" = some (.ref fa))
    {od__law_draw an__law_draw : Option Addr} {sl__law_draw : Array (Option Value)} {oc__law_draw kV__law_draw dc__law_draw pm__law_draw cd__law_draw ct__law_draw : Value}
    (a__law_draw : PySem.W.nsIn K mainGlobals "_law_draw" = some (some (.ref f__law_draw))) (l__law_draw : K.lookup f__law_draw = some ⟨oc__law_draw, od__law_draw, .func (PySem.W.fnOf "_law_draw" "_law_draw" (defArgs s__law_draw) (defBody s__law_draw) (defScope s__law_draw) .none kV__law_draw dc__law_draw pm__law_draw an__law_draw cd__law_draw ct__law_draw), sl__law_draw⟩) (c__law_draw : PySem.W.codeIn K cd__law_draw "_law_draw" = true) (k__law_draw : PySem.W.keepIn K (.ref f__law_draw) = true)
    {od__law_gcd an__law_gcd : Option Addr} {sl__law_gcd : Array (Option Value)} {oc__law_gcd kV__law_gcd dc__law_gcd pm__law_gcd cd__law_gcd ct__law_gcd : Value}
    (a__law_gcd : PySem.W.nsIn K mainGlobals "_law_gcd" = some (some (.ref f__law_gcd))) (l__law_gcd : K.lookup f__law_gcd = some ⟨oc__law_gcd, od__law_gcd, .func (PySem.W.fnOf "_law_gcd" "_law_gcd" (defArgs s__law_gcd) (defBody s__law_gcd) (defScope s__law_gcd) .none kV__law_gcd dc__law_gcd pm__law_gcd an__law_gcd cd__law_gcd ct__law_gcd), sl__law_gcd⟩) (c__law_gcd : PySem.W.codeIn K cd__law_gcd "_law_gcd" = true) (k__law_gcd : PySem.W.keepIn K (.ref f__law_gcd) = true)
    {od__law_is_map an__law_is_map : Option Addr} {sl__law_is_map : Array (Option Value)} {oc__law_is_map kV__law_is_map dc__law_is_map pm__law_is_map cd__law_is_map ct__law_is_map : Value}
    (a__law_is_map : PySem.W.nsIn K mainGlobals "_law_is_map" = some (some (.ref f__law_is_map))) (l__law_is_map : K.lookup f__law_is_map = some ⟨oc__law_is_map, od__law_is_map, .func (PySem.W.fnOf "_law_is_map" "_law_is_map" (defArgs s__law_is_map) (defBody s__law_is_map) (defScope s__law_is_map) .none kV__law_is_map dc__law_is_map pm__law_is_map an__law_is_map cd__law_is_map ct__law_is_map), sl__law_is_map⟩) (c__law_is_map : PySem.W.codeIn K cd__law_is_map "_law_is_map" = true) (k__law_is_map : PySem.W.keepIn K (.ref f__law_is_map) = true)
    {od__law_divisors an__law_divisors : Option Addr} {sl__law_divisors : Array (Option Value)} {oc__law_divisors kV__law_divisors dc__law_divisors pm__law_divisors cd__law_divisors ct__law_divisors : Value}
    (a__law_divisors : PySem.W.nsIn K mainGlobals "_law_divisors" = some (some (.ref f__law_divisors))) (l__law_divisors : K.lookup f__law_divisors = some ⟨oc__law_divisors, od__law_divisors, .func (PySem.W.fnOf "_law_divisors" "_law_divisors" (defArgs s__law_divisors) (defBody s__law_divisors) (defScope s__law_divisors) .none kV__law_divisors dc__law_divisors pm__law_divisors an__law_divisors cd__law_divisors ct__law_divisors), sl__law_divisors⟩) (c__law_divisors : PySem.W.codeIn K cd__law_divisors "_law_divisors" = true) (k__law_divisors : PySem.W.keepIn K (.ref f__law_divisors) = true)
    {od__law_pick an__law_pick : Option Addr} {sl__law_pick : Array (Option Value)} {oc__law_pick kV__law_pick dc__law_pick pm__law_pick cd__law_pick ct__law_pick : Value}
    (a__law_pick : PySem.W.nsIn K mainGlobals "_law_pick" = some (some (.ref f__law_pick))) (l__law_pick : K.lookup f__law_pick = some ⟨oc__law_pick, od__law_pick, .func (PySem.W.fnOf "_law_pick" "_law_pick" (defArgs s__law_pick) (defBody s__law_pick) (defScope s__law_pick) .none kV__law_pick dc__law_pick pm__law_pick an__law_pick cd__law_pick ct__law_pick), sl__law_pick⟩) (c__law_pick : PySem.W.codeIn K cd__law_pick "_law_pick" = true) (k__law_pick : PySem.W.keepIn K (.ref f__law_pick) = true)
    {od__law_unit an__law_unit : Option Addr} {sl__law_unit : Array (Option Value)} {oc__law_unit kV__law_unit dc__law_unit pm__law_unit cd__law_unit ct__law_unit : Value}
    (a__law_unit : PySem.W.nsIn K mainGlobals "_law_unit" = some (some (.ref f__law_unit))) (l__law_unit : K.lookup f__law_unit = some ⟨oc__law_unit, od__law_unit, .func (PySem.W.fnOf "_law_unit" "_law_unit" (defArgs s__law_unit) (defBody s__law_unit) (defScope s__law_unit) .none kV__law_unit dc__law_unit pm__law_unit an__law_unit cd__law_unit ct__law_unit), sl__law_unit⟩) (c__law_unit : PySem.W.codeIn K cd__law_unit "_law_unit" = true) (k__law_unit : PySem.W.keepIn K (.ref f__law_unit) = true)
    {od__law_map an__law_map : Option Addr} {sl__law_map : Array (Option Value)} {oc__law_map kV__law_map dc__law_map pm__law_map cd__law_map ct__law_map : Value}
    (a__law_map : PySem.W.nsIn K mainGlobals "_law_map" = some (some (.ref f__law_map))) (l__law_map : K.lookup f__law_map = some ⟨oc__law_map, od__law_map, .func (PySem.W.fnOf "_law_map" "_law_map" (defArgs s__law_map) (defBody s__law_map) (defScope s__law_map) .none kV__law_map dc__law_map pm__law_map an__law_map cd__law_map ct__law_map), sl__law_map⟩) (c__law_map : PySem.W.codeIn K cd__law_map "_law_map" = true) (k__law_map : PySem.W.keepIn K (.ref f__law_map) = true)
    {od__law_shuffled an__law_shuffled : Option Addr} {sl__law_shuffled : Array (Option Value)} {oc__law_shuffled kV__law_shuffled dc__law_shuffled pm__law_shuffled cd__law_shuffled ct__law_shuffled : Value}
    (a__law_shuffled : PySem.W.nsIn K mainGlobals "_law_shuffled" = some (some (.ref f__law_shuffled))) (l__law_shuffled : K.lookup f__law_shuffled = some ⟨oc__law_shuffled, od__law_shuffled, .func (PySem.W.fnOf "_law_shuffled" "_law_shuffled" (defArgs s__law_shuffled) (defBody s__law_shuffled) (defScope s__law_shuffled) .none kV__law_shuffled dc__law_shuffled pm__law_shuffled an__law_shuffled cd__law_shuffled ct__law_shuffled), sl__law_shuffled⟩) (c__law_shuffled : PySem.W.codeIn K cd__law_shuffled "_law_shuffled" = true) (k__law_shuffled : PySem.W.keepIn K (.ref f__law_shuffled) = true)
    {od__law_modulus an__law_modulus : Option Addr} {sl__law_modulus : Array (Option Value)} {oc__law_modulus kV__law_modulus dc__law_modulus pm__law_modulus cd__law_modulus ct__law_modulus : Value}
    (a__law_modulus : PySem.W.nsIn K mainGlobals "_law_modulus" = some (some (.ref f__law_modulus))) (l__law_modulus : K.lookup f__law_modulus = some ⟨oc__law_modulus, od__law_modulus, .func (PySem.W.fnOf "_law_modulus" "_law_modulus" (defArgs s__law_modulus) (defBody s__law_modulus) (defScope s__law_modulus) .none kV__law_modulus dc__law_modulus pm__law_modulus an__law_modulus cd__law_modulus ct__law_modulus), sl__law_modulus⟩) (c__law_modulus : PySem.W.codeIn K cd__law_modulus "_law_modulus" = true) (k__law_modulus : PySem.W.keepIn K (.ref f__law_modulus) = true)
    {od__law_pen an__law_pen : Option Addr} {sl__law_pen : Array (Option Value)} {oc__law_pen kV__law_pen dc__law_pen pm__law_pen cd__law_pen ct__law_pen : Value}
    (a__law_pen : PySem.W.nsIn K mainGlobals "_law_pen" = some (some (.ref f__law_pen))) (l__law_pen : K.lookup f__law_pen = some ⟨oc__law_pen, od__law_pen, .func (PySem.W.fnOf "_law_pen" "_law_pen" (defArgs s__law_pen) (defBody s__law_pen) (defScope s__law_pen) .none kV__law_pen dc__law_pen pm__law_pen an__law_pen cd__law_pen ct__law_pen), sl__law_pen⟩) (c__law_pen : PySem.W.codeIn K cd__law_pen "_law_pen" = true) (k__law_pen : PySem.W.keepIn K (.ref f__law_pen) = true)
    {od_gcd an_gcd : Option Addr} {sl_gcd : Array (Option Value)} {oc_gcd kV_gcd dc_gcd pm_gcd cd_gcd ct_gcd : Value}
    (a_gcd : PySem.W.nsIn K mainGlobals "gcd" = some (some (.ref f_gcd))) (l_gcd : K.lookup f_gcd = some ⟨oc_gcd, od_gcd, .func (PySem.W.fnOf "gcd" "gcd" (defArgs s_gcd) (defBody s_gcd) (defScope s_gcd) .none kV_gcd dc_gcd pm_gcd an_gcd cd_gcd ct_gcd), sl_gcd⟩) (c_gcd : PySem.W.codeIn K cd_gcd "gcd" = true) (k_gcd : PySem.W.keepIn K (.ref f_gcd) = true)
    {od_is_integer an_is_integer : Option Addr} {sl_is_integer : Array (Option Value)} {oc_is_integer kV_is_integer dc_is_integer pm_is_integer cd_is_integer ct_is_integer : Value}
    (a_is_integer : PySem.W.nsIn K mainGlobals "is_integer" = some (some (.ref f_is_integer))) (l_is_integer : K.lookup f_is_integer = some ⟨oc_is_integer, od_is_integer, .func (PySem.W.fnOf "is_integer" "is_integer" (defArgs s_is_integer) (defBody s_is_integer) (defScope s_is_integer) .none kV_is_integer dc_is_integer pm_is_integer an_is_integer cd_is_integer ct_is_integer), sl_is_integer⟩) (c_is_integer : PySem.W.codeIn K cd_is_integer "is_integer" = true) (k_is_integer : PySem.W.keepIn K (.ref f_is_integer) = true)
    {od_is_between an_is_between : Option Addr} {sl_is_between : Array (Option Value)} {oc_is_between kV_is_between dc_is_between pm_is_between cd_is_between ct_is_between : Value}
    (a_is_between : PySem.W.nsIn K mainGlobals "is_between" = some (some (.ref f_is_between))) (l_is_between : K.lookup f_is_between = some ⟨oc_is_between, od_is_between, .func (PySem.W.fnOf "is_between" "is_between" (defArgs s_is_between) (defBody s_is_between) (defScope s_is_between) .none kV_is_between dc_is_between pm_is_between an_is_between cd_is_between ct_is_between), sl_is_between⟩) (c_is_between : PySem.W.codeIn K cd_is_between "is_between" = true) (k_is_between : PySem.W.keepIn K (.ref f_is_between) = true)
    {od_is_map an_is_map : Option Addr} {sl_is_map : Array (Option Value)} {oc_is_map kV_is_map dc_is_map pm_is_map cd_is_map ct_is_map : Value}
    (a_is_map : PySem.W.nsIn K mainGlobals "is_map" = some (some (.ref f_is_map))) (l_is_map : K.lookup f_is_map = some ⟨oc_is_map, od_is_map, .func (PySem.W.fnOf "is_map" "is_map" (defArgs s_is_map) (defBody s_is_map) (defScope s_is_map) .none kV_is_map dc_is_map pm_is_map an_is_map cd_is_map ct_is_map), sl_is_map⟩) (c_is_map : PySem.W.codeIn K cd_is_map "is_map" = true) (k_is_map : PySem.W.keepIn K (.ref f_is_map) = true)
    {od_law an_law : Option Addr} {sl_law : Array (Option Value)} {oc_law kV_law dc_law pm_law cd_law ct_law : Value}
    (a_law : PySem.W.nsIn K mainGlobals "law" = some (some (.ref f_law))) (l_law : K.lookup f_law = some ⟨oc_law, od_law, .func (PySem.W.fnOf "law" "law" (defArgs s_law) (defBody s_law) (defScope s_law) .none kV_law dc_law pm_law an_law cd_law ct_law), sl_law⟩) (c_law : PySem.W.codeIn K cd_law "law" = true) (k_law : PySem.W.keepIn K (.ref f_law) = true)
    (z_abs : PySem.W.nsIn K mainGlobals "abs" = some none)
    (z_all : PySem.W.nsIn K mainGlobals "all" = some none)
    (z_bool : PySem.W.nsIn K mainGlobals "bool" = some none)
    (z_int : PySem.W.nsIn K mainGlobals "int" = some none)
    (z_isinstance : PySem.W.nsIn K mainGlobals "isinstance" = some none)
    (z_len : PySem.W.nsIn K mainGlobals "len" = some none)
    (z_list : PySem.W.nsIn K mainGlobals "list" = some none)
    (z_min : PySem.W.nsIn K mainGlobals "min" = some none)
    (z_range : PySem.W.nsIn K mainGlobals "range" = some none)
    (z_repr : PySem.W.nsIn K mainGlobals "repr" = some none)
    (z_sorted : PySem.W.nsIn K mainGlobals "sorted" = some none)
    (z_tuple : PySem.W.nsIn K mainGlobals "tuple" = some none)
    : ∃ (fd : FuncData) (m : MF), (∀ (s : Shared) (v : Value), BindsTo s fd ⟨[v], []⟩ [("script", v)]) ∧ (∀ base : Heap, K.In base → base.Ns mainGlobals mg → FnG P w K mg base 5 fa fd ["script"] m) ∧ m = m_law := by
  have e := hfa.symm.trans (PySem.W.mg_of X G a_law)
  cases e
  have F__law_draw := fun_mk (st := s__law_draw) l__law_draw c__law_draw k__law_draw
  have F__law_gcd := fun_mk (st := s__law_gcd) l__law_gcd c__law_gcd k__law_gcd
  have F__law_is_map := fun_mk (st := s__law_is_map) l__law_is_map c__law_is_map k__law_is_map
  have F__law_divisors := fun_mk (st := s__law_divisors) l__law_divisors c__law_divisors k__law_divisors
  have F__law_pick := fun_mk (st := s__law_pick) l__law_pick c__law_pick k__law_pick
  have F__law_unit := fun_mk (st := s__law_unit) l__law_unit c__law_unit k__law_unit
  have F__law_map := fun_mk (st := s__law_map) l__law_map c__law_map k__law_map
  have F__law_shuffled := fun_mk (st := s__law_shuffled) l__law_shuffled c__law_shuffled k__law_shuffled
  have F__law_modulus := fun_mk (st := s__law_modulus) l__law_modulus c__law_modulus k__law_modulus
  have F__law_pen := fun_mk (st := s__law_pen) l__law_pen c__law_pen k__law_pen
  have F_gcd := fun_mk (st := s_gcd) l_gcd c_gcd k_gcd
  have F_is_integer := fun_mk (st := s_is_integer) l_is_integer c_is_integer k_is_integer
  have F_is_between := fun_mk (st := s_is_between) l_is_between c_is_between k_is_between
  have F_is_map := fun_mk (st := s_is_map) l_is_map c_is_map k_is_map
  have F_law := fun_mk (st := s_law) l_law c_law k_law
  have T : Tx K mg f__law_draw f__law_gcd f__law_is_map f__law_divisors f__law_pick f__law_unit f__law_map f__law_shuffled f__law_modulus f__law_pen f_gcd f_is_integer f_is_between f_is_map fa _ _ _ _ _ _ _ _ _ _ _ _ _ _ _ := {
    F__law_draw := F__law_draw, g__law_draw := PySem.W.mg_of X G a__law_draw, k__law_draw := k__law_draw,
    b__law_draw := F__law_draw.binds (ps := ["pen", "many"]) fun _ _ _ _ _ _ us hl => match us, hl with | [_, _], _ => rfl,
    F__law_gcd := F__law_gcd, g__law_gcd := PySem.W.mg_of X G a__law_gcd, k__law_gcd := k__law_gcd,
    b__law_gcd := F__law_gcd.binds (ps := ["one", "other"]) fun _ _ _ _ _ _ us hl => match us, hl with | [_, _], _ => rfl,
    F__law_is_map := F__law_is_map, g__law_is_map := PySem.W.mg_of X G a__law_is_map, k__law_is_map := k__law_is_map,
    b__law_is_map := F__law_is_map.binds (ps := ["m", "value"]) fun _ _ _ _ _ _ us hl => match us, hl with | [_, _], _ => rfl,
    F__law_divisors := F__law_divisors, g__law_divisors := PySem.W.mg_of X G a__law_divisors, k__law_divisors := k__law_divisors,
    b__law_divisors := F__law_divisors.binds (ps := ["m"]) fun _ _ _ _ _ _ us hl => match us, hl with | [_], _ => rfl,
    F__law_pick := F__law_pick, g__law_pick := PySem.W.mg_of X G a__law_pick, k__law_pick := k__law_pick,
    b__law_pick := F__law_pick.binds (ps := ["pen", "some"]) fun _ _ _ _ _ _ us hl => match us, hl with | [_, _], _ => rfl,
    F__law_unit := F__law_unit, g__law_unit := PySem.W.mg_of X G a__law_unit, k__law_unit := k__law_unit,
    b__law_unit := F__law_unit.binds (ps := ["pen", "m"]) fun _ _ _ _ _ _ us hl => match us, hl with | [_, _], _ => rfl,
    F__law_map := F__law_map, g__law_map := PySem.W.mg_of X G a__law_map, k__law_map := k__law_map,
    b__law_map := F__law_map.binds (ps := ["pen", "m"]) fun _ _ _ _ _ _ us hl => match us, hl with | [_, _], _ => rfl,
    F__law_shuffled := F__law_shuffled, g__law_shuffled := PySem.W.mg_of X G a__law_shuffled, k__law_shuffled := k__law_shuffled,
    b__law_shuffled := F__law_shuffled.binds (ps := ["pen", "some"]) fun _ _ _ _ _ _ us hl => match us, hl with | [_, _], _ => rfl,
    F__law_modulus := F__law_modulus, g__law_modulus := PySem.W.mg_of X G a__law_modulus, k__law_modulus := k__law_modulus,
    b__law_modulus := F__law_modulus.binds (ps := ["pen", "most"]) fun _ _ _ _ _ _ us hl => match us, hl with | [_, _], _ => rfl,
    F__law_pen := F__law_pen, g__law_pen := PySem.W.mg_of X G a__law_pen, k__law_pen := k__law_pen,
    b__law_pen := F__law_pen.binds (ps := ["script"]) fun _ _ _ _ _ _ us hl => match us, hl with | [_], _ => rfl,
    F_gcd := F_gcd, g_gcd := PySem.W.mg_of X G a_gcd, k_gcd := k_gcd,
    b_gcd := F_gcd.binds (ps := ["first", "second"]) fun _ _ _ _ _ _ us hl => match us, hl with | [_, _], _ => rfl,
    F_is_integer := F_is_integer, g_is_integer := PySem.W.mg_of X G a_is_integer, k_is_integer := k_is_integer,
    b_is_integer := F_is_integer.binds (ps := ["value"]) fun _ _ _ _ _ _ us hl => match us, hl with | [_], _ => rfl,
    F_is_between := F_is_between, g_is_between := PySem.W.mg_of X G a_is_between, k_is_between := k_is_between,
    b_is_between := F_is_between.binds (ps := ["value", "low", "high"]) fun _ _ _ _ _ _ us hl => match us, hl with | [_, _, _], _ => rfl,
    F_is_map := F_is_map, g_is_map := PySem.W.mg_of X G a_is_map, k_is_map := k_is_map,
    b_is_map := F_is_map.binds (ps := ["m", "value"]) fun _ _ _ _ _ _ us hl => match us, hl with | [_, _], _ => rfl,
    F_law := F_law, g_law := PySem.W.mg_of X G a_law, k_law := k_law,
    b_law := F_law.binds (ps := ["script"]) fun _ _ _ _ _ _ us hl => match us, hl with | [_], _ => rfl,
    z_abs := PySem.W.mg_none_of X G z_abs,
    z_all := PySem.W.mg_none_of X G z_all,
    z_bool := PySem.W.mg_none_of X G z_bool,
    z_int := PySem.W.mg_none_of X G z_int,
    z_isinstance := PySem.W.mg_none_of X G z_isinstance,
    z_len := PySem.W.mg_none_of X G z_len,
    z_list := PySem.W.mg_none_of X G z_list,
    z_min := PySem.W.mg_none_of X G z_min,
    z_range := PySem.W.mg_none_of X G z_range,
    z_repr := PySem.W.mg_none_of X G z_repr,
    z_sorted := PySem.W.mg_none_of X G z_sorted,
    z_tuple := PySem.W.mg_none_of X G z_tuple,
  }
  exact ⟨_, m_law, fun s v => .of_eq rfl, fun base _ _ => ok_law T, rfl⟩
end L_affinewalk_k02_values_that_are_maps

namespace L_affinewalk_k02_values_that_are_maps
open PySem PySem.Spec PyProof.Rows L2 DL Gm
local macro_rules | `(tactic| walk_at "evg") => `(tactic| first | with_reducible refine vReprB ?_ | with_reducible refine vLenScr ?_ | fail)
/-- a value that is asked -/
structure askD (d : D) : Prop where
  t : tyD d
  t2 : ∀ ds, d = .node .tup ds → ∀ e ∈ ds, tyD e
  r : shownD d
/-- .. and a part of one -/
def lfD (d : D) : Prop := tyD d ∧ rD d 1000 1
theorem lf_int {i : Int} (h1 : -4000000000 ≤ i) (h2 : i ≤ 4000000000) : lfD (.leaf (.int i)) := ⟨⟨_, rfl⟩, (rD_int (by omega)).mono (by omega) (by omega)⟩
theorem lf_bl (b : Bool) : lfD (.leaf (.bl b)) := ⟨⟨_, rfl⟩, (rD_bl b).mono (by omega) (by omega)⟩
theorem lf_non : lfD (.leaf .non) := ⟨⟨_, rfl⟩, rD_non.mono (by omega) (by omega)⟩
theorem lf_1 : lfD (.leaf (.str (Str.ofString "1"))) := ⟨⟨_, rfl⟩, (rD_str (by decide) (by decide)).mono (by omega) (by omega)⟩
theorem lf_all0 : ∀ x ∈ ([] : List D), lfD x := fun _ h => nomatch h
theorem lf_cons {d : D} {ds : List D} (h : lfD d) (hs : ∀ x ∈ ds, lfD x) : ∀ x ∈ d :: ds, lfD x := fun x hx => by
  rcases List.mem_cons.mp hx with rfl | hx
  · exact h
  · exact hs x hx
theorem ask_tup {ds : List D} (h : ∀ x ∈ ds, lfD x) (hn : ds.length ≤ 4) : askD (.node .tup ds) :=
  ⟨⟨_, rfl⟩, fun es e x hx => by cases e; exact (h x hx).1, (rD_tup (n := 4) (w := 1000) (k := 1) (fun x hx => (h x hx).2) hn).shown (by omega) (by omega)⟩
theorem ask_lst {ds : List D} (h : ∀ x ∈ ds, lfD x) (hn : ds.length ≤ 4) : askD (.node .lst ds) :=
  ⟨⟨_, rfl⟩, fun es e x hx => (by cases e), (rD_lst (n := 4) (w := 1000) (k := 1) (fun x hx => (h x hx).2) hn).shown (by omega) (by omega)⟩
theorem ask_leaf {v : V} (h : lfD (.leaf v)) : askD (.leaf v) := ⟨h.1, fun es e x hx => (by cases e), h.2.shown (by omega) (by omega)⟩
theorem ask_dict0 : askD (.node (.dk []) []) := ⟨⟨_, rfl⟩, fun es e x hx => (by cases e), shown_dict0⟩
theorem lf_pair {a b : D} (ha : tyD a ∧ rD a 200 0) (hb : tyD b ∧ rD b 200 0) : lfD (.node .tup [a, b]) := ⟨⟨_, rfl⟩, (rD_tup (n := 2) (w := 200) (k := 0) (fun x hx => by
  simp only [List.mem_cons, List.not_mem_nil, or_false] at hx
  rcases hx with rfl | rfl
  · exact ha.2
  · exact hb.2) (by simp)).mono (by omega) (by omega)⟩
theorem lf_lst1 : lfD (.node .lst [.leaf (.int 1)]) := ⟨⟨_, rfl⟩, (rD_lst (n := 1) (w := 200) (k := 0) (fun x hx => by
  simp only [List.mem_cons, List.not_mem_nil, or_false] at hx
  subst hx
  exact rD_int (by omega)) (by simp)).mono (by omega) (by omega)⟩
set_option maxHeartbeats 40000000 in
theorem says (ns : List Int) (hn : ns.length ≤ 63) : SaysTrue m_law ns := by
  suffices h : evM m_law [.sh (scriptD ns)] (fun c _ => c = .sh (.leaf (.bl true))) (fun _ _ => False) by
    obtain ⟨r, T', e, q⟩ := h
    cases r with
    | val c => obtain rfl := q; exact ⟨T', e⟩
    | exc x => exact q.elim
  refine evDef _ (by rfl) ?_
  unfold g_law
  repeat' walk_at "ev"
  refine pen_ok ns hn ?_
  repeat' (first | with_reducible refine vMin2A (fun k hk1 hk2 hk3 => ?_) | walk_at "ev")
  refine evFor_range (fun k Γ => ∃ (t r : Int) (x2 x3 x4 x5 x6 x7 x8 : Option Cell), Γ = [some (.sh (scriptD ns)), some (penC ns t r), x2, x3, x4, x5, x6, x7, x8] ∧ 0 ≤ t ∧ t ≤ 400 * (k : Int) ∧ 0 ≤ r ∧ isRf (some x2) = false ∧ isRf (some x3) = false ∧ isRf (some x4) = false ∧ isRf (some x5) = false ∧ isRf (some x6) = false ∧ isRf (some x7) = false ∧ isRf (some x8) = false) _ _ 0 ⟨0, 0, _, _, _, _, _, _, _, rfl, by omega, by omega, by omega, rfl, rfl, rfl, rfl, rfl, rfl, rfl⟩ (fun j Γ hj hI => ?_) fun Γ hI => ?_
  · obtain ⟨t, r, x2, x3, x4, x5, x6, x7, x8, rfl, ht, ht2, hr, f2, f3, f4, f5, f6, f7, f8⟩ := hI
    repeat' walk_at "ev"
    refine pick_ok ns t r _ (by omega) hr (by simp) (by simp) fun d t1 r1 a1 a2 a3 a4 => ?_
    obtain ⟨most, rfl, hm⟩ : ∃ most : Int, d = .leaf (.int most) ∧ (2 ≤ most ∧ most ≤ 1000000000) := by
      simp only [List.mem_cons, List.not_mem_nil, or_false] at a1
      rcases a1 with h | h | h <;> exact ⟨_, h, by decide⟩
    repeat' walk_at "ev"
    refine modulus_ok ns t1 r1 most (by omega) a4 (by omega) fun m t2 r2 hs m1 m2 b1 b2 b3 => ?_
    repeat' walk_at "ev"
    refine map_ok ns t2 r2 m (by omega) b3 (by omega) fun a b t3 r3 c1 c2 c3 c4 c5 c6 c7 c8 => ?_
    repeat' walk_at "ev"
    have sI : ∀ i : Int, -4000000000 ≤ i → i ≤ 4000000000 → rD (.leaf (.int i)) 200 0 := fun i h1 h2 => rD_int (by omega)
    refine evFor_range (fun k Γ => ∃ (t r : Int) (x6 : Option Cell) (ds : List D), Γ = [some (.sh (scriptD ns)), some (penC ns t r), some (.sh (.leaf (.int (0 + (j : Int))))), some (.sh (.leaf (.int m))), some (.sh (mapD a b)), some (.ow .lst ds), x6, x7, x8] ∧ 0 ≤ t ∧ t ≤ t3 + 2 * (k : Int) ∧ 0 ≤ r ∧ isRf (some x6) = false ∧ ds.length ≤ 30 + k ∧ ∀ d ∈ ds, askD d) _ _ 0 ⟨t3, r3, _, _, rfl, by omega, by omega, by omega, by first | exact f6 | rfl, by simp, fun d hd => ?_⟩ (fun j2 Γ hj hI => ?_) fun Γ hI => ?_
    · have ca : lfD (.leaf (.int a)) := lf_int (by omega) (by omega)
      have cb : lfD (.leaf (.int b)) := lf_int (by omega) (by omega)
      have cm : lfD (.leaf (.int m)) := lf_int (by omega) (by omega)
      have cf : lfD (mapD a b) := lf_pair ⟨⟨_, rfl⟩, sI _ (by omega) (by omega)⟩ ⟨⟨_, rfl⟩, sI _ (by omega) (by omega)⟩
      have c0 : lfD (.leaf (.int 0)) := lf_int (by omega) (by omega)
      have c1 : lfD (.leaf (.int 1)) := lf_int (by omega) (by omega)
      have n0 := lf_all0
      simp only [List.mem_append, List.mem_cons, List.not_mem_nil, or_false] at hd
      rcases hd with ((rfl | rfl | rfl | rfl | rfl | rfl | rfl | rfl | rfl) | rfl | rfl | rfl | rfl | rfl | rfl | rfl | rfl | rfl | rfl) | rfl | rfl | rfl | rfl
      · exact ask_tup (lf_cons ca (lf_cons cb n0)) (by simp)
      · exact ask_tup (ds := [_, _]) (lf_cons cb (lf_cons ca n0)) (by simp)
      · exact ask_lst (lf_cons ca (lf_cons cb n0)) (by simp)
      · exact ask_tup (ds := [_, _, _]) (lf_cons ca (lf_cons cb (lf_cons c0 n0))) (by simp)
      · exact ask_tup (ds := [_]) (lf_cons ca n0) (by simp)
      · exact ask_tup (lf_cons ca (lf_cons cm n0)) (by simp)
      · exact ask_tup (lf_cons cm (lf_cons cb n0)) (by simp)
      · exact ask_tup (lf_cons (lf_int (by omega) (by omega)) (lf_cons cb n0)) (by simp)
      · exact ask_tup (lf_cons ca (lf_cons (lf_int (by omega) (by omega)) n0)) (by simp)
      · exact ask_tup (lf_cons (lf_int (by omega) (by omega)) (lf_cons cb n0)) (by simp)
      · exact ask_tup (lf_cons (lf_bl _) (lf_cons c0 n0)) (by simp)
      · exact ask_tup (lf_cons c1 (lf_cons (lf_bl _) n0)) (by simp)
      · exact ask_tup (lf_cons c1 (lf_cons (lf_bl _) n0)) (by simp)
      · exact ask_tup (lf_cons lf_1 (lf_cons c0 n0)) (by simp)
      · exact ask_tup (lf_cons c1 (lf_cons lf_non n0)) (by simp)
      · exact ask_tup n0 (by simp)
      · exact ask_lst n0 (by simp)
      · exact ask_dict0
      · exact ask_leaf lf_non
      · exact ask_leaf c1
      · exact ⟨⟨_, rfl⟩, fun es e x hx => (by cases e), (rD_str (x := Str.ofString "1*x + 0") (by decide) (by decide)).shown (by omega) (by omega)⟩
      · exact ask_tup (lf_cons cf (lf_cons cf n0)) (by simp)
      · exact ask_tup (lf_cons lf_lst1 (lf_cons c0 n0)) (by simp)
    · obtain ⟨t4, r4, x6, ds, rfl, e1, e2, e3, f6, e5, e6⟩ := hI
      repeat' walk_at "ev"
      refine draw_ok ns t4 r4 m (by omega) e3 (by omega) fun d1 t5 r5 g1 g2 g3 g4 g5 => ?_
      repeat' walk_at "ev"
      refine draw_ok ns t5 r5 m (by omega) g5 (by omega) fun d2 t6 r6 h1 h2 h3 h4 h5 => ?_
      repeat' walk_at "ev"
      refine uAppend (by omega) ?_
      repeat' walk_at "ev"
      refine ⟨_, _, _, _, rfl, by omega, by omega, by omega, rfl, by simp; omega, fun d hd => ?_⟩
      rcases List.mem_append.mp hd with hd | hd
      · exact e6 d hd
      · rw [List.mem_singleton] at hd
        subst hd
        exact ⟨⟨_, rfl⟩, fun ds e x hx => by cases e; simp at hx; rcases hx with rfl | rfl <;> exact ⟨_, rfl⟩, ((rD_tup (n := 4) (w := 200) (k := 0) (fun x hx => by simp at hx; rcases hx with rfl | rfl <;> exact sI _ (by omega) (by omega)) (by simp))).shown (by omega) (by omega)⟩
    · obtain ⟨t4, r4, x6, ds, rfl, e1, e2, e3, f6, e5, e6⟩ := hI
      repeat' walk_at "ev"
      refine evFor_inv (fun rest Γ => ∃ (x7 x8 : Option Cell), Γ = [some (.sh (scriptD ns)), some (penC ns t4 r4), some (.sh (.leaf (.int (0 + (j : Int))))), some (.sh (.leaf (.int m))), some (.sh (mapD a b)), some (.sh (.node .lst ds)), x6, x7, x8] ∧ isRf (some x7) = false ∧ isRf (some x8) = false ∧ ∀ d ∈ rest, askD d) _ ⟨_, _, rfl, f7, f8, e6⟩ (fun d rest Γ hI => ?_) fun Γ hI => ?_
      · obtain ⟨x7, x8, rfl, f7, f8, hd⟩ := hI
        have ad := hd d (by simp)
        obtain ⟨s, hs⟩ := ad.r
        repeat' (first | walk_at "ev" | with_reducible refine vReprS hs ?_)
        refine is_map_gen m ad.t ad.t2 ?_
        repeat' (first | walk_at "ev" | with_reducible refine vReprS hs ?_)
        refine law_is_map_gen m (by omega) ad.t ad.t2 ?_
        repeat' (first | walk_at "ev" | with_reducible refine vReprS hs ?_)
        exact ⟨_, _, rfl, rfl, rfl, fun x hx => hd x (by simp [hx])⟩
      · obtain ⟨x7, x8, rfl, f7, f8, hd⟩ := hI
        repeat' walk_at "ev"
        exact ⟨t4, r4, _, _, _, _, _, _, _, rfl, by omega, by omega, by omega, rfl, rfl, rfl, rfl, f6, f7, f8⟩
  · obtain ⟨t, r, x2, x3, x4, x5, x6, x7, x8, rfl, ht, ht2, hr, f2, f3, f4, f5, f6, f7, f8⟩ := hI
    repeat' walk_at "ev"
    rfl

end L_affinewalk_k02_values_that_are_maps
open PySem PySem.W PyProof.Rows
set_option maxRecDepth 100000 in
set_option maxHeartbeats 0 in
theorem PySem.Challenge.cw_affinewalk_k02_values_that_are_maps_holds : PySem.Challenge.rw_affinewalk_k02_values_that_are_maps.Holds := by
  w_on; o_law; k_head; (case hw => w_witness2)
  k_fill
  refine DL.walk_G (l := PySem.Challenge.rw_affinewalk_k02_values_that_are_maps) (k := 5) (x := "script") rfl rfl ⟨rfl, by decide, by decide⟩ (fun w h Y => PySem.W.kIn_of Y) ?F
  case F =>
    intro w mg fa h KX G hmg
    refine DL.fin_of L_affinewalk_k02_values_that_are_maps.says ?_
    refine' L_affinewalk_k02_values_that_are_maps.all_mk KX G hmg ?a__law_draw ?l__law_draw ?c__law_draw ?k__law_draw ?a__law_gcd ?l__law_gcd ?c__law_gcd ?k__law_gcd ?a__law_is_map ?l__law_is_map ?c__law_is_map ?k__law_is_map ?a__law_divisors ?l__law_divisors ?c__law_divisors ?k__law_divisors ?a__law_pick ?l__law_pick ?c__law_pick ?k__law_pick ?a__law_unit ?l__law_unit ?c__law_unit ?k__law_unit ?a__law_map ?l__law_map ?c__law_map ?k__law_map ?a__law_shuffled ?l__law_shuffled ?c__law_shuffled ?k__law_shuffled ?a__law_modulus ?l__law_modulus ?c__law_modulus ?k__law_modulus ?a__law_pen ?l__law_pen ?c__law_pen ?k__law_pen ?a_gcd ?l_gcd ?c_gcd ?k_gcd ?a_is_integer ?l_is_integer ?c_is_integer ?k_is_integer ?a_is_between ?l_is_between ?c_is_between ?k_is_between ?a_is_map ?l_is_map ?c_is_map ?k_is_map ?a_law ?l_law ?c_law ?k_law ?z_abs ?z_all ?z_bool ?z_int ?z_isinstance ?z_len ?z_list ?z_min ?z_range ?z_repr ?z_sorted ?z_tuple
    (case a__law_draw => k_is); (case l__law_draw => k_is); (case c__law_draw => k_is); (case k__law_draw => k_is); (case a__law_gcd => k_is); (case l__law_gcd => k_is); (case c__law_gcd => k_is); (case k__law_gcd => k_is); (case a__law_is_map => k_is); (case l__law_is_map => k_is); (case c__law_is_map => k_is); (case k__law_is_map => k_is); (case a__law_divisors => k_is); (case l__law_divisors => k_is); (case c__law_divisors => k_is); (case k__law_divisors => k_is); (case a__law_pick => k_is); (case l__law_pick => k_is); (case c__law_pick => k_is); (case k__law_pick => k_is); (case a__law_unit => k_is); (case l__law_unit => k_is); (case c__law_unit => k_is); (case k__law_unit => k_is); (case a__law_map => k_is); (case l__law_map => k_is); (case c__law_map => k_is); (case k__law_map => k_is); (case a__law_shuffled => k_is); (case l__law_shuffled => k_is); (case c__law_shuffled => k_is); (case k__law_shuffled => k_is); (case a__law_modulus => k_is); (case l__law_modulus => k_is); (case c__law_modulus => k_is); (case k__law_modulus => k_is); (case a__law_pen => k_is); (case l__law_pen => k_is); (case c__law_pen => k_is); (case k__law_pen => k_is); (case a_gcd => k_is); (case l_gcd => k_is); (case c_gcd => k_is); (case k_gcd => k_is); (case a_is_integer => k_is); (case l_is_integer => k_is); (case c_is_integer => k_is); (case k_is_integer => k_is); (case a_is_between => k_is); (case l_is_between => k_is); (case c_is_between => k_is); (case k_is_between => k_is); (case a_is_map => k_is); (case l_is_map => k_is); (case c_is_map => k_is); (case k_is_map => k_is); (case a_law => k_is); (case l_law => k_is); (case c_law => k_is); (case k_law => k_is); (case z_abs => k_is); (case z_all => k_is); (case z_bool => k_is); (case z_int => k_is); (case z_isinstance => k_is); (case z_len => k_is); (case z_list => k_is); (case z_min => k_is); (case z_range => k_is); (case z_repr => k_is); (case z_sorted => k_is); (case z_tuple => k_is)
